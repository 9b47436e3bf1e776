import Derived.Test.YtfhllanhldbkkaaGreatDoorPx0
import Derived.Test.YtfhllanhldbkkaaGreatDoorPximpl01a
import Derived.Test.YtfhllanhldbkkaaGreatDoorPximpl02i
import Derived.Test.YtfhllanhldbkkaaGreatDoorWC
import Derived.Test.YtfhllanhldbkkaaGreatDoorShelf
import Derived.Lib.AppendStr
import Derived.Lib.ItoaLen
import Derived.Lib.ItoaNum
import Derived.Shelf.Strings.Builder1
import Derived.Test.YtfhllanhldbkkaaGreatDoorPxliba
namespace Go.Proofs.YtfhllanhldbkkaaGreatDoor.P
set_option maxHeartbeats 8000000
set_option maxRecDepth 100000
open Go.RowKit Go.Proofs.YtfhllanhldbkkaaGreatDoorW.ax Go.Proofs.YtfhllanhldbkkaaGreatDoorW.aD Go.Proofs.YtfhllanhldbkkaaGreatDoorW.aH
attribute [local go_sem] nZ oh qI qJ mq mr om oo   -- for this text's walks alone
set_option linter.unusedVariables false
set_option linter.unusedSimpArgs false

def eX.l0 : Nat→List (nV)→Int→Int→Option (Bool)
 |0,_,_,_=>none
 |k+1,x8,x9,x10=>if x10<x9 then(if 0≤x10 then(if x10<(x8.length:Int) then((ik.f k ((bg x8 x10).f0) ((bg x8 x10).f1)).bind fun aoE=>(if aoE=true then(eX.l0 k x8 x9 (wrap64 (x10+1))) else(some false))) else(none)) else(none)) else(some true)
def eX.f (k:Nat) (l0:List (nV)):Option (Bool):=if(l0.length:Int)>20 then(some false) else(eX.l0 k l0 (l0.length:Int) 0)
theorem eX.calls (k:Nat) (A0:Option Addr) (c0:Nat) (l0:List (nV)) (r:Bool) (w:World) (hr0:Kd.C Ct w A0 l0.length l0) (hc0:l0.length≤c0) (h:eX.f k l0=some r) :
  Calls Tryz.prog 38 #[.slice A0 l0.length c0] w fun e w'=>e = .returned (.bool r)∧Below w.heap.size w w':=by
 have RY:=Tryz.underlying72;have Gx:=ae.mk hr0;have O7:=ae.mk hc0;clear hr0 hc0;have HB:=ae.mk (Below.refl w.heap.size w);have H:=h;clear h;unfold eX.f at H;replace H:=gI H;rcases H with⟨c2,-,-,H⟩|⟨c2,-,-,H⟩
 ·have nk:decide (20<(l0.length:Int))=true:=aT c2;have wB:decide (20<l0.length)=true:=aT aa;clear c2;obtain rfl:=cu H;go_enter Tryz.func38,Tryz.ntmps38;go_wp2;go_ret;exact⟨nG,dN⟩
 ·have nk:decide (20<(l0.length:Int))=false:=aN c2;have wB:decide (20<l0.length)=false:=aN aa;clear c2;have H':=ae.mk H;clear H;go_enter Tryz.func38,Tryz.ntmps38;go_wp2;go_loopg [10] k (fun kq v10 w'=>∃(Af:Int),v10 = .int .i64 Af∧ae (eX.l0 kq l0 (l0.length:Int) Af=some r)∧ae (kq≤k)∧ae (Below w.heap.size w w'))
  case atStart=>exact⟨(0),fI,H',⟨Nat.le_refl _⟩,⟨dN⟩⟩
  case round=>
   clear H';try clear c2
   try clear nk
   try clear wB
   obtain⟨Af,rfl,HA,qj,HB⟩:=hrel;cases gk with
   |zero=>exact absurd HA.out (by simp[eX.l0])
   |succ k1=>
    have H:=HA.out;clear HA;simp only[eX.l0] at H;replace H:=gI H;rcases H with⟨-,gM,-,H⟩|⟨-,gM,-,H⟩
    ·replace H:=gN H;obtain⟨-,mP,-,H⟩:=H;replace H:=gN H;obtain⟨-,qh,-,H⟩:=H;replace H:=gD H;obtain⟨aoE,A6,H⟩:=H;replace H:=gB H;rcases H with⟨rfl,H⟩|⟨rfl,H⟩
     ·have H':=ae.mk H;clear H;have ZY:0≤(Af:Int):=bE gL;have ZZ:Af<(l0.length:Int):=bE gL;obtain⟨aoF,alE,JA,JB⟩:=yZ Gx.out Af ZY ZZ;cases alE
      replace JA:=(HB.out.cell (World.block_lt_of_cell? w _ JA)).trans JA;replace JB:=(HB.out.cell (World.block_lt_of_cell? w _ JB)).trans JB;replace ZY:=eq_true ZY;replace ZZ:=eq_true ZZ;go_wp2_with(first|((with_reducible refine aY (N:=4) rfl ?_);refine jX #[.string (⟨#[]⟩:af),.string (⟨#[]⟩:af)] 72 ?_;intro aeD hg w8 hbox hb;have Sn:=ae.mk (hbox);have aoG:=jL hg;have aoH:=jL hg;replace HB:=dS hb;clear hb hbox hg;obtain⟨_,_⟩:=EB Sn;obtain⟨_,_⟩:=Jt Sn)|((with_reducible refine ag (f:=66) rfl ?_);refine aG (some 15) rfl rfl Tryz.func66 aK rfl #[.agg #[.string ((bg l0 Af).f0),.string ((bg l0 Af).f1)]] rfl eu ?_;(with_reducible refine(ik.calls k1 ((bg l0 Af).f0) ((bg l0 Af).f1) true _ A6.out).mono ?_);rintro e w10 ⟨rfl,hb⟩;refine⟨_,rfl,?_⟩;replace Sn:=iG (g:=aeD) (o:=.cells #[.string ((bg l0 Af).f0),.string ((bg l0 Af).f1)] 72 (0,0)) hb;replace HB:=dS hb;(try clear hb)));go_roundg k1
      case measure=>have:=qj.out;omega
      case rel=>exact⟨(wrap64 (Af+1)),fI,H',⟨by have:=qj.out;omega⟩,⟨dN⟩⟩
     ·obtain rfl:=cu H;have ZY:0≤(Af:Int):=bE gL;have ZZ:Af<(l0.length:Int):=bE gL;obtain⟨aoF,alE,JA,JB⟩:=yZ Gx.out Af ZY ZZ;cases alE
      replace JA:=(HB.out.cell (World.block_lt_of_cell? w _ JA)).trans JA;replace JB:=(HB.out.cell (World.block_lt_of_cell? w _ JB)).trans JB;replace ZY:=eq_true ZY;replace ZZ:=eq_true ZZ;go_wp2_with(first|((with_reducible refine aY (N:=4) rfl ?_);refine jX #[.string (⟨#[]⟩:af),.string (⟨#[]⟩:af)] 72 ?_;intro aeD hg w11 hbox hb;have Sn:=ae.mk (hbox);have aoG:=jL hg;have aoH:=jL hg;replace HB:=dS hb;clear hb hbox hg;obtain⟨_,_⟩:=EB Sn;obtain⟨_,_⟩:=Jt Sn)|((with_reducible refine ag (f:=66) rfl ?_);refine aG (some 15) rfl rfl Tryz.func66 aK rfl #[.agg #[.string ((bg l0 Af).f0),.string ((bg l0 Af).f1)]] rfl eu ?_;(with_reducible refine(ik.calls k1 ((bg l0 Af).f0) ((bg l0 Af).f1) false _ A6.out).mono ?_);rintro e w13 ⟨rfl,hb⟩;refine⟨_,rfl,?_⟩;replace Sn:=iG (g:=aeD) (o:=.cells #[.string ((bg l0 Af).f0),.string ((bg l0 Af).f1)] 72 (0,0)) hb;replace HB:=dS hb;(try clear hb)));go_ret;exact⟨nG,dN⟩
    ·obtain rfl:=cu H;go_wp2;go_ret;exact⟨nG,dN⟩

def iw.l0 : Nat→ByteArray→List ByteArray→List (nV)→Int→Int→Option (List ByteArray)
 |0,_,_,_,_,_=>none
 |k+1,x1,x5,x11,x12,x13=>if x13<x12 then(if 0≤x13 then(if x13<(x11.length:Int) then((oN.f ((bg x11 x13).f0) x1).bind fun aoI=>(if aoI=true then(if x5.length<8796093022208 then(iw.l0 k x1 (x5 ++ [(bg x11 x13).f1]) x11 x12 (wrap64 (x13+1))) else(none)) else(iw.l0 k x1 x5 x11 x12 (wrap64 (x13+1))))) else(none)) else(none)) else(some x5)
def iw.f (k:Nat) (l0:List (nV)) (a1:ByteArray):Option (List ByteArray):=(eX.f k l0).bind fun aoJ=>(if aoJ=true then(iw.l0 k a1 ([]:List ByteArray) l0 (l0.length:Int) 0) else(some ([]:List ByteArray)))
theorem iw.calls (k:Nat) (A0:Option Addr) (c0:Nat) (l0:List (nV)) (a1:ByteArray) (r:List ByteArray) (w:World) (hr0:Kd.C Ct w A0 l0.length l0) (hc0:l0.length≤c0) (h:iw.f k l0 a1=some r) :
  Calls Tryz.prog 90 #[.slice A0 l0.length c0,.string a1] w fun e w'=>∃ PV:Value,e = .returned (PV)∧Kd.R Kd.string 9 w' w.heap.size (fun _=>True) PV r∧Below w.heap.size w w':=by
 have RY:=Tryz.underlying72;have Gx:=ae.mk hr0;have O7:=ae.mk hc0;clear hr0 hc0;have HB:=ae.mk (Below.refl w.heap.size w);have H:=h;clear h;unfold iw.f at H;replace H:=gD H;obtain⟨aoJ,A3,H⟩:=H;replace H:=gB H;rcases H with⟨rfl,H⟩|⟨rfl,H⟩
 ·have H':=ae.mk H;clear H;go_enter Tryz.func90,Tryz.ntmps90;go_wp2_with(first|((with_reducible refine ag (f:=38) rfl ?_);refine aG (some 9) rfl rfl Tryz.func38 aK rfl #[.slice A0 l0.length c0] rfl eu ?_;(with_reducible refine(eX.calls k _ _ l0 true _ ?bM ?bN A3.out).mono ?_);(case bM=>repeat(first|exact Gx.out|(with_reducible refine Kd.aZ ?_ _)|(with_reducible refine Kd.bf ?_ _)|(with_reducible refine Kd.bP ?_)));(case bN=>exact O7.out);rintro e w5 ⟨rfl,hb⟩;refine⟨_,rfl,?_⟩;replace HB:=dS hb;(try clear hb)));go_loopg [5,13] k (fun kq v5 v13 w'=>∃(dJ:List ByteArray) (wC:Int),v13 = .int .i64 wC∧ae (iw.l0 kq a1 dJ l0 (l0.length:Int) wC=some r)∧ae (kq≤k)∧ae (Kd.R Kd.string 9 w' w.heap.size (fun _=>True) v5 dJ)∧ae (Below w.heap.size w w'))
  case atStart=>exact⟨(([]:List ByteArray)),(0),fI,H',⟨Nat.le_refl _⟩,⟨Ud⟩,⟨dN⟩⟩
  case round=>
   clear H';obtain⟨dJ,wC,rfl,HA,qj,yX,HB⟩:=hrel;cases gk with
   |zero=>exact absurd HA.out (by simp[iw.l0])
   |succ k1=>
    have H:=HA.out;clear HA;simp only[iw.l0] at H;replace H:=gI H;rcases H with⟨-,nW,-,H⟩|⟨-,nW,-,H⟩
    ·replace H:=gN H;obtain⟨-,uR,-,H⟩:=H;replace H:=gN H;obtain⟨-,tO,-,H⟩:=H;replace H:=gD H;obtain⟨aoI,A9,H⟩:=H;replace H:=gB H;rcases H with⟨rfl,H⟩|⟨rfl,H⟩
     ·replace H:=gN H;obtain⟨c11,-,-,H⟩:=H;have Xr:=ae.mk c11;clear c11;obtain⟨aoK,XD⟩:∃ y_:List ByteArray,y_=(dJ ++ [(bg l0 wC).f1]):=⟨_,rfl⟩;replace H:(iw.l0 k1 a1 aoK l0 (l0.length:Int) (wrap64 (wC+1)))=some r:=by first|(rw[XD];with_reducible exact H)|(have rq:=(aj _ _).symm.trans H;rw[XD];with_reducible exact rq)|(have rq:=(aj _ _).symm.trans H;with_reducible exact rq)|with_reducible exact H|(rw[XD];exact H)|exact H
      have aoL:=ae.mk XD;clear XD;have H':=ae.mk H;clear H;have Z0:0≤(wC:Int):=bE gL;have Z4:wC<(l0.length:Int):=bE gL;obtain⟨aoM,alF,JC,JD⟩:=yZ Gx.out wC Z0 Z4;cases alF
      replace JC:=(HB.out.cell (World.block_lt_of_cell? w _ JC)).trans JC;replace JD:=(HB.out.cell (World.block_lt_of_cell? w _ JD)).trans JD;replace Z0:=eq_true Z0;replace Z4:=eq_true Z4;go_wp2_with(first|((with_reducible refine aY (N:=7) rfl ?_);refine jX #[.string (⟨#[]⟩:af),.string (⟨#[]⟩:af)] 72 ?_;intro abf hg w12 hbox hb;have GD:=ae.mk (hbox);have aoN:=jL hg;have aoO:=jL hg;replace yX:=ae.mk (Kd.dF Ue hb);replace HB:=dS hb;clear hb hbox hg;obtain⟨_,_⟩:=EB GD;obtain⟨_,_⟩:=Jt GD)|((with_reducible refine ag (f:=131) rfl ?_);refine aG (some 20) rfl rfl Tryz.func131 aK rfl #[.string ((bg l0 wC).f0),.string a1] rfl eu ?_;(with_reducible refine(oN.calls ((bg l0 wC).f0) a1 true _ A9.out).mono ?_);rintro e w14 ⟨rfl,hb⟩;refine⟨_,rfl,?_⟩;replace yX:=ae.mk (Kd.dF (by(with_reducible repeat(first|apply Kd.dW|apply Kd.dU|apply Kd.ek));exact(Fz (Kd.nX yX.out GD.out ak) (fun _ h_=>h_.1))) hb);replace GD:=iG (g:=abf) (o:=.cells #[.string ((bg l0 wC).f0),.string ((bg l0 wC).f1)] 72 (0,0)) hb;replace HB:=dS hb;(try clear hb);obtain⟨_,_⟩:=EB GD;obtain⟨_,_⟩:=Jt GD)|((with_reducible refine lJ (b:=.append) (xs:=#[.tmp 21,.tmp 24]) rfl ?_);at_builtin;refine Kd.rZ Kd.string (w0:=w) w.heap.size rfl (.tmp 21) (.tmp 24) 76 9 (.string ⟨#[]⟩) 16 rfl Tryz.underlying76 J6 rfl ak aa u5 dJ ((bg l0 wC).f1) [.string ((bg l0 wC).f1)] (fun _=>True) (fun _=>False) rfl rfl ?aP (fun _ hk=>hk.elim) ?aF ?aO ?aB ?aS ?aL ?_;(case aP=>exact rfl);(case aB=>exact dN);(case aF=>exact(fun _ _=>trivial));(case aO=>exact Ue);(case aS=>exact(bY dN));(case aL=>have:=Xr.out;omega);intro ayN w16 ho hb hg hat;rw[← aoL.out] at ho;have o7:=ae.mk (Ux (g:=abf) (o:=.cells #[.string ((bg l0 wC).f0),.string ((bg l0 wC).f1)] 72 (0,0)) (by(with_reducible repeat(first|refine dm ?_ _|refine bJ ?_|refine dD ?_ _));exact GD.out) hg (Kd.ac3 yX.out GD.out ak));have qG:=ae.mk (hb);have Bi:=ae.mk (ho);clear GD;clear HB;clear yX;have GD:=o7;have HB:=qG;have av9:=Bi;clear o7 qG Bi;clear ho hb hg hat));go_roundg k1
      case measure=>have:=qj.out;omega
      case rel=>exact⟨(aoK),(wrap64 (wC+1)),fI,H',⟨by have:=qj.out;omega⟩,⟨Ah⟩,⟨dN⟩⟩
     ·have H':=ae.mk H;clear H;have Z0:0≤(wC:Int):=bE gL;have Z4:wC<(l0.length:Int):=bE gL;obtain⟨aoM,alF,JC,JD⟩:=yZ Gx.out wC Z0 Z4;cases alF
      replace JC:=(HB.out.cell (World.block_lt_of_cell? w _ JC)).trans JC;replace JD:=(HB.out.cell (World.block_lt_of_cell? w _ JD)).trans JD;replace Z0:=eq_true Z0;replace Z4:=eq_true Z4;go_wp2_with(first|((with_reducible refine aY (N:=7) rfl ?_);refine jX #[.string (⟨#[]⟩:af),.string (⟨#[]⟩:af)] 72 ?_;intro abf hg w17 hbox hb;have GD:=ae.mk (hbox);have aoN:=jL hg;have aoO:=jL hg;replace yX:=ae.mk (Kd.dF Ue hb);replace HB:=dS hb;clear hb hbox hg;obtain⟨_,_⟩:=EB GD;obtain⟨_,_⟩:=Jt GD)|((with_reducible refine ag (f:=131) rfl ?_);refine aG (some 20) rfl rfl Tryz.func131 aK rfl #[.string ((bg l0 wC).f0),.string a1] rfl eu ?_;(with_reducible refine(oN.calls ((bg l0 wC).f0) a1 false _ A9.out).mono ?_);rintro e w19 ⟨rfl,hb⟩;refine⟨_,rfl,?_⟩;replace yX:=ae.mk (Kd.dF (by(with_reducible repeat(first|apply Kd.dW|apply Kd.dU|apply Kd.ek));exact(Fz (Kd.nX yX.out GD.out ak) (fun _ h_=>h_.1))) hb);replace GD:=iG (g:=abf) (o:=.cells #[.string ((bg l0 wC).f0),.string ((bg l0 wC).f1)] 72 (0,0)) hb;replace HB:=dS hb;(try clear hb)));go_roundg k1
      case measure=>have:=qj.out;omega
      case rel=>exact⟨(dJ),(wrap64 (wC+1)),fI,H',⟨by have:=qj.out;omega⟩,⟨Ah⟩,⟨dN⟩⟩
    ·obtain rfl:=cu H;go_wp2;go_ret;exact⟨_,nG,Ah,dN⟩
 ·obtain rfl:=cu H;go_enter Tryz.func90,Tryz.ntmps90;go_wp2_with(first|((with_reducible refine ag (f:=38) rfl ?_);refine aG (some 9) rfl rfl Tryz.func38 aK rfl #[.slice A0 l0.length c0] rfl eu ?_;(with_reducible refine(eX.calls k _ _ l0 false _ ?bM ?bN A3.out).mono ?_);(case bM=>repeat(first|exact Gx.out|(with_reducible refine Kd.aZ ?_ _)|(with_reducible refine Kd.bf ?_ _)|(with_reducible refine Kd.bP ?_)));(case bN=>exact O7.out);rintro e w20 ⟨rfl,hb⟩;refine⟨_,rfl,?_⟩;replace HB:=dS hb;(try clear hb)));go_ret;exact⟨_,nG,Ud,dN⟩

def oP.f (k:Nat) (l0:List (nV)) (a1:ByteArray):Option (Bool):=(iw.f k l0 a1).bind fun alG=>(some (decide ((alG.length:Int)>0)))
theorem oP.calls (k:Nat) (A0:Option Addr) (c0:Nat) (l0:List (nV)) (a1:ByteArray) (r:Bool) (w:World) (hr0:Kd.C Ct w A0 l0.length l0) (hc0:l0.length≤c0) (h:oP.f k l0 a1=some r) :
  Calls Tryz.prog 51 #[.slice A0 l0.length c0,.string a1] w fun e w'=>e = .returned (.bool r)∧Below w.heap.size w w':=by
 have Gx:=ae.mk hr0;have O7:=ae.mk hc0;clear hr0 hc0;have HB:=ae.mk (Below.refl w.heap.size w);have H:=h;clear h;unfold oP.f at H;replace H:=gD H;obtain⟨alG,A3,H⟩:=H;obtain rfl:=cu H;go_enter Tryz.func51,Tryz.ntmps51;go_wp2_with(((with_reducible refine ag (f:=90) rfl ?_);refine aG (some 7) rfl rfl Tryz.func90 aK rfl #[.slice A0 l0.length c0,.string a1] rfl eu ?_;(with_reducible refine(iw.calls k _ _ l0 a1 alG _ ?bM ?bN A3.out).mono ?_);(case bM=>repeat(first|exact Gx.out|(with_reducible refine Kd.aZ ?_ _)|(with_reducible refine Kd.bf ?_ _)|(with_reducible refine Kd.bP ?_)));(case bN=>exact O7.out);rintro e jm ⟨ayO,rfl,ho0,hb⟩;refine⟨_,rfl,?_⟩;have aoP:=ae.mk (Kd.iT ho0 (bY dN));replace HB:=dS hb;(try clear hb);(try clear ho0);obtain⟨Ao5,co5,eo5⟩:=Kd.iA aoP.out;subst eo5));go_ret;exact⟨nG,dN⟩

def xE.f (aA:ByteArray) (aC:ByteArray):Option (ByteArray):=if aA.size+2≤9223372036854775807 then(if(aA++(⟨#[58,32]⟩:af)).size+aC.size≤9223372036854775807 then(some ((aA++(⟨#[58,32]⟩:af))++aC)) else(none)) else(none)
theorem xE.calls (aA aC r:ByteArray) (w:World) (h:xE.f aA aC=some r) :
  Calls Tryz.prog 112 #[.agg #[.string aA,.string aC]] w fun e w'=>e = .returned (.string r)∧Below w.heap.size w w':=by
 have RY:=Tryz.underlying72;have HB:=ae.mk (Below.refl w.heap.size w);have H:=h;clear h;unfold xE.f at H;replace H:=gI H;rcases H with⟨c2,wB,nk,H⟩|⟨c2,-,-,H⟩
 ·try have aeE:(9223372036854775807<aA.size+2)=False:=eq_false (Nat.not_lt.2 c2)
  replace H:=gN H;obtain⟨c3,uX,gM,H⟩:=H;try have Ui:(9223372036854775807<(aA++(⟨#[58,32]⟩:af)).size+aC.size)=False:=eq_false (Nat.not_lt.2 c3)
  try have ate:(9223372036854775807<aA.size+2+aC.size)=False:=by have h_:=c3;simp only[ByteArray.size_append] at h_;exact eq_false (Nat.not_lt.2 h_)
  obtain rfl:=cu H;go_enter Tryz.func112,Tryz.ntmps112;go_wp2_with(((with_reducible refine aY (N:=1) rfl ?_);refine jX #[.string aA,.string aC] 72 ?_;intro awc hg jm hbox hb;have ajd:=ae.mk (hbox);have awd:=jL hg;replace HB:=dS hb;clear hb hbox hg;obtain⟨_,_⟩:=EB ajd;obtain⟨_,_⟩:=Jt ajd));go_ret;exact⟨nG,dN⟩
 ·exact absurd H (by simp)


def xz.f (k:Nat) (l0:List (nV)) (a1:ByteArray):Option (ByteArray×Bool):=(iw.f k l0 a1).bind fun L9=>(if(L9.length:Int)=0 then(some ((⟨#[]⟩:af),false)) else(if 0<(L9.length:Int) then(some (cZ ByteArray.empty L9 0,true)) else(none)))
theorem xz.calls (k:Nat) (A0:Option Addr) (c0:Nat) (l0:List (nV)) (a1 r1:ByteArray) (r2:Bool) (w:World) (hr0:Kd.C Ct w A0 l0.length l0) (hc0:l0.length≤c0) (h:xz.f k l0 a1=some (r1,r2)) :
  Calls Tryz.prog 78 #[.slice A0 l0.length c0,.string a1] w fun e w'=>e = .returned (.tuple #[.string r1,.bool r2])∧Below w.heap.size w w':=by
 have Gx:=ae.mk hr0;have O7:=ae.mk hc0;clear hr0 hc0;have HB:=ae.mk (Below.refl w.heap.size w);have H:=h;clear h;unfold xz.f at H;replace H:=gD H;obtain⟨L9,A3,H⟩:=H;replace H:=gI H;rcases H with⟨c4,-,-,H⟩|⟨c4,-,-,H⟩
 ·obtain⟨mP,yH⟩:=rD c4;clear c4;simp only[Option.some.injEq,Prod.mk.injEq] at H;obtain⟨rfl,rfl⟩:=H;go_enter Tryz.func78,Tryz.ntmps78;go_wp2_with(first|((with_reducible refine ag (f:=90) rfl ?_);refine aG (some 9) rfl rfl Tryz.func90 aK rfl #[.slice A0 l0.length c0,.string a1] rfl eu ?_;(with_reducible refine(iw.calls k _ _ l0 a1 L9 _ ?bM ?bN A3.out).mono ?_);(case bM=>repeat(first|exact Gx.out|(with_reducible refine Kd.aZ ?_ _)|(with_reducible refine Kd.bf ?_ _)|(with_reducible refine Kd.bP ?_)));(case bN=>exact O7.out);rintro e w5 ⟨aoQ,rfl,ho0,hb⟩;refine⟨_,rfl,?_⟩;have V3:=ae.mk (Kd.iT ho0 (bY dN));replace HB:=dS hb;(try clear hb);(try clear ho0);obtain⟨Ao6,co6,eo6⟩:=Kd.iA V3.out;subst eo6));go_ret2;exact⟨nG,dN⟩
 ·obtain⟨mP,yH⟩:=rO c4;have XE:¬ (L9 = []):=fun h_=>c4 (by rw[h_];rfl);replace H:=gI H;rcases H with⟨c7,uR,-,H⟩|⟨c7,-,-,H⟩
  ·have KS:decide (0<L9.length)=true:=aT aa;clear c7;simp only[Option.some.injEq,Prod.mk.injEq] at H;obtain⟨rfl,rfl⟩:=H;go_enter Tryz.func78,Tryz.ntmps78;go_wp2_with(first|((with_reducible refine ag (f:=90) rfl ?_);refine aG (some 9) rfl rfl Tryz.func90 aK rfl #[.slice A0 l0.length c0,.string a1] rfl eu ?_;(with_reducible refine(iw.calls k _ _ l0 a1 L9 _ ?bM ?bN A3.out).mono ?_);(case bM=>repeat(first|exact Gx.out|(with_reducible refine Kd.aZ ?_ _)|(with_reducible refine Kd.bf ?_ _)|(with_reducible refine Kd.bP ?_)));(case bN=>exact O7.out);rintro e w8 ⟨aoQ,rfl,ho0,hb⟩;refine⟨_,rfl,?_⟩;have V3:=ae.mk (Kd.iT ho0 (bY dN));replace HB:=dS hb;(try clear hb);(try clear ho0);obtain⟨Ao9,co9,eo9⟩:=Kd.iA V3.out;subst eo9;have aeF:0≤(0:Int):=aa;have aeG:0<(L9.length:Int):=bE gL;obtain⟨atf,aoR,XF⟩:=Kd.iV (Kd.bC V3.out).2.2 0 aeF aeG;cases aoR;have atg:(0<L9.length)=True:=eq_true aa;(try rw[show((0:Int)).toNat=0 from rfl] at XF);(try rw[Addr.add_zero'] at XF);replace aeF:=eq_true aeF;replace aeG:=eq_true aeG));go_ret2;exact⟨nG,dN⟩
  ·exact absurd H (by simp)

-- IMPORT Shelf

def qM.f (a0:Int):Option (Bool):=if a0≥33 then(some (decide (a0≤126))) else(some false)
theorem qM.calls (a0:Int) (r:Bool) (w:World) (h:qM.f a0=some r) :
  Calls Tryz.prog 109 #[.int .u8 a0] w fun e w'=>e = .returned (.bool r)∧ed w w':=by
 have H:=h;clear h;unfold qM.f at H;replace H:=gI H;rcases H with⟨c2,-,-,H⟩|⟨c2,-,-,H⟩
 ·have nk:decide (33≤a0)=true:=aT c2;clear c2;obtain rfl:=cu H;go_enter Tryz.func109,Tryz.ntmps109;go_wp2;go_ret;exact⟨fI,lG⟩
 ·have nk:decide (33≤a0)=false:=aN c2;clear c2;obtain rfl:=cu H;go_enter Tryz.func109,Tryz.ntmps109;go_wp2;go_ret;exact⟨fI,lG⟩

def bq.l0 : Nat→ByteArray→Int→Option (Bool)
 |0,_,_=>none
 |k+1,x0,x5=>if x5<(x0.size:Int) then(if 0≤x5 then((qM.f (bt x0 x5)).bind fun aoS=>(if aoS=true then(bq.l0 k x0 (wrap64 (x5+1))) else(some false))) else(none)) else(some true)
def bq.f (k:Nat) (a0:ByteArray)  : Option (Bool):=bq.l0 k a0 0
theorem bq.calls (k:Nat) (a0:ByteArray)  (r:Bool) (w:World) (h:bq.f k a0=some r) :
  Calls Tryz.prog 107 #[.string a0,.func (.func 109) #[] #[]] w fun e w'=>e = .returned (.bool r)∧ed w w':=by
 have H:=h;clear h;unfold bq.f at H;have H':=ae.mk H;clear H;go_enter Tryz.func107,Tryz.ntmps107;go_wp2;go_loopg [5] k (fun kq v5 w'=>∃(dJ:Int),v5 = .int .i64 dJ∧ae (bq.l0 kq a0 dJ=some r)∧ae (kq≤k)∧ed w w')
 case atStart=>exact⟨(0),fI,H',⟨Nat.le_refl _⟩,lG⟩
 case round=>
  clear H';obtain⟨dJ,rfl,HA,qj,⟨m1,rfl⟩⟩:=hrel;cases gk with
  |zero=>exact absurd HA.out (by simp[bq.l0])
  |succ k1=>
   have H:=HA.out;clear HA;simp only[bq.l0] at H;replace H:=gI H;rcases H with⟨-,gM,-,H⟩|⟨-,gM,-,H⟩
   ·replace H:=gN H;obtain⟨-,mP,-,H⟩:=H;replace H:=gD H;obtain⟨aoS,A6,H⟩:=H;replace H:=gB H;rcases H with⟨rfl,H⟩|⟨rfl,H⟩
    ·have H':=ae.mk H;clear H;have p5:0≤(dJ:Int):=bE gL;have q5:dJ<(a0.size:Int):=bE gL;have hx5:=gV a0 dJ;replace p5:=eq_true p5;replace q5:=eq_true q5;go_wp2_with((go_at_call 109;(with_reducible refine(qM.calls (bt a0 dJ) true _ A6.out).mono ?_);rintro e w' ⟨rfl,⟨nd,rfl⟩⟩));go_roundg k1
     case measure=>have:=qj.out;omega
     case rel=>exact⟨(wrap64 (dJ+1)),fI,H',⟨by have:=qj.out;omega⟩,lG⟩
    ·obtain rfl:=cu H;have p5:0≤(dJ:Int):=bE gL;have q5:dJ<(a0.size:Int):=bE gL;have hx5:=gV a0 dJ;replace p5:=eq_true p5;replace q5:=eq_true q5;go_wp2_with((go_at_call 109;(with_reducible refine(qM.calls (bt a0 dJ) false _ A6.out).mono ?_);rintro e w' ⟨rfl,⟨nd,rfl⟩⟩));go_ret;exact⟨fI,lG⟩
   ·obtain rfl:=cu H;go_wp2;go_ret;exact⟨fI,lG⟩

def xQ.f  : Option (List ByteArray):=some (([(⟨#[99,111,110,116,101,110,116,45,108,101,110,103,116,104]⟩:af),(⟨#[116,114,97,110,115,102,101,114,45,101,110,99,111,100,105,110,103]⟩:af),(⟨#[116,114,97,105,108,101,114]⟩:af)]:List ByteArray))
theorem xQ.calls  (r:List ByteArray) (w:World) (h:xQ.f  = some r) :
  Calls Tryz.prog 67 #[] w fun e w'=>∃ PV:Value,e = .returned (PV)∧Kd.R Kd.string 9 w' w.heap.size (fun _=>True) PV r∧Below w.heap.size w w':=by
 have HB:=ae.mk (Below.refl w.heap.size w);have H:=h;clear h;unfold xQ.f at H;obtain⟨ath,XG⟩:∃ y_:List ByteArray,y_=(([(⟨#[99,111,110,116,101,110,116,45,108,101,110,103,116,104]⟩:af),(⟨#[116,114,97,110,115,102,101,114,45,101,110,99,111,100,105,110,103]⟩:af),(⟨#[116,114,97,105,108,101,114]⟩:af)]:List ByteArray)):=⟨_,rfl⟩;replace H:(some ath)=some r:=by first|(rw[XG];with_reducible exact H)|(have rq:=(aj _ _).symm.trans H;rw[XG];with_reducible exact rq)|(have rq:=(aj _ _).symm.trans H;with_reducible exact rq)|with_reducible exact H|(rw[XG];exact H)|exact H
 have aje:=ae.mk XG;clear XG;obtain rfl:=cu H;go_enter Tryz.func67,Tryz.ntmps67;go_wp2_with(((with_reducible refine aY (N:=1) rfl ?_);refine Kd.Wz Kd.string _ 9 ?hg (N:=1) ?hd (xs:=([(⟨#[99,111,110,116,101,110,116,45,108,101,110,103,116,104]⟩:af),(⟨#[116,114,97,110,115,102,101,114,45,101,110,99,111,100,105,110,103]⟩:af),(⟨#[116,114,97,105,108,101,114]⟩:af)]:List ByteArray)) (inner:=[.string (⟨#[99,111,110,116,101,110,116,45,108,101,110,103,116,104]⟩:af),.string (⟨#[116,114,97,110,115,102,101,114,45,101,110,99,111,100,105,110,103]⟩:af),.string (⟨#[116,114,97,105,108,101,114]⟩:af)]) (ok:=fun _=>True) (okp:=fun _=>True) ?hr ?hp (fun _ hk=>hk) trivial (Below.refl _ _) (Nat.le_refl _) (by simp) ?_;(case hd=>rfl);(case hg=>rfl);(case hr=>first|(go_simp;done)|(go_simp;rfl));(case hp=>exact(jK.one (show Kd.M Kd.string _ _ _ (⟨#[99,111,110,116,101,110,116,45,108,101,110,103,116,104]⟩:af) [.string (⟨#[99,111,110,116,101,110,116,45,108,101,110,103,116,104]⟩:af)] from rfl) (jK.one (show Kd.M Kd.string _ _ _ (⟨#[116,114,97,110,115,102,101,114,45,101,110,99,111,100,105,110,103]⟩:af) [.string (⟨#[116,114,97,110,115,102,101,114,45,101,110,99,111,100,105,110,103]⟩:af)] from rfl) (jK.one (show Kd.M Kd.string _ _ _ (⟨#[116,114,97,105,108,101,114]⟩:af) [.string (⟨#[116,114,97,105,108,101,114]⟩:af)] from rfl) (jK.none _ _)))));intro ayP jm ho2 hb hg_ hnew_;clear hg_ hnew_;(first|rw[← aje.out] at ho2|(simp only[Int.reduceToNat] at ho2;rw[← aje.out] at ho2));have awe:=ae.mk (Kd.iT ho2 (bY dN));replace HB:=dS hb;clear hb ho2));go_ret;exact⟨_,nG,Ah,dN⟩

def rX.f (a0:Int):Option (Bool):=(dz.f a0 200 599).bind fun alH=>(some alH)
theorem rX.calls (a0:Int) (r:Bool) (w:World) (h:rX.f a0=some r) :
  Calls Tryz.prog 70 #[.int .i64 a0] w fun e w'=>e = .returned (.bool r)∧ed w w':=by
 have H:=h;clear h;unfold rX.f at H;replace H:=gD H;obtain⟨alH,A2,H⟩:=H;obtain rfl:=cu H;go_enter Tryz.func70,Tryz.ntmps70;go_wp2_with(((with_reducible refine ag (f:=65) rfl ?_);refine aG (some 4) rfl rfl Tryz.func65 aK rfl #[.int .i64 a0,.int .i64 200,.int .i64 599] rfl eu ?_;(with_reducible refine(dz.calls a0 200 599 alH _ A2.out).mono ?_);rintro e w' ⟨rfl,⟨nd,rfl⟩⟩;refine⟨_,rfl,?_⟩));go_ret;exact⟨fI,lG⟩

def rY.f (k:Nat) (a0:ByteArray):Option (Bool):=if(a0.size:Int)≤40 then((bT.f k a0).bind fun alI=>(some alI)) else(some false)
theorem rY.calls (k:Nat) (a0:ByteArray) (r:Bool) (w:World) (h:rY.f k a0=some r) :
  Calls Tryz.prog 71 #[.string a0] w fun e w'=>e = .returned (.bool r)∧ed w w':=by
 have H:=h;clear h;unfold rY.f at H;replace H:=gI H;rcases H with⟨c2,nk,-,H⟩|⟨c2,nk,-,H⟩
 ·have wB:decide (a0.size≤40)=true:=aT aa;clear c2;replace H:=gD H;obtain⟨alI,A3,H⟩:=H;obtain rfl:=cu H;go_enter Tryz.func71,Tryz.ntmps71;go_wp2_with((go_at_call 107;(with_reducible refine(bT.calls k a0  alI _ A3.out).mono ?_);rintro e w' ⟨rfl,⟨nd,rfl⟩⟩));go_ret;exact⟨fI,lG⟩
 ·have wB:decide (a0.size≤40)=false:=aN aa;clear c2;obtain rfl:=cu H;go_enter Tryz.func71,Tryz.ntmps71;go_wp2;go_ret;exact⟨fI,lG⟩

def jg.f (a0:Int):Option (Bool):=if a0=204 then(some true) else(some (a0==304))
theorem jg.calls (a0:Int) (r:Bool) (w:World) (h:jg.f a0=some r) :
  Calls Tryz.prog 72 #[.int .i64 a0] w fun e w'=>e = .returned (.bool r)∧ed w w':=by
 have H:=h;clear h;unfold jg.f at H;replace H:=gI H;rcases H with⟨c2,-,-,H⟩|⟨c2,-,-,H⟩
 ·obtain⟨nk,wB⟩:=rD c2;clear c2;obtain rfl:=cu H;go_enter Tryz.func72,Tryz.ntmps72;go_wp2;go_ret;exact⟨fI,lG⟩
 ·obtain⟨nk,wB⟩:=rO c2;obtain rfl:=cu H;go_enter Tryz.func72,Tryz.ntmps72;go_wp2;go_ret;exact⟨fI,lG⟩


-- IMPORT Shelf Derived.Lib.AppendStr Derived.Lib.ItoaNum Derived.Lib.ItoaLen Derived.Shelf.Strings.Builder1
def BU (w:World) (b:Nat) (t:ByteArray):Prop:=Lib.IsBuilder 102 5 b b (Lib.strCells t) w
theorem V4 (s t:ByteArray):Lib.strCells (s++t)=Lib.strCells s++Lib.strCells t:=by
 unfold Lib.strCells
 rw[← List.map_append]
 congr 1
theorem ajf {w:World} {b:Nat} {t:ByteArray} (h:BU w b t):b<w.heap.size:=by
 rcases h with⟨_,v,h2,_⟩|⟨_,v,h2,_⟩ <;> exact F4 h2
theorem Oe {w w':World} {b:Nat} {t:ByteArray} (h:ae (BU w b t)) (hb:Below w.heap.size w w'):ae (BU w' b t):=by
 have key:∀ p,Lib.BuilderAt 102 5 b b p (Lib.strCells t) w→Lib.BuilderAt 102 5 b b p (Lib.strCells t) w':=by
  rintro p ⟨h1,v,h2,h3,h4⟩
  refine⟨h1,v,(hb.block b (F4 h2)).trans h2,⟨h3.1,?_⟩,h4⟩
  rcases h3.2 with h5|⟨g,cap,cur,e1,e2,e3,e4⟩
  ·exact .inl h5
  ·exact .inr ⟨g,cap,cur,e1,e2,(hb.block g (F4 e3)).trans e3,e4⟩
 exact⟨h.out.elim (fun x=>.inl (key _ x)) (fun x=>.inr (key _ x))⟩
theorem alJ {w:World} {b:Nat} (h:w.heap[b]? = some (.cells #[.pointer none,.slice none 0 0] 102 (0,0))):ae (BU w b ⟨#[]⟩):=
 ⟨.inl ⟨Nat.le_refl _,.slice none 0 0,h,⟨rfl,.inl ⟨rfl,rfl⟩⟩,by simp[Value.ownBlock]⟩⟩
theorem Og {w:World} {b:Nat} {t:ByteArray} (s:ByteArray) (h:ae (BU w b t)) (hl:t.size+s.size≤140737488355328) :
  Calls Tryz.prog 110 #[.pointer (some ⟨b,0,none⟩),.string s] w fun e w'=>e = .returned (.tuple #[.int .i64 s.size,.nilIface])∧ae (BU w' b (t++s))∧Below b w w':=by
 refine(Any.Builder_WriteString ({ Tryz.QS with }:Lays.n166 Tryz.prog Tryz.Ib) Tryz.yT b b (Lib.strCells t) s w h.out (by rw[Lib.strCells_length];exact hl) (Nat.le_of_lt (ajf h.out))).mono ?_
 rintro e w' ⟨rfl,h1,h2⟩
 exact⟨rfl,⟨.inr (by rw[V4];exact h1)⟩,h2⟩
theorem acG {w:World} {b:Nat} {t:ByteArray} (h:ae (BU w b t)) :
  Calls Tryz.prog 113 #[.pointer (some ⟨b,0,none⟩)] w fun e w'=>e = .returned (.string t)∧Below b w w':=by
 refine(Any.Builder_String_any ({ Tryz.QS with }:Lays.n169 Tryz.prog Tryz.Ib) Tryz.yT b b t.data.toList w h.out (Nat.le_of_lt (ajf h.out))).mono ?_
 rintro e w' ⟨rfl,h2⟩
 exact⟨rfl,h2⟩
theorem cK (s t:ByteArray):(s++t).size=s.size+t.size:=ByteArray.size_append
def Dl (f:nV):ByteArray:=(((f.f0++(⟨#[58,32]⟩:af))++f.f1)++(⟨#[13,10]⟩:af))
def Ai (t:ByteArray) (l:List nV):ByteArray:=l.foldl (fun t f=>t++Dl f) t
def firstT (m0 m1:ByteArray) (m2:Int) (m3:ByteArray):ByteArray:=
 if m0.toList=([]:List UInt8) then(((((⟨#[72,84,84,80,47,49,46,49,32]⟩:af)++gY m2)++(⟨#[32]⟩:af))++m3)++(⟨#[13,10]⟩:af))
 else((((m0++(⟨#[32]⟩:af))++m1)++(⟨#[32,72,84,84,80,47,49,46,49]⟩:af))++(⟨#[13,10]⟩:af))
def Ju (m6:ByteArray):ByteArray:=(((⟨#[67,111,110,116,101,110,116,45,76,101,110,103,116,104,58,32]⟩:af)++gY (m6.size:Int))++(⟨#[13,10]⟩:af))
def nE (m0:ByteArray) (m4:Bool) (m6:ByteArray):Bool:=if m0.toList=([]:List UInt8) then !m4 else m6.toList != ([]:List UInt8)
def Et (m0 m1:ByteArray) (m2:Int) (m3:ByteArray) (m4:Bool) (l:List nV) (m6:ByteArray):ByteArray:=
 let t:=Ai ((⟨#[]⟩:af)++firstT m0 m1 m2 m3) l
 (if nE m0 m4 m6=true then t++Ju m6 else t)++(⟨#[13,10]⟩:af)
def Oh (m0 m1:ByteArray) (m2:Int) (m3:ByteArray) (l:List nV) (m6:ByteArray):Prop:=
 m0.size≤100000∧m1.size≤100000∧(0≤m2∧m2≤999999999999999)∧m3.size≤100000∧m6.size≤100000∧l.length≤1000∧∀ f∈l,f.f0.size≤100000∧f.f1.size≤100000
instance headFits_dec (m0 m1:ByteArray) (m2:Int) (m3:ByteArray) (l:List nV) (m6:ByteArray):Decidable (Oh m0 m1 m2 m3 l m6):=by unfold Oh;exact inferInstance
def iF.f (m0 m1:ByteArray) (m2:Int) (m3:ByteArray) (m4:Bool) (l:List nV) (m6:ByteArray):Option (ByteArray):=
 if Oh m0 m1 m2 m3 l m6 then some (Et m0 m1 m2 m3 m4 l m6) else none
theorem xX (n:Int) (h0:0≤n) (h1:n≤999999999999999):(gY n).size≤21:=by
 have:=Lib.itoa_length_le n aa aa
 unfold gY
 simpa [ByteArray.size] using this
theorem P6 (m0 m1:ByteArray) (m2:Int) (m3:ByteArray) (h0:m0.size≤100000) (h1:m1.size≤100000) (h2:0≤m2∧m2≤999999999999999) (h3:m3.size≤100000):(firstT m0 m1 m2 m3).size≤300000:=by
 have hi:=xX m2 h2.1 h2.2
 unfold firstT
 split
 ·simp only[cK]
  show 9+(gY m2).size+1+m3.size+2≤300000
  omega
 ·simp only[cK]
  show m0.size+1+m1.size+9+2≤300000
  omega
theorem Sq (f:nV) (h0:f.f0.size≤100000) (h1:f.f1.size≤100000):(Dl f).size≤300000:=by
 unfold Dl
 simp only[cK]
 show f.f0.size+2+f.f1.size+2≤300000
 omega
theorem K3 : ∀(l:List nV) (t:ByteArray),(∀ f∈l,f.f0.size≤100000∧f.f1.size≤100000)→(Ai t l).size≤t.size+300000*l.length
 |[],t,_=>Nat.le_refl _
 |f::l,t,h=>by
  have h1:=K3 l (t++Dl f) (fun g hg=>h g (List.mem_cons_of_mem _ hg))
  have h2:=Sq f (h f (List.mem_cons_self ..)).1 (h f (List.mem_cons_self ..)).2
  rw[cK] at h1
  show(Ai (t++Dl f) l).size≤t.size+300000*(l.length+1)
  omega
theorem XH (l:List nV) (t:ByteArray) (n:Nat) (h:n<l.length):Ai t (l.take (n+1))=Ai t (l.take n)++Dl (bg l (n:Int)):=by
 have e:bg l (n:Int)=l[n]:=by
  unfold bg
  rw[Int.toNat_natCast,List.getD_eq_getElem?_getD,List.getElem?_eq_getElem h]
  rfl
 unfold Ai
 rw[List.take_succ_eq_append_getElem h,List.foldl_append,e]
 rfl
theorem QT {w w':World} {g b:Nat} {o:Obj} (h:ae (w.heap[g]? = some o)) (hl:ae (g<b)) (hb:Below b w w'):ae (w'.heap[g]? = some o):=⟨(hb.block g hl.out).trans h.out⟩
theorem Oi {w w':World} {b:Nat} {W:World} (h:ae (Below W.heap.size W w)) (hg:ae (W.heap.size≤b)) (hb:Below b w w'):ae (Below W.heap.size W w'):=⟨h.out.trans (hb.mono hg.out)⟩
def ajg : Bool×List (List Nat×List Nat):=(true,[([],[]),([0],[0]),([1],[1]),([2],[2]),([3],[3]),([],[]),([5],[5]),([4,6],[4,6]),([7],[7]),([8,2],[8])])
def aoT : List Nat:=[0,1,3,7,15,0,32,127,255,511]
theorem ahW : rP .any (opsOf Tryz.f73 4)=ajg:=by kernel_rfl
theorem aeH : kD ajg.2 aoT=true:=by kernel_rfl
theorem iF.e0 {p:Prop} (h:p:=by
  go_wp2_with(first|((with_reducible refine ag (f:=111) rfl ?_);refine aG (some 61) rfl rfl Tryz.func111 aK rfl #[.int .i64 (bK.size:Int)] rfl Ru ?_;refine(ig.calls (bK.size:Int) (gY (bK.size:Int)) _ hA9.out (gJ HT)).mono ?_;rintro e Fq ⟨rfl,hb⟩;refine⟨_,rfl,?_⟩;replace BKm:=iG (g:=gm) hb;replace QL:=Oe QL hb;replace HB:=dS hb;clear hb;obtain⟨_,_,_,_,_,_,_⟩:=rM BKm)|((with_reducible refine ag (f:=110) rfl ?_);refine aG (some 64) rfl rfl Tryz.func110 aK rfl #[.pointer (some ⟨gb,0,none⟩),.string (((⟨#[67,111,110,116,101,110,116,45,76,101,110,103,116,104,58,32]⟩:af)++gY (bK.size:Int))++(⟨#[13,10]⟩:af))] rfl Ru ?_;refine(Og (((⟨#[67,111,110,116,101,110,116,45,76,101,110,103,116,104,58,32]⟩:af)++gY (bK.size:Int))++(⟨#[13,10]⟩:af)) QL hql.out).mono ?_;rintro e Jv ⟨rfl,hu,hb⟩;refine⟨_,rfl,?_⟩;replace BKm:=QT BKm LM hb;replace HB:=Oi HB GEb hb;replace QL:=hu;clear hu hb)|((with_reducible refine ag (f:=113) rfl ?_);refine aG (some 65) rfl rfl Tryz.func113 aK rfl #[.pointer (some ⟨gb,0,none⟩)] rfl Ru ?_;refine(acG QL).mono ?_;rintro e zO ⟨rfl,hb⟩;refine⟨_,rfl,?_⟩;replace HB:=Oi HB GEb hb;clear hb)|fail)
  go_ret
  exact⟨by rw[hh.out];rfl,HB.out⟩):p:=h
theorem iF.calls (aA aC:ByteArray) (aI:Int) (bD:ByteArray) (aU:Bool) (pV:Option Addr) (pW:Nat) (eD:List nV) (bK r:ByteArray) (w:World) (xU:Kd.C Ct w pV eD.length eD) (xV:eD.length≤pW) (h:iF.f aA aC aI bD aU eD bK=some r) (HT0:pY w) :
  Calls Tryz.prog 73 #[.agg #[.string aA,.string aC,.int .i64 aI,.string bD,.bool aU,.slice pV eD.length pW,.string bK]] w fun e w'=>e = .returned (.string r)∧Below w.heap.size w w':=by
 have huM:=Tryz.underlying31;have huF:=Tryz.underlying72;have Gx:=ae.mk xU;have O7:=ae.mk xV;have HT:=ae.mk HT0;clear xU xV HT0;unfold iF.f at h;by_cases hF:Oh aA aC aI bD eD bK
 case neg=>rw[if_neg hF] at h;cases h
 rw[if_pos hF] at h;obtain rfl:=cu h;clear h;have HF:=ae.mk hF;clear hF;have HB:=ae.mk (Below.refl w.heap.size w);go_enter Tryz.func73,Tryz.ntmps73;go_upto_if 8 with(first|((with_reducible refine aY (N:=1) rfl ?_);refine jX #[.string aA,.string aC,.int .i64 aI,.string bD,.bool aU,.slice pV eD.length pW,.string bK] 31 ?_;intro gm hg w1 hbox hb;have BKm:=ae.mk hbox;have GEm:=jL hg;replace HB:=dS hb;clear hb hbox hg;obtain⟨_,_,_,_,_,_,_⟩:=rM BKm)|((with_reducible refine aY (N:=3) rfl ?_);refine jX #[.pointer none,.slice none 0 0] 102 ?_;intro gb hg w2 hbox hb;have GEb:=jL hg;have LTm:=J3 (g:=gm) hg;have QL:=alJ hbox;have LM:=ae.mk (by rw[hg];exact(F4 BKm.out):gm<gb);replace BKm:=iG (g:=gm) hb;replace HB:=dS hb;clear hb hbox hg;obtain⟨_,_,_,_,_,_,_⟩:=rM BKm));(try simp only[Act.put,List.setIfInBounds_toArray,List.set_cons_zero,List.set_cons_succ])
 go_cut [1] (fun v1 wc=>v1 = .pointer (some ⟨gm,0,none⟩)∧ae (wc.heap[gm]? = some (.cells #[.string aA,.string aC,.int .i64 aI,.string bD,.bool aU,.slice pV eD.length pW,.string bK] 31 (0,0)))∧ae (BU wc gb ((⟨#[]⟩:af)++firstT aA aC aI bD))∧ae (Below w.heap.size w wc))
 case first=>
  by_cases e0:aA.toList=([]:List UInt8)
  ·have hfirst:firstT aA aC aI bD=(((((⟨#[72,84,84,80,47,49,46,49,32]⟩:af)++gY aI)++(⟨#[32]⟩:af))++bD)++(⟨#[13,10]⟩:af)):=if_pos e0;have hne:aA.toList.isEmpty=true:=List.isEmpty_iff.mpr e0;have HFI:=ae.mk hfirst;clear hfirst e0;have hi:=xX aI HF.out.2.2.1.1 HF.out.2.2.1.2;have y3:=HF.out.2.2.2.1;have q1:(9223372036854775807<9+(gY aI).size)=False:=eq_false aa;have q2:(9223372036854775807<9+(gY aI).size+1)=False:=eq_false aa;have q3:(9223372036854775807<9+(gY aI).size+1+bD.size)=False:=eq_false aa;have q4:(9223372036854775807<9+(gY aI).size+1+bD.size+2)=False:=eq_false aa;have ql:(⟨#[]⟩:af).size+(((((⟨#[72,84,84,80,47,49,46,49,32]⟩:af)++gY aI)++(⟨#[32]⟩:af))++bD)++(⟨#[13,10]⟩:af)).size≤140737488355328:=by
    simp only[cK];show 0+(9+(gY aI).size+1+bD.size+2)≤140737488355328
    omega
   have A9:ig.f aI=some (gY aI):=if_pos ⟨by have:=HF.out.2.2.1;omega,by have:=HF.out.2.2.1;omega⟩;have hA9:=ae.mk A9;have hql:=ae.mk ql;clear hi y3 A9 ql;(first|rw[hne]|skip)
   go_wp2;replace BKm:=ae.mk (bJ BKm.out);replace HB:=ae.mk (di HB.out);replace QL:=Oe QL (di (Below.refl _ _));refine lL (n:=10) (S:=fun w'=>w'.cell? ⟨gm,2,none⟩=some (.int .i64 aI)∧w'.cell? ⟨gm,3,none⟩=some (.string bD)) (ds:=[]) ⟨(ai BKm.out 2).trans rfl,(ai BKm.out 3).trans rfl⟩ (fun hHeld=>?_);refine fu ahW aeH (fun HT_ HW_=>?_);generalize w2.drew=jm at BKm HB QL hHeld ⊢;repeat(first|refine nU ?_ (hy:=Or.inl ⟨by rfl,ZC⟩)|refine fA ?_)
   refine dn 5 (some 23) ?_;refine iC 6 (some 24) (hy:=Or.inl ⟨by rfl,ZC⟩) ?_;refine iM (fun K hK=>?_);refine dV Tryz.func111 aK rfl #[.int .i64 aI] (by rfl) rfl rfl Ru ?_;refine(ig.calls aI (gY aI) _ hA9.out (gJ HT)).mono ?_;rintro e ku ⟨rfl,hb⟩;refine⟨_,rfl,?_⟩;replace BKm:=iG (g:=gm) hb;replace HB:=dS hb;replace QL:=Oe QL hb;(try clear hb)
   refine hK.out _ _ ⟨(ai BKm.out 2).trans rfl,(ai BKm.out 3).trans rfl⟩ (fun hHeld=>?_);clear hK K;refine eP ?_;repeat(first|refine fA ?_)
   refine iM (fun K hK=>?_);refine dV Tryz.func110 aK rfl #[.pointer (some ⟨gb,0,none⟩),.string (((((⟨#[72,84,84,80,47,49,46,49,32]⟩:af)++gY aI)++(⟨#[32]⟩:af))++bD)++(⟨#[13,10]⟩:af))] (by rfl) rfl rfl Ru ?_;refine(Og (((((⟨#[72,84,84,80,47,49,46,49,32]⟩:af)++gY aI)++(⟨#[32]⟩:af))++bD)++(⟨#[13,10]⟩:af)) QL hql.out).mono ?_;rintro e pU ⟨rfl,hu,hb⟩;refine⟨_,rfl,?_⟩;replace BKm:=QT BKm LM hb;replace HB:=Oi HB GEb hb;replace QL:=hu;clear hu hb;refine hK.out _ _ ⟨(ai BKm.out 2).trans rfl,(ai BKm.out 3).trans rfl⟩ (fun hHeld=>?_);clear hK K;refine eP ?_;refine mW (iR HT_.out aK) ?_;try go_wp2
   go_meet
   case rel=>exact⟨rfl,BKm,⟨by rw[HFI.out];exact QL.out⟩,HB⟩
  ·have hfirst:firstT aA aC aI bD=((((aA++(⟨#[32]⟩:af))++aC)++(⟨#[32,72,84,84,80,47,49,46,49]⟩:af))++(⟨#[13,10]⟩:af)):=if_neg e0;have hne:aA.toList.isEmpty=false:=Bool.eq_false_iff.mpr (fun h_=>e0 (List.isEmpty_iff.mp h_));have HFI:=ae.mk hfirst;clear hfirst e0;have y0:=HF.out.1;have y1:=HF.out.2.1;have q1:(9223372036854775807<aA.size+1)=False:=eq_false aa;have q2:(9223372036854775807<aA.size+1+aC.size)=False:=eq_false aa;have q3:(9223372036854775807<aA.size+1+aC.size+9)=False:=eq_false aa;have q4:(9223372036854775807<aA.size+1+aC.size+9+2)=False:=eq_false aa;have ql:(⟨#[]⟩:af).size+((((aA++(⟨#[32]⟩:af))++aC)++(⟨#[32,72,84,84,80,47,49,46,49]⟩:af))++(⟨#[13,10]⟩:af)).size≤140737488355328:=by
    simp only[cK];show 0+(aA.size+1+aC.size+9+2)≤140737488355328
    omega
   have hql:=ae.mk ql;clear y0 y1 ql;(first|rw[hne]|skip)
   go_wp2_with(((with_reducible refine ag (f:=110) rfl ?_);refine aG (some 17) rfl rfl Tryz.func110 aK rfl #[.pointer (some ⟨gb,0,none⟩),.string ((((aA++(⟨#[32]⟩:af))++aC)++(⟨#[32,72,84,84,80,47,49,46,49]⟩:af))++(⟨#[13,10]⟩:af))] rfl Ru ?_;refine(Og ((((aA++(⟨#[32]⟩:af))++aC)++(⟨#[32,72,84,84,80,47,49,46,49]⟩:af))++(⟨#[13,10]⟩:af)) QL hql.out).mono ?_;rintro e Aa ⟨rfl,hu,hb⟩;refine⟨_,rfl,?_⟩;replace BKm:=QT BKm LM hb;replace HB:=Oi HB GEb hb;replace QL:=hu;(try clear hu);(try clear hb);obtain⟨_,_,_,_,_,_,_⟩:=rM BKm));go_meet
   case rel=>exact⟨rfl,BKm,⟨by rw[HFI.out];exact QL.out⟩,HB⟩
 case rest=>
  clear BKm HB QL;obtain⟨rfl,BKm,QL,HB⟩:=hcut;have hb0:Ai ((⟨#[]⟩:af)++firstT aA aC aI bD) (eD.take 0)=(⟨#[]⟩:af)++firstT aA aC aI bD:=by rw[List.take_zero];rfl
  rw[← hb0] at QL;clear hb0;obtain⟨_,_,_,_,_,_,_⟩:=rM BKm;go_wp2;go_loopg [31] eD.length (fun kq v31 w'=>∃ n:Nat,v31 = .int .i64 (n:Int)∧ae (n+kq=eD.length)∧ae (w'.heap[gm]? = some (.cells #[.string aA,.string aC,.int .i64 aI,.string bD,.bool aU,.slice pV eD.length pW,.string bK] 31 (0,0)))∧ae (BU w' gb (Ai ((⟨#[]⟩:af)++firstT aA aC aI bD) (eD.take n)))∧ae (Below w.heap.size w w'))
  case atStart=>exact⟨0,rfl,⟨by omega⟩,BKm,QL,HB⟩
  case round=>
   clear BKm QL HB;obtain⟨n,rfl,HN,BKm,QL,HB⟩:=hrel;obtain⟨_,_,_,_,_,_,_⟩:=rM BKm;cases gk with
   |zero=>
    have hlt:decide ((n:Int)<(eD.length:Int))=false:=aN (by have:=HN.out;omega);have hltN:decide (n<eD.length)=false:=aN (by have:=HN.out;omega);have hn:eD.take n=eD:=List.take_of_length_le (by have:=HN.out;omega);rw[hn] at QL;have lz:=K3 eD ((⟨#[]⟩:af)++firstT aA aC aI bD) HF.out.2.2.2.2.2.2;have fz:=P6 aA aC aI bD HF.out.1 HF.out.2.1 HF.out.2.2.1 HF.out.2.2.2.1;have n1:=HF.out.2.2.2.2.2.1;have y6:=HF.out.2.2.2.2.1;rw[cK] at lz;obtain⟨tt,alK⟩:∃ tt,Ai ((⟨#[]⟩:af)++firstT aA aC aI bD) eD=tt:=⟨_,rfl⟩;rw[alK] at QL lz;have htt:=ae.mk alK;have hzt:ae (tt.size≤400000000):=⟨by have e0:(⟨#[]⟩:af).size=0:=rfl;omega⟩;have hi:ae ((gY (bK.size:Int)).size≤21):=⟨xX _ aa aa⟩;have hA9:ae (ig.f (bK.size:Int)=some (gY (bK.size:Int))):=⟨if_pos ⟨by omega,by omega⟩⟩
    have hql:ae (tt.size+(((⟨#[67,111,110,116,101,110,116,45,76,101,110,103,116,104,58,32]⟩:af)++gY (bK.size:Int))++(⟨#[13,10]⟩:af)).size≤140737488355328):=⟨by
     simp only[cK];show tt.size+(16+(gY (bK.size:Int)).size+2)≤140737488355328
     have:=hzt.out;have:=hi.out
     omega⟩
    have q1:(9223372036854775807<16+(gY (bK.size:Int)).size)=False:=eq_false (by have:=hi.out;omega);have q2:(9223372036854775807<16+(gY (bK.size:Int)).size+2)=False:=eq_false (by have:=hi.out;omega);clear hn lz fz n1 y6 alK;by_cases e0:aA.toList=([]:List UInt8)
    ·have hne:aA.toList.isEmpty=true:=List.isEmpty_iff.mpr e0;have E0:=ae.mk e0;clear e0;cases aU with
     |true=>
      have hh:ae (Et aA aC aI bD true eD bK=tt++(⟨#[13,10]⟩:af)):=⟨by unfold Et;rw[htt.out];simp only;rw[if_neg (show ¬ nE _ _ _=true from(by unfold nE;rw[if_pos E0.out];decide))]⟩;have q5:(9223372036854775807<tt.size+2)=False:=eq_false (by have:=hzt.out;omega);exact iF.e0
     |false=>
      have hh:ae (Et aA aC aI bD false eD bK=(tt++(((⟨#[67,111,110,116,101,110,116,45,76,101,110,103,116,104,58,32]⟩:af)++gY (bK.size:Int))++(⟨#[13,10]⟩:af)))++(⟨#[13,10]⟩:af)):=⟨by unfold Et;rw[htt.out];simp only;rw[if_pos (show nE _ _ _=true from(by unfold nE;rw[if_pos E0.out];rfl))];rfl⟩;have q5:(9223372036854775807<tt.size+(16+(gY (bK.size:Int)).size+2)+2)=False:=eq_false (by have:=hzt.out;have:=hi.out;omega);exact iF.e0
    ·have hne:aA.toList.isEmpty=false:=Bool.eq_false_iff.mpr (fun h_=>e0 (List.isEmpty_iff.mp h_));have E0:=ae.mk e0;clear e0;by_cases e6:bK.toList=([]:List UInt8)
     ·have hn6:bK.toList.isEmpty=true:=List.isEmpty_iff.mpr e6;have E6:=ae.mk e6;clear e6;have hh:ae (Et aA aC aI bD aU eD bK=tt++(⟨#[13,10]⟩:af)):=⟨by unfold Et;rw[htt.out];simp only;rw[if_neg (show ¬ nE _ _ _=true from(by unfold nE;rw[if_neg E0.out,E6.out];decide))]⟩;have q5:(9223372036854775807<tt.size+2)=False:=eq_false (by have:=hzt.out;omega);exact iF.e0
     ·have hn6:bK.toList.isEmpty=false:=Bool.eq_false_iff.mpr (fun h_=>e6 (List.isEmpty_iff.mp h_));have E6:=ae.mk e6;clear e6;have hh:ae (Et aA aC aI bD aU eD bK=(tt++(((⟨#[67,111,110,116,101,110,116,45,76,101,110,103,116,104,58,32]⟩:af)++gY (bK.size:Int))++(⟨#[13,10]⟩:af)))++(⟨#[13,10]⟩:af)):=⟨by unfold Et;rw[htt.out];simp only;rw[if_pos (show nE _ _ _=true from(by unfold nE;rw[if_neg E0.out];exact bne_iff_ne.mpr E6.out))];rfl⟩;have q5:(9223372036854775807<tt.size+(16+(gY (bK.size:Int)).size+2)+2)=False:=eq_false (by have:=hzt.out;have:=hi.out;omega);exact iF.e0
   |succ k1=>
    have hn:n<eD.length:=by have:=HN.out;omega
    have hlt:decide ((n:Int)<(eD.length:Int))=true:=aT aa;have ll:=XH eD ((⟨#[]⟩:af)++firstT aA aC aI bD) n hn;have lz:=K3 (eD.take n) ((⟨#[]⟩:af)++firstT aA aC aI bD) (fun f hf=>HF.out.2.2.2.2.2.2 f (List.mem_of_mem_take hf));have fz:=P6 aA aC aI bD HF.out.1 HF.out.2.1 HF.out.2.2.1 HF.out.2.2.2.1;have mem:bg eD (n:Int)∈eD:=by
     have e:bg eD (n:Int)=eD[n]:=by
      unfold bg;rw[Int.toNat_natCast,List.getD_eq_getElem?_getD,List.getElem?_eq_getElem hn];rfl
     rw[e];exact List.getElem_mem hn
    have gz:=HF.out.2.2.2.2.2.2 _ mem;have gl:=Sq _ gz.1 gz.2;have n1:=HF.out.2.2.2.2.2.1;rw[cK,List.length_take] at lz
    have hql:ae ((Ai ((⟨#[]⟩:af)++firstT aA aC aI bD) (eD.take n)).size+(((((bg eD (n:Int)).f0++(⟨#[58,32]⟩:af))++(bg eD (n:Int)).f1))++(⟨#[13,10]⟩:af)).size≤140737488355328):=⟨by
     show _+(Dl (bg eD (n:Int))).size≤_
     have e0:(⟨#[]⟩:af).size=0:=rfl
     omega⟩
    have q1:(9223372036854775807<(bg eD (n:Int)).f0.size+2+(bg eD (n:Int)).f1.size+2)=False:=eq_false aa;have q2:(9223372036854775807<((((bg eD (n:Int)).f0++(⟨#[58,32]⟩:af))++(bg eD (n:Int)).f1)).size+2)=False:=eq_false (by simp only[cK];show ¬ (9223372036854775807<(bg eD (n:Int)).f0.size+2+(bg eD (n:Int)).f1.size+2);omega)
    have A6:ae (xE.f (bg eD (n:Int)).f0 (bg eD (n:Int)).f1=some ((((bg eD (n:Int)).f0++(⟨#[58,32]⟩:af))++(bg eD (n:Int)).f1))):=⟨by
     unfold xE.f
     rw[if_pos aa,if_pos (by rw[cK];show(bg eD (n:Int)).f0.size+2+(bg eD (n:Int)).f1.size≤_;omega)]⟩
    have LL:=ae.mk ll;have hw:ae (wrap64 ((n:Int)+1)=((n+1:Nat):Int)):=⟨by have:=HN.out;unfold wrap64;omega⟩;clear ll lz fz mem gz gl n1;have alL:0≤(n:Int):=by omega
    have alM:(n:Int)<(eD.length:Int):=by omega
    obtain⟨awf,ati,QU,QV⟩:=yZ Gx.out (n:Int) alL alM;cases ati
    replace QU:=(HB.out.cell (World.block_lt_of_cell? w _ QU)).trans QU;replace QV:=(HB.out.cell (World.block_lt_of_cell? w _ QV)).trans QV;simp only[Int.toNat_natCast] at QU QV;replace alL:=eq_true alL;replace alM:=eq_true alM;clear hn;go_wp2_with(first|((with_reducible refine aY (N:=5) rfl ?_);refine jX #[.string (⟨#[]⟩:af),.string (⟨#[]⟩:af)] 72 ?_;intro gf hg NQ hbox hb;have BKf:=ae.mk (hbox);have LTf:=J3 (g:=gm) hg;replace BKm:=iG (g:=gm) hb;have HBf:=ae.mk hb;have GEr:=ae.mk (Nat.le_of_eq hg.symm);have GEf:=jL hg;replace HB:=dS hb;clear hb hbox hg;obtain⟨_,_⟩:=EB BKf;obtain⟨_,_⟩:=Jt BKf)|((with_reducible refine ag (f:=112) rfl ?_);refine aG (some 36) rfl rfl Tryz.func112 aK rfl #[.agg #[.string (bg eD (n:Int)).f0,.string (bg eD (n:Int)).f1]] rfl Ru ?_;(with_reducible refine(xE.calls (bg eD (n:Int)).f0 (bg eD (n:Int)).f1 (((bg eD (n:Int)).f0++(⟨#[58,32]⟩:af))++(bg eD (n:Int)).f1) _ A6.out).mono ?_);rintro e acr ⟨rfl,hb⟩;refine⟨_,rfl,?_⟩;replace BKm:=iG (g:=gm) hb;replace HBf:=ae.mk (Rk (by repeat(first|exact HBf.out|refine IK ?_ GEr.out)) hb);replace HB:=dS hb;clear hb)|((with_reducible refine ag (f:=110) rfl ?_);refine aG (some 38) rfl rfl Tryz.func110 aK rfl #[.pointer (some ⟨gb,0,none⟩),.string ((((bg eD (n:Int)).f0++(⟨#[58,32]⟩:af))++(bg eD (n:Int)).f1)++(⟨#[13,10]⟩:af))] rfl Ru ?_;refine(Og ((((bg eD (n:Int)).f0++(⟨#[58,32]⟩:af))++(bg eD (n:Int)).f1)++(⟨#[13,10]⟩:af)) (Oe QL HBf.out) hql.out).mono ?_;rintro e VS ⟨rfl,hu,hb⟩;refine⟨_,rfl,?_⟩;replace BKm:=QT BKm LM hb;replace HB:=Oi HB GEb hb;have BU1:=hu;clear hu hb));go_roundg k1
    case measure=>omega
    case rel=>exact⟨n+1,by first|rfl|(rw[hw.out]),⟨by have:=HN.out;omega⟩,BKm,⟨by rw[LL.out];exact BU1.out⟩,HB⟩

def oQ.f (k:Nat) (a0:ByteArray):Option (Bool):=(nA.f k a0).bind fun aoU=>(if aoU=true then(some (decide ((a0.size:Int)≤20))) else(some false))
theorem oQ.e0 {p:Prop} (h:p:=by
  obtain rfl:=cu H
  go_enter Tryz.func68,Tryz.ntmps68
  go_wp2_with(first|((with_reducible refine ag (f:=106) rfl ?_);refine aG (some 4) rfl rfl Tryz.func106 aK rfl #[.string a0] rfl eu ?_;(with_reducible refine(nA.calls k a0 false _ A2.out).mono ?_);rintro e w' ⟨rfl,⟨nd,rfl⟩⟩;refine⟨_,rfl,?_⟩)|((with_reducible refine ag (f:=106) rfl ?_);refine aG (some 4) rfl rfl Tryz.func106 aK rfl #[.string a0] rfl eu ?_;(with_reducible refine(nA.calls k a0 true _ A2.out).mono ?_);rintro e w' ⟨rfl,⟨nd,rfl⟩⟩;refine⟨_,rfl,?_⟩))
  go_ret
  exact⟨fI,lG⟩):p:=h
theorem oQ.calls (k:Nat) (a0:ByteArray) (r:Bool) (w:World) (h:oQ.f k a0=some r) :
  Calls Tryz.prog 68 #[.string a0] w fun e w'=>e = .returned (.bool r)∧ed w w':=by
 have H:=h;clear h;unfold oQ.f at H;replace H:=gD H;obtain⟨aoU,A2,H⟩:=H;replace H:=gB H;rcases H with⟨rfl,H⟩|⟨rfl,H⟩
 ·exact oQ.e0
 ·exact oQ.e0


def oU.f (k:Nat) (a0:ByteArray):Option (Bool):=(dz.f (a0.size:Int) 1 200).bind fun aoV=>(if aoV=true then((bq.f k a0).bind fun alN=>(some alN)) else(some false))
theorem oU.e0 {p:Prop} (h:p:=by
  obtain rfl:=cu H
  go_enter Tryz.func69,Tryz.ntmps69
  go_wp2_with(first|((with_reducible refine ag (f:=65) rfl ?_);refine aG (some 5) rfl rfl Tryz.func65 aK rfl #[.int .i64 (a0.size:Int),.int .i64 1,.int .i64 200] rfl eu ?_;(with_reducible refine(dz.calls (a0.size:Int) 1 200 false _ A2.out).mono ?_);rintro e w' ⟨rfl,⟨nd,rfl⟩⟩;refine⟨_,rfl,?_⟩)|((with_reducible refine ag (f:=65) rfl ?_);refine aG (some 5) rfl rfl Tryz.func65 aK rfl #[.int .i64 (a0.size:Int),.int .i64 1,.int .i64 200] rfl eu ?_;(with_reducible refine(dz.calls (a0.size:Int) 1 200 true _ A2.out).mono ?_);rintro e w' ⟨rfl,⟨nd,rfl⟩⟩;refine⟨_,rfl,?_⟩)|(go_at_call 107;(with_reducible refine(bq.calls k a0  alN _ A4.out).mono ?_);rintro e w' ⟨rfl,⟨nd,rfl⟩⟩))
  go_ret
  exact⟨fI,lG⟩):p:=h
theorem oU.calls (k:Nat) (a0:ByteArray) (r:Bool) (w:World) (h:oU.f k a0=some r) :
  Calls Tryz.prog 69 #[.string a0] w fun e w'=>e = .returned (.bool r)∧ed w w':=by
 have H:=h;clear h;unfold oU.f at H;replace H:=gD H;obtain⟨aoV,A2,H⟩:=H;replace H:=gB H;rcases H with⟨rfl,H⟩|⟨rfl,H⟩
 ·replace H:=gD H;obtain⟨alN,A4,H⟩:=H;exact oU.e0
 ·exact oU.e0

end Go.Proofs.YtfhllanhldbkkaaGreatDoor.P
