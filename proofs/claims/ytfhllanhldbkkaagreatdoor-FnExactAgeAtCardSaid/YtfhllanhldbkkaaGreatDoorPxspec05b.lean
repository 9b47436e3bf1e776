import Derived.Test.YtfhllanhldbkkaaGreatDoorPx0
import Derived.Test.YtfhllanhldbkkaaGreatDoorPxspec01a
import Derived.Test.YtfhllanhldbkkaaGreatDoorPxspec02j
import Derived.Test.YtfhllanhldbkkaaGreatDoorWC
namespace Go.Proofs.YtfhllanhldbkkaaGreatDoor.P
set_option maxHeartbeats 8000000
set_option maxRecDepth 100000
open Go.RowKit Go.Proofs.YtfhllanhldbkkaaGreatDoorW.ax Go.Proofs.YtfhllanhldbkkaaGreatDoorW.aD Go.Proofs.YtfhllanhldbkkaaGreatDoorW.aH
attribute [local go_sem] nZ oh qI qJ mq mr om oo   -- for this text's walks alone
set_option linter.unusedVariables false
set_option linter.unusedSimpArgs false

def eY.l0 : Nat→List (nV)→Int→Option (Bool)
 |0,_,_=>none
 |k+1,x0,x3=>if x3<(x0.length:Int) then(if 0≤x3 then((jO.f k ((bg x0 x3).f0) ((bg x0 x3).f1)).bind fun arW=>(if arW=true then(eY.l0 k x0 (wrap64 (x3+1))) else(some false))) else(none)) else(some true)
def eY.f (k:Nat) (l0:List (nV)):Option (Bool):=if(l0.length:Int)>20 then(some false) else(eY.l0 k l0 0)
theorem eY.calls (k:Nat) (A0:Option Addr) (c0:Nat) (l0:List (nV)) (r:Bool) (w:World) (hr0:Kd.C Ct w A0 l0.length l0) (hc0:l0.length≤c0) (h:eY.f k l0=some r) :
  Calls Tryz.prog 32 #[.slice A0 l0.length c0] w fun e w'=>e = .returned (.bool r)∧Below w.heap.size w w':=by
 have RY:=Tryz.underlying72;have Gx:=ae.mk hr0;have O7:=ae.mk hc0;clear hr0 hc0;have HB:=ae.mk (Below.refl w.heap.size w);have H:=h;clear h;unfold eY.f at H;replace H:=gI H;rcases H with⟨c2,-,-,H⟩|⟨c2,-,-,H⟩
 ·have nk:decide (20<(l0.length:Int))=true:=aT c2;have wB:decide (20<l0.length)=true:=aT aa;clear c2;obtain rfl:=cu H;go_enter Tryz.func32,Tryz.ntmps32;go_wp2;go_ret;exact⟨nG,dN⟩
 ·have nk:decide (20<(l0.length:Int))=false:=aN c2;have wB:decide (20<l0.length)=false:=aN aa;clear c2;have H':=ae.mk H;clear H;go_enter Tryz.func32,Tryz.ntmps32;go_wp2;go_loopg [3] k (fun kq v3 w'=>∃(fU:Int),v3 = .int .i64 fU∧ae (eY.l0 kq l0 fU=some r)∧ae (kq≤k)∧ae (Below w.heap.size w w'))
  case atStart=>exact⟨(0),fI,H',⟨Nat.le_refl _⟩,⟨dN⟩⟩
  case round=>
   clear H';try clear c2
   try clear nk
   try clear wB
   obtain⟨fU,rfl,HA,qj,HB⟩:=hrel;cases gk with
   |zero=>exact absurd HA.out (by simp[eY.l0])
   |succ k1=>
    have H:=HA.out;clear HA;simp only[eY.l0] at H;replace H:=gI H;rcases H with⟨-,gM,-,H⟩|⟨-,gM,-,H⟩
    ·replace H:=gN H;obtain⟨-,mP,-,H⟩:=H;replace H:=gD H;obtain⟨arW,A5,H⟩:=H;replace H:=gB H;rcases H with⟨rfl,H⟩|⟨rfl,H⟩
     ·have H':=ae.mk H;clear H;have aaR:0≤(fU:Int):=bE gL;have aaS:fU<(l0.length:Int):=bE gL;obtain⟨arX,amQ,JI,JJ⟩:=yZ Gx.out fU aaR aaS;cases amQ
      replace JI:=(HB.out.cell (World.block_lt_of_cell? w _ JI)).trans JI;replace JJ:=(HB.out.cell (World.block_lt_of_cell? w _ JJ)).trans JJ;replace aaR:=eq_true aaR;replace aaS:=eq_true aaS;go_wp2_with(((with_reducible refine ag (f:=58) rfl ?_);refine aG (some 17) rfl rfl Tryz.func58 aK rfl #[.agg #[.string ((bg l0 fU).f0),.string ((bg l0 fU).f1)]] rfl eu ?_;(with_reducible refine(jO.calls k1 ((bg l0 fU).f0) ((bg l0 fU).f1) true _ A5.out).mono ?_);rintro e jm ⟨rfl,hb⟩;refine⟨_,rfl,?_⟩;replace HB:=dS hb;(try clear hb)));go_roundg k1
      case measure=>have:=qj.out;omega
      case rel=>exact⟨(wrap64 (fU+1)),fI,H',⟨by have:=qj.out;omega⟩,⟨dN⟩⟩
     ·obtain rfl:=cu H;have aaR:0≤(fU:Int):=bE gL;have aaS:fU<(l0.length:Int):=bE gL;obtain⟨arX,amQ,JI,JJ⟩:=yZ Gx.out fU aaR aaS;cases amQ
      replace JI:=(HB.out.cell (World.block_lt_of_cell? w _ JI)).trans JI;replace JJ:=(HB.out.cell (World.block_lt_of_cell? w _ JJ)).trans JJ;replace aaR:=eq_true aaR;replace aaS:=eq_true aaS;go_wp2_with(((with_reducible refine ag (f:=58) rfl ?_);refine aG (some 17) rfl rfl Tryz.func58 aK rfl #[.agg #[.string ((bg l0 fU).f0),.string ((bg l0 fU).f1)]] rfl eu ?_;(with_reducible refine(jO.calls k1 ((bg l0 fU).f0) ((bg l0 fU).f1) false _ A5.out).mono ?_);rintro e ku ⟨rfl,hb⟩;refine⟨_,rfl,?_⟩;replace HB:=dS hb;(try clear hb)));go_ret;exact⟨nG,dN⟩
    ·obtain rfl:=cu H;go_wp2;go_ret;exact⟨nG,dN⟩

def lT.f (k:Nat) (aA:ByteArray) (aC:ByteArray):Option (ByteArray):=(jO.f k aA aC).bind fun arY=>(if arY=true then(if aA.size+2≤9223372036854775807 then(if(aA++(⟨#[58,32]⟩:af)).size+aC.size≤9223372036854775807 then(some ((aA++(⟨#[58,32]⟩:af))++aC)) else(none)) else(none)) else(some (⟨#[]⟩:af)))
theorem lT.e0 {p:Prop} (h:p:=by
  obtain rfl:=cu H
  go_enter Tryz.func103,Tryz.ntmps103
  go_wp2_with(first|((with_reducible refine aY (N:=1) rfl ?_);refine jX #[.string aA,.string aC] 72 ?_;intro akb hg jm hbox hb;have Vo:=ae.mk (hbox);have axJ:=jL hg;have axK:=jL hg;replace HB:=dS hb;clear hb hbox hg;obtain⟨_,_⟩:=EB Vo;obtain⟨_,_⟩:=Jt Vo)|((with_reducible refine ag (f:=58) rfl ?_);refine aG (some 4) rfl rfl Tryz.func58 aK rfl #[.agg #[.string aA,.string aC]] rfl eu ?_;(with_reducible refine(jO.calls k aA aC false _ A2.out).mono ?_);rintro e pU ⟨rfl,hb⟩;refine⟨_,rfl,?_⟩;replace Vo:=iG (g:=akb) hb;replace HB:=dS hb;(try clear hb);(try clear hb2);(try clear hk);(try clear hi))|((with_reducible refine ag (f:=58) rfl ?_);refine aG (some 4) rfl rfl Tryz.func58 aK rfl #[.agg #[.string aA,.string aC]] rfl eu ?_;(with_reducible refine(jO.calls k aA aC true _ A2.out).mono ?_);rintro e ku ⟨rfl,hb⟩;refine⟨_,rfl,?_⟩;replace Vo:=iG (g:=akb) hb;replace HB:=dS hb;(try clear hb);(try clear hb2);(try clear hk);(try clear hi);obtain⟨_,_⟩:=EB Vo;obtain⟨_,_⟩:=Jt Vo))
  go_ret
  exact⟨nG,dN⟩):p:=h
theorem lT.calls (k:Nat) (aA aC r:ByteArray) (w:World) (h:lT.f k aA aC=some r) :
  Calls Tryz.prog 103 #[.agg #[.string aA,.string aC]] w fun e w'=>e = .returned (.string r)∧Below w.heap.size w w':=by
 have RY:=Tryz.underlying72;have HB:=ae.mk (Below.refl w.heap.size w);have H:=h;clear h;unfold lT.f at H;replace H:=gD H;obtain⟨arY,A2,H⟩:=H;replace H:=gB H;rcases H with⟨rfl,H⟩|⟨rfl,H⟩
 ·replace H:=gN H;obtain⟨c4,yH,mP,H⟩:=H;try have XE:(9223372036854775807<aA.size+2)=False:=eq_false (Nat.not_lt.2 c4)
  replace H:=gN H;obtain⟨c5,Al,qh,H⟩:=H;try have ah1:(9223372036854775807<(aA++(⟨#[58,32]⟩:af)).size+aC.size)=False:=eq_false (Nat.not_lt.2 c5)
  try have alX:(9223372036854775807<aA.size+2+aC.size)=False:=by have h_:=c5;simp only[ByteArray.size_append] at h_;exact eq_false (Nat.not_lt.2 h_)
  exact lT.e0
 ·exact lT.e0

def iH.l0 : Nat→List (nV)→ByteArray→List ByteArray→Int→Option (List ByteArray)
 |0,_,_,_,_=>none
 |k+1,x0,x1,x5,x6=>if x6<(x0.length:Int) then(if 0≤x6 then((oO.f ((bg x0 x6).f0) x1).bind fun akc=>(if akc=true then(if x5.length<8796093022208 then(iH.l0 k x0 x1 (x5 ++ [(bg x0 x6).f1]) (wrap64 (x6+1))) else(none)) else(iH.l0 k x0 x1 x5 (wrap64 (x6+1))))) else(none)) else(some x5)
def iH.f (k:Nat) (l0:List (nV)) (a1:ByteArray):Option (List ByteArray):=(eY.f k l0).bind fun akd=>(if akd=true then(iH.l0 k l0 a1 ([]:List ByteArray) 0) else(some ([]:List ByteArray)))
theorem iH.calls (k:Nat) (A0:Option Addr) (c0:Nat) (l0:List (nV)) (a1:ByteArray) (r:List ByteArray) (w:World) (hr0:Kd.C Ct w A0 l0.length l0) (hc0:l0.length≤c0) (h:iH.f k l0 a1=some r) :
  Calls Tryz.prog 76 #[.slice A0 l0.length c0,.string a1] w fun e w'=>∃ PV:Value,e = .returned (PV)∧Kd.R Kd.string 9 w' w.heap.size (fun _=>True) PV r∧Below w.heap.size w w':=by
 have Gx:=ae.mk hr0;have O7:=ae.mk hc0;clear hr0 hc0;have HB:=ae.mk (Below.refl w.heap.size w);have H:=h;clear h;unfold iH.f at H;replace H:=gD H;obtain⟨akd,A3,H⟩:=H;replace H:=gB H;rcases H with⟨rfl,H⟩|⟨rfl,H⟩
 ·have H':=ae.mk H;clear H;go_enter Tryz.func76,Tryz.ntmps76;go_wp2_with(first|((with_reducible refine ag (f:=32) rfl ?_);refine aG (some 8) rfl rfl Tryz.func32 aK rfl #[.slice A0 l0.length c0] rfl eu ?_;(with_reducible refine(eY.calls k _ _ l0 true _ ?bM ?bN A3.out).mono ?_);(case bM=>repeat(first|exact Gx.out|(with_reducible refine Kd.aZ ?_ _)|(with_reducible refine Kd.bf ?_ _)|(with_reducible refine Kd.bP ?_)));(case bN=>exact O7.out);rintro e w5 ⟨rfl,hb⟩;refine⟨_,rfl,?_⟩;replace HB:=dS hb;(try clear hb)));go_loopg [5,6] k (fun kq v5 v6 w'=>∃(dJ:List ByteArray) (Ap:Int),v6 = .int .i64 Ap∧ae (iH.l0 kq l0 a1 dJ Ap=some r)∧ae (kq≤k)∧ae (Kd.R Kd.string 9 w' w.heap.size (fun _=>True) v5 dJ)∧ae (Below w.heap.size w w'))
  case atStart=>exact⟨(([]:List ByteArray)),(0),fI,H',⟨Nat.le_refl _⟩,⟨Ud⟩,⟨dN⟩⟩
  case round=>
   clear H';obtain⟨dJ,Ap,rfl,HA,qj,yX,HB⟩:=hrel;cases gk with
   |zero=>exact absurd HA.out (by simp[iH.l0])
   |succ k1=>
    have H:=HA.out;clear HA;simp only[iH.l0] at H;replace H:=gI H;rcases H with⟨-,nW,-,H⟩|⟨-,nW,-,H⟩
    ·replace H:=gN H;obtain⟨-,uR,-,H⟩:=H;replace H:=gD H;obtain⟨akc,A8,H⟩:=H;replace H:=gB H;rcases H with⟨rfl,H⟩|⟨rfl,H⟩
     ·replace H:=gN H;obtain⟨c10,-,-,H⟩:=H;have arZ:=ae.mk c10;clear c10;obtain⟨ake,Tt⟩:∃ y_:List ByteArray,y_=(dJ ++ [(bg l0 Ap).f1]):=⟨_,rfl⟩;replace H:(iH.l0 k1 l0 a1 ake (wrap64 (Ap+1)))=some r:=by first|(rw[Tt];with_reducible exact H)|(have rq:=(aj _ _).symm.trans H;rw[Tt];with_reducible exact rq)|(have rq:=(aj _ _).symm.trans H;with_reducible exact rq)|with_reducible exact H|(rw[Tt];exact H)|exact H
      have amR:=ae.mk Tt;clear Tt;have H':=ae.mk H;clear H;have Tu:0≤(Ap:Int):=bE gL;have Tv:Ap<(l0.length:Int):=bE gL;obtain⟨agm,agn,GN,GQ⟩:=yZ Gx.out Ap Tu Tv;cases agn
      replace GN:=(HB.out.cell (World.block_lt_of_cell? w _ GN)).trans GN;replace GQ:=(HB.out.cell (World.block_lt_of_cell? w _ GQ)).trans GQ;replace Tu:=eq_true Tu;replace Tv:=eq_true Tv;go_wp2_with(first|((with_reducible refine ag (f:=120) rfl ?_);refine aG (some 22) rfl rfl Tryz.func120 aK rfl #[.string ((bg l0 Ap).f0),.string a1] rfl eu ?_;(with_reducible refine(oO.calls ((bg l0 Ap).f0) a1 true _ A8.out).mono ?_);rintro e w11 ⟨rfl,hb⟩;refine⟨_,rfl,?_⟩;replace yX:=ae.mk (Kd.dF Ue hb);replace HB:=dS hb;(try clear hb);have agp:0≤(Ap:Int):=bE gL;have agq:Ap<(l0.length:Int):=bE gL;obtain⟨amS,ar0,Tw,Tx⟩:=yZ Gx.out Ap agp agq;obtain rfl:agm=amS:=(by injection ar0);replace Tw:=(HB.out.cell (World.block_lt_of_cell? w _ Tw)).trans Tw;replace Tx:=(HB.out.cell (World.block_lt_of_cell? w _ Tx)).trans Tx;replace agp:=eq_true agp;replace agq:=eq_true agq)|((with_reducible refine lJ (b:=.append) (xs:=#[.tmp 23,.tmp 29]) rfl ?_);at_builtin;refine Kd.rZ Kd.string (w0:=w) w.heap.size rfl (.tmp 23) (.tmp 29) 76 9 (.string ⟨#[]⟩) 16 rfl Tryz.underlying76 J6 rfl ak aa u5 dJ ((bg l0 Ap).f1) [.string ((bg l0 Ap).f1)] (fun _=>True) (fun _=>False) rfl rfl ?aP (fun _ hk=>hk.elim) ?aF ?aO ?aB ?aS ?aL ?_;(case aP=>exact rfl);(case aB=>exact dN);(case aF=>exact(fun _ _=>trivial));(case aO=>exact Ue);(case aS=>exact(bY dN));(case aL=>have:=arZ.out;omega);intro axL w12 ho hb hg hat;rw[← amR.out] at ho;have o7:=ae.mk (hb);have qG:=ae.mk (ho);clear HB;clear yX;have HB:=o7;have auE:=qG;clear o7 qG;clear ho hb hg hat));go_roundg k1
      case measure=>have:=qj.out;omega
      case rel=>exact⟨(ake),(wrap64 (Ap+1)),fI,H',⟨by have:=qj.out;omega⟩,⟨Ah⟩,⟨dN⟩⟩
     ·have H':=ae.mk H;clear H;have Tu:0≤(Ap:Int):=bE gL;have Tv:Ap<(l0.length:Int):=bE gL;obtain⟨agm,agn,GN,GQ⟩:=yZ Gx.out Ap Tu Tv;cases agn
      replace GN:=(HB.out.cell (World.block_lt_of_cell? w _ GN)).trans GN;replace GQ:=(HB.out.cell (World.block_lt_of_cell? w _ GQ)).trans GQ;replace Tu:=eq_true Tu;replace Tv:=eq_true Tv;go_wp2_with(first|((with_reducible refine ag (f:=120) rfl ?_);refine aG (some 22) rfl rfl Tryz.func120 aK rfl #[.string ((bg l0 Ap).f0),.string a1] rfl eu ?_;(with_reducible refine(oO.calls ((bg l0 Ap).f0) a1 false _ A8.out).mono ?_);rintro e w13 ⟨rfl,hb⟩;refine⟨_,rfl,?_⟩;replace yX:=ae.mk (Kd.dF Ue hb);replace HB:=dS hb;(try clear hb)));go_roundg k1
      case measure=>have:=qj.out;omega
      case rel=>exact⟨(dJ),(wrap64 (Ap+1)),fI,H',⟨by have:=qj.out;omega⟩,⟨Ah⟩,⟨dN⟩⟩
    ·obtain rfl:=cu H;go_wp2;go_ret;exact⟨_,nG,Ah,dN⟩
 ·obtain rfl:=cu H;go_enter Tryz.func76,Tryz.ntmps76;go_wp2_with(first|((with_reducible refine ag (f:=32) rfl ?_);refine aG (some 8) rfl rfl Tryz.func32 aK rfl #[.slice A0 l0.length c0] rfl eu ?_;(with_reducible refine(eY.calls k _ _ l0 false _ ?bM ?bN A3.out).mono ?_);(case bM=>repeat(first|exact Gx.out|(with_reducible refine Kd.aZ ?_ _)|(with_reducible refine Kd.bf ?_ _)|(with_reducible refine Kd.bP ?_)));(case bN=>exact O7.out);rintro e w14 ⟨rfl,hb⟩;refine⟨_,rfl,?_⟩;replace HB:=dS hb;(try clear hb)));go_ret;exact⟨_,nG,Ud,dN⟩


def wz.f (k:Nat) (l0:List (nV)) (a1:ByteArray):Option (ByteArray×Bool):=(iH.f k l0 a1).bind fun Mo=>(if(Mo.length:Int)=0 then(some ((⟨#[]⟩:af),false)) else(if 0<(Mo.length:Int) then(some (cZ ByteArray.empty Mo 0,true)) else(none)))
theorem wz.calls (k:Nat) (A0:Option Addr) (c0:Nat) (l0:List (nV)) (a1 r1:ByteArray) (r2:Bool) (w:World) (hr0:Kd.C Ct w A0 l0.length l0) (hc0:l0.length≤c0) (h:wz.f k l0 a1=some (r1,r2)) :
  Calls Tryz.prog 44 #[.slice A0 l0.length c0,.string a1] w fun e w'=>e = .returned (.tuple #[.string r1,.bool r2])∧Below w.heap.size w w':=by
 have Gx:=ae.mk hr0;have O7:=ae.mk hc0;clear hr0 hc0;have HB:=ae.mk (Below.refl w.heap.size w);have H:=h;clear h;unfold wz.f at H;replace H:=gD H;obtain⟨Mo,A3,H⟩:=H;replace H:=gI H;rcases H with⟨c4,-,-,H⟩|⟨c4,-,-,H⟩
 ·obtain⟨mP,yH⟩:=rD c4;clear c4;simp only[Option.some.injEq,Prod.mk.injEq] at H;obtain⟨rfl,rfl⟩:=H;go_enter Tryz.func44,Tryz.ntmps44;go_wp2_with(first|((with_reducible refine ag (f:=76) rfl ?_);refine aG (some 9) rfl rfl Tryz.func76 aK rfl #[.slice A0 l0.length c0,.string a1] rfl eu ?_;(with_reducible refine(iH.calls k _ _ l0 a1 Mo _ ?bM ?bN A3.out).mono ?_);(case bM=>repeat(first|exact Gx.out|(with_reducible refine Kd.aZ ?_ _)|(with_reducible refine Kd.bf ?_ _)|(with_reducible refine Kd.bP ?_)));(case bN=>exact O7.out);rintro e w5 ⟨ar1,rfl,ho0,hb⟩;refine⟨_,rfl,?_⟩;have Wm:=ae.mk (Kd.iT ho0 (bY dN));replace HB:=dS hb;(try clear hb);(try clear ho0);obtain⟨Ao6,co6,eo6⟩:=Kd.iA Wm.out;subst eo6));go_ret2;exact⟨nG,dN⟩
 ·obtain⟨mP,yH⟩:=rO c4;have XE:¬ (Mo = []):=fun h_=>c4 (by rw[h_];rfl);replace H:=gI H;rcases H with⟨c7,uR,-,H⟩|⟨c7,-,-,H⟩
  ·have KS:decide (0<Mo.length)=true:=aT aa;clear c7;simp only[Option.some.injEq,Prod.mk.injEq] at H;obtain⟨rfl,rfl⟩:=H;go_enter Tryz.func44,Tryz.ntmps44;go_wp2_with(first|((with_reducible refine ag (f:=76) rfl ?_);refine aG (some 9) rfl rfl Tryz.func76 aK rfl #[.slice A0 l0.length c0,.string a1] rfl eu ?_;(with_reducible refine(iH.calls k _ _ l0 a1 Mo _ ?bM ?bN A3.out).mono ?_);(case bM=>repeat(first|exact Gx.out|(with_reducible refine Kd.aZ ?_ _)|(with_reducible refine Kd.bf ?_ _)|(with_reducible refine Kd.bP ?_)));(case bN=>exact O7.out);rintro e w8 ⟨ar1,rfl,ho0,hb⟩;refine⟨_,rfl,?_⟩;have Wm:=ae.mk (Kd.iT ho0 (bY dN));replace HB:=dS hb;(try clear hb);(try clear ho0);obtain⟨Ao9,co9,eo9⟩:=Kd.iA Wm.out;subst eo9;have agr:0≤(0:Int):=aa;have ags:0<(Mo.length:Int):=bE gL;obtain⟨auF,ar2,Y6⟩:=Kd.iV (Kd.bC Wm.out).2.2 0 agr ags;cases ar2;have auG:(0<Mo.length)=True:=eq_true aa;(try rw[show((0:Int)).toNat=0 from rfl] at Y6);(try rw[Addr.add_zero'] at Y6);replace agr:=eq_true agr;replace ags:=eq_true ags));go_ret2;exact⟨nG,dN⟩
  ·exact absurd H (by simp)


def dC.l0 : Nat→ByteArray→Int→Option (Bool)
 |0,_,_=>none
 |k+1,x0,x3=>if x3<(x0.size:Int) then(if 0≤x3 then(if(bt x0 x3)<33 then(some false) else(if(bt x0 x3)>126 then(some false) else(dC.l0 k x0 (wrap64 (x3+1))))) else(none)) else(some (decide ((x0.size:Int)>0)))
def dC.f (k:Nat) (a0:ByteArray):Option (Bool):=dC.l0 k a0 0
theorem dC.calls (k:Nat) (a0:ByteArray) (r:Bool) (w:World) (h:dC.f k a0=some r) :
  Calls Tryz.prog 100 #[.string a0] w fun e w'=>e = .returned (.bool r)∧ed w w':=by
 have H:=h;clear h;unfold dC.f at H;have H':=ae.mk H;clear H;go_enter Tryz.func100,Tryz.ntmps100;go_wp2;go_loopg [3] k (fun kq v3 w'=>∃(fU:Int),v3 = .int .i64 fU∧ae (dC.l0 kq a0 fU=some r)∧ae (kq≤k)∧ed w w')
 case atStart=>exact⟨(0),fI,H',⟨Nat.le_refl _⟩,lG⟩
 case round=>
  clear H';obtain⟨fU,rfl,HA,qj,⟨m1,rfl⟩⟩:=hrel;cases gk with
  |zero=>exact absurd HA.out (by simp[dC.l0])
  |succ k1=>
   have H:=HA.out;clear HA;simp only[dC.l0] at H;replace H:=gI H;rcases H with⟨-,nk,-,H⟩|⟨-,nk,-,H⟩
   ·replace H:=gN H;obtain⟨-,gM,-,H⟩:=H;replace H:=gI H;rcases H with⟨-,qh,-,H⟩|⟨-,qh,-,H⟩
    ·obtain rfl:=cu H;have p4:0≤(fU:Int):=bE gL;have q4:fU<(a0.size:Int):=bE gL;have hx4:=gV a0 fU;replace p4:=eq_true p4;replace q4:=eq_true q4;go_wp2;go_ret;exact⟨fI,lG⟩
    ·replace H:=gI H;rcases H with⟨c7,-,-,H⟩|⟨c7,-,-,H⟩
     ·have uR:decide (126<(bt a0 fU))=true:=aT c7;clear c7;obtain rfl:=cu H;have p4:0≤(fU:Int):=bE gL;have q4:fU<(a0.size:Int):=bE gL;have hx4:=gV a0 fU;replace p4:=eq_true p4;replace q4:=eq_true q4;have p6:0≤(fU:Int):=bE gL;have q6:fU<(a0.size:Int):=bE gL;have hx6:=gV a0 fU;replace p6:=eq_true p6;replace q6:=eq_true q6;go_wp2;go_ret;exact⟨fI,lG⟩
     ·have uR:decide (126<(bt a0 fU))=false:=aN c7;clear c7;have H':=ae.mk H;clear H;have p4:0≤(fU:Int):=bE gL;have q4:fU<(a0.size:Int):=bE gL;have hx4:=gV a0 fU;replace p4:=eq_true p4;replace q4:=eq_true q4;have p6:0≤(fU:Int):=bE gL;have q6:fU<(a0.size:Int):=bE gL;have hx6:=gV a0 fU;replace p6:=eq_true p6;replace q6:=eq_true q6;go_wp2;go_roundg k1
      case measure=>have:=qj.out;omega
      case rel=>exact⟨(wrap64 (fU+1)),fI,H',⟨by have:=qj.out;omega⟩,lG⟩
   ·obtain rfl:=cu H;go_wp2;go_ret;exact⟨fI,lG⟩

def fV.l0 : Nat→ByteArray→Int→Int→Option (ByteArray)
 |0,_,_,_=>none
 |k+1,x0,x1,x5=>if x5<(x0.size:Int) then(if 0≤x5 then(if(bt x0 x5)=x1 then(if x5≤(x0.size:Int) then(some (x0.extract 0 (x5:Int).toNat)) else(none)) else(fV.l0 k x0 x1 (wrap64 (x5+1)))) else(none)) else(some x0)
def fV.f (k:Nat) (a0:ByteArray) (a1:Int):Option (ByteArray):=fV.l0 k a0 a1 0
theorem fV.calls (k:Nat) (a0:ByteArray) (a1:Int) (r:ByteArray) (w:World) (h:fV.f k a0 a1=some r) :
  Calls Tryz.prog 140 #[.string a0,.int .u8 a1] w fun e w'=>e = .returned (.string r)∧ed w w':=by
 have H:=h;clear h;unfold fV.f at H;have H':=ae.mk H;clear H;go_enter Tryz.func140,Tryz.ntmps140;go_wp2;go_loopg [5] k (fun kq v5 w'=>∃(dJ:Int),v5 = .int .i64 dJ∧ae (fV.l0 kq a0 a1 dJ=some r)∧ae (kq≤k)∧ed w w')
 case atStart=>exact⟨(0),fI,H',⟨Nat.le_refl _⟩,lG⟩
 case round=>
  clear H';obtain⟨dJ,rfl,HA,qj,⟨m1,rfl⟩⟩:=hrel;cases gk with
  |zero=>exact absurd HA.out (by simp[fV.l0])
  |succ k1=>
   have H:=HA.out;clear HA;simp only[fV.l0] at H;replace H:=gI H;rcases H with⟨-,gM,-,H⟩|⟨-,gM,-,H⟩
   ·replace H:=gN H;obtain⟨-,mP,-,H⟩:=H;replace H:=gI H;rcases H with⟨c6,-,-,H⟩|⟨c6,-,-,H⟩
    ·obtain⟨nW,yK⟩:=rD c6;clear c6;have uR:=eq_true (bE gL:0≤dJ);replace H:=gN H;obtain⟨-,Iu,tO,H⟩:=H;obtain rfl:=cu H;have p5:0≤(dJ:Int):=bE gL;have q5:dJ<(a0.size:Int):=bE gL;have hx5:=gV a0 dJ;replace p5:=eq_true p5;replace q5:=eq_true q5;go_wp2;go_ret;exact⟨fI,lG⟩
    ·obtain⟨nW,yK⟩:=rO c6;have H':=ae.mk H;clear H;have p5:0≤(dJ:Int):=bE gL;have q5:dJ<(a0.size:Int):=bE gL;have hx5:=gV a0 dJ;replace p5:=eq_true p5;replace q5:=eq_true q5;go_wp2;go_roundg k1
     case measure=>have:=qj.out;omega
     case rel=>exact⟨(wrap64 (dJ+1)),fI,H',⟨by have:=qj.out;omega⟩,lG⟩
   ·obtain rfl:=cu H;go_wp2;go_ret;exact⟨fI,lG⟩

def gK.l0 : Nat→List (nV)→Int→Option (Bool)
 |0,_,_=>none
 |k+1,x0,x3=>if x3<(x0.length:Int) then(if 0≤x3 then((lq.f ((bg x0 x3).f0)).bind fun acU=>(if acU.toList=([99,111,110,116,101,110,116,45,108,101,110,103,116,104]:List UInt8) then(some true) else(if acU.toList=([116,114,97,110,115,102,101,114,45,101,110,99,111,100,105,110,103]:List UInt8) then(some true) else(if acU.toList=([116,114,97,105,108,101,114]:List UInt8) then(some true) else(gK.l0 k x0 (wrap64 (x3+1))))))) else(none)) else(some false)
def gK.f (k:Nat) (l0:List (nV)):Option (Bool):=gK.l0 k l0 0
theorem gK.e0 {p:Prop} (h:p:=by
  obtain rfl:=cu H
  have aaT:0≤(fU:Int):=bE gL
  have aaU:fU<(l0.length:Int):=bE gL
  obtain⟨ar3,amT,JK,JL⟩:=yZ Gx.out fU aaT aaU
  cases amT
  replace JK:=(HB.out.cell (World.block_lt_of_cell? w _ JK)).trans JK
  replace JL:=(HB.out.cell (World.block_lt_of_cell? w _ JL)).trans JL
  replace aaT:=eq_true aaT
  replace aaU:=eq_true aaU
  go_wp2_with(((with_reducible refine ag (f:=83) rfl ?_);refine aG (some 16) rfl rfl Tryz.func83 aK rfl #[.string ((bg l0 fU).f0)] rfl eu ?_;(with_reducible refine(lq.calls ((bg l0 fU).f0) acU _ A4.out).mono ?_);rintro e jm ⟨rfl,hb⟩;refine⟨_,rfl,?_⟩;replace HB:=dS hb;(try clear hb);(try clear hb2);(try clear hk);(try clear hi)))
  go_ret
  exact⟨nG,dN⟩):p:=h
theorem gK.calls (k:Nat) (A0:Option Addr) (c0:Nat) (l0:List (nV)) (r:Bool) (w:World) (hr0:Kd.C Ct w A0 l0.length l0) (hc0:l0.length≤c0) (h:gK.f k l0=some r) :
  Calls Tryz.prog 59 #[.slice A0 l0.length c0] w fun e w'=>e = .returned (.bool r)∧Below w.heap.size w w':=by
 have Gx:=ae.mk hr0;have O7:=ae.mk hc0;clear hr0 hc0;have HB:=ae.mk (Below.refl w.heap.size w);have H:=h;clear h;unfold gK.f at H;have H':=ae.mk H;clear H;go_enter Tryz.func59,Tryz.ntmps59;go_wp2;go_loopg [3] k (fun kq v3 w'=>∃(fU:Int),v3 = .int .i64 fU∧ae (gK.l0 kq l0 fU=some r)∧ae (kq≤k)∧ae (Below w.heap.size w w'))
 case atStart=>exact⟨(0),fI,H',⟨Nat.le_refl _⟩,⟨dN⟩⟩
 case round=>
  clear H';obtain⟨fU,rfl,HA,qj,HB⟩:=hrel;cases gk with
  |zero=>exact absurd HA.out (by simp[gK.l0])
  |succ k1=>
   have H:=HA.out;clear HA;simp only[gK.l0] at H;replace H:=gI H;rcases H with⟨-,nk,-,H⟩|⟨-,nk,-,H⟩
   ·replace H:=gN H;obtain⟨-,gM,-,H⟩:=H;replace H:=gD H;obtain⟨acU,A4,H⟩:=H;replace H:=gI H;rcases H with⟨c5,-,-,H⟩|⟨c5,-,-,H⟩
    ·obtain⟨qh,Al⟩:=rD c5;clear c5;exact gK.e0
    ·obtain⟨qh,Al⟩:=rO c5;replace H:=gI H;rcases H with⟨c7,-,-,H⟩|⟨c7,-,-,H⟩
     ·obtain⟨uR,KS⟩:=rD c7;clear c7;exact gK.e0
     ·obtain⟨uR,KS⟩:=rO c7;replace H:=gI H;rcases H with⟨c9,-,-,H⟩|⟨c9,-,-,H⟩
      ·obtain⟨xY,Gz⟩:=rD c9;clear c9;exact gK.e0
      ·obtain⟨xY,Gz⟩:=rO c9;have H':=ae.mk H;clear H;have aaT:0≤(fU:Int):=bE gL;have aaU:fU<(l0.length:Int):=bE gL;obtain⟨ar3,amT,JK,JL⟩:=yZ Gx.out fU aaT aaU;cases amT
       replace JK:=(HB.out.cell (World.block_lt_of_cell? w _ JK)).trans JK;replace JL:=(HB.out.cell (World.block_lt_of_cell? w _ JL)).trans JL;replace aaT:=eq_true aaT;replace aaU:=eq_true aaU;go_wp2_with(((with_reducible refine ag (f:=83) rfl ?_);refine aG (some 16) rfl rfl Tryz.func83 aK rfl #[.string ((bg l0 fU).f0)] rfl eu ?_;(with_reducible refine(lq.calls ((bg l0 fU).f0) acU _ A4.out).mono ?_);rintro e jm ⟨rfl,hb⟩;refine⟨_,rfl,?_⟩;replace HB:=dS hb;(try clear hb)));go_roundg k1
       case measure=>have:=qj.out;omega
       case rel=>exact⟨(wrap64 (fU+1)),fI,H',⟨by have:=qj.out;omega⟩,⟨dN⟩⟩
   ·obtain rfl:=cu H;go_wp2;go_ret;exact⟨nG,dN⟩


def xP.f (a0:Int):Option (Bool):=if a0=204 then(some true) else(some (a0==304))
theorem xP.calls (a0:Int) (r:Bool) (w:World) (h:xP.f a0=some r) :
  Calls Tryz.prog 101 #[.int .i64 a0] w fun e w'=>e = .returned (.bool r)∧ed w w':=by
 have H:=h;clear h;unfold xP.f at H;replace H:=gI H;rcases H with⟨c2,-,-,H⟩|⟨c2,-,-,H⟩
 ·obtain⟨nk,wB⟩:=rD c2;clear c2;obtain rfl:=cu H;go_enter Tryz.func101,Tryz.ntmps101;go_wp2;go_ret;exact⟨fI,lG⟩
 ·obtain⟨nk,wB⟩:=rO c2;obtain rfl:=cu H;go_enter Tryz.func101,Tryz.ntmps101;go_wp2;go_ret;exact⟨fI,lG⟩

def je.f (k:Nat) (aA:ByteArray) (aC:ByteArray) (aI:Int) (bD:ByteArray) (aU:Bool) (eD:List (nV)) (bK:ByteArray):Option (Bool):=if aC.toList=([]:List UInt8) then(if aI<200 then(some false) else(if aI>599 then(some false) else(if(bD.size:Int)>40 then(some false) else((fG.f k bD).bind fun ar4=>(if ar4=true then(if aU=true then(if bK.toList=([]:List UInt8) then(some true) else(some false)) else((xP.f aI).bind fun amU=>(some (!amU)))) else(some false)))))) else(some false)
theorem je.e0 {p:Prop} (h:p:=by
  obtain rfl:=cu H
  go_enter Tryz.func61,Tryz.ntmps61
  go_wp2_with(first|((with_reducible refine aY (N:=1) rfl ?_);refine FN #[.string aA,.string aC,.int .i64 aI,.string bD,.bool false,.slice pV eD.length pW,.string bK] 31 ?_;intro akf hg pU hbox hb;have Qj:=ae.mk (hbox);have akg:=jL hg;have akh:=jL hg;replace HB:=dS hb;clear hb hbox hg;obtain⟨_,_,_,_,_,_,_⟩:=rM Qj;obtain⟨_,_,_,_,_,_,_⟩:=tL Qj)|((with_reducible refine aY (N:=1) rfl ?_);refine FN #[.string aA,.string aC,.int .i64 aI,.string bD,.bool true,.slice pV eD.length pW,.string bK] 31 ?_;intro akf hg ku hbox hb;have Qj:=ae.mk (hbox);have akg:=jL hg;have akh:=jL hg;replace HB:=dS hb;clear hb hbox hg;obtain⟨_,_,_,_,_,_,_⟩:=rM Qj;obtain⟨_,_,_,_,_,_,_⟩:=tL Qj)|(go_at_call 98;(with_reducible refine(fG.calls k bD true _ LU.out).mono ?_);rintro e w' ⟨rfl,⟨nd,rfl⟩⟩)|(go_at_call 101;(with_reducible refine(xP.calls aI amU _ A20.out).mono ?_);rintro e w' ⟨rfl,⟨nd,rfl⟩⟩)|((with_reducible refine aY (N:=1) rfl ?_);refine FN #[.string aA,.string aC,.int .i64 aI,.string bD,.bool aU,.slice pV eD.length pW,.string bK] 31 ?_;intro akf hg jm hbox hb;have Qj:=ae.mk (hbox);have akg:=jL hg;have akh:=jL hg;replace HB:=dS hb;clear hb hbox hg;obtain⟨_,_,_,_,_,_,_⟩:=rM Qj;obtain⟨_,_,_,_,_,_,_⟩:=tL Qj)|(go_at_call 98;(with_reducible refine(fG.calls k bD false _ LU.out).mono ?_);rintro e w' ⟨rfl,⟨nd,rfl⟩⟩))
  go_ret
  exact⟨nG,dN⟩):p:=h
theorem je.calls (k:Nat) (aA aC:ByteArray) (aI:Int) (bD:ByteArray) (aU:Bool) (pV:Option Addr) (pW:Nat) (eD:List (nV)) (bK:ByteArray) (r:Bool) (w:World) (xU:Kd.C Ct w pV eD.length eD) (xV:eD.length≤pW) (h:je.f k aA aC aI bD aU eD bK=some r) :
  Calls Tryz.prog 61 #[.agg #[.string aA,.string aC,.int .i64 aI,.string bD,.bool aU,.slice pV eD.length pW,.string bK]] w fun e w'=>e = .returned (.bool r)∧Below w.heap.size w w':=by
 have Uh:=Tryz.underlying31;have tH:=ae.mk xU;have uw:=ae.mk xV;clear xU xV;have HB:=ae.mk (Below.refl w.heap.size w);have H:=h;clear h;unfold je.f at H;replace H:=gI H;rcases H with⟨c2,-,-,H⟩|⟨c2,-,-,H⟩
 ·obtain⟨nk,wB⟩:=rD c2;clear c2;replace H:=gI H;rcases H with⟨-,gM,-,H⟩|⟨-,gM,-,H⟩
  ·exact je.e0
  ·replace H:=gI H;rcases H with⟨c6,-,-,H⟩|⟨c6,-,-,H⟩
   ·have nW:decide (599<aI)=true:=aT c6;clear c6;exact je.e0
   ·have nW:decide (599<aI)=false:=aN c6;clear c6;replace H:=gI H;rcases H with⟨c9,-,-,H⟩|⟨c9,-,-,H⟩
    ·have xY:decide (40<(bD.size:Int))=true:=aT c9;have Gz:decide (40<bD.size)=true:=aT aa;clear c9;exact je.e0
    ·have xY:decide (40<(bD.size:Int))=false:=aN c9;have Gz:decide (40<bD.size)=false:=aN aa;clear c9;replace H:=gD H;obtain⟨ar4,LU,H⟩:=H;replace H:=gB H;rcases H with⟨rfl,H⟩|⟨rfl,H⟩
     ·replace H:=gB H;rcases H with⟨rfl,H⟩|⟨rfl,H⟩
      ·replace H:=gI H;rcases H with⟨c15,-,-,H⟩|⟨c15,-,-,H⟩
       ·obtain⟨Ew,LZ⟩:=rD c15;clear c15;exact je.e0
       ·obtain⟨Ew,LZ⟩:=rO c15;exact je.e0
      ·replace H:=gD H;obtain⟨amU,A20,H⟩:=H;exact je.e0
     ·exact je.e0
 ·obtain⟨nk,wB⟩:=rO c2;exact je.e0


mutual
def dB.j0 : Nat→ByteArray→ByteArray→ByteArray→Int→ByteArray→Bool→List (nV)→ByteArray→Option (ByteArray)
 |0,_,_,_,_,_,_,_,_=>none
 |k+1,x3,QZ,Wn,Wo,Wp,Q0,LP,LQ=>dB.l0 k x3 0 QZ Wn Wo Wp Q0 LP LQ
def dB.l0 : Nat→ByteArray→Int→ByteArray→ByteArray→Int→ByteArray→Bool→List (nV)→ByteArray→Option (ByteArray)
 |0,_,_,_,_,_,_,_,_,_=>none
 |k+1,x3,x4,QZ,Wn,Wo,Wp,Q0,LP,LQ=>if x4<(LP.length:Int) then(if 0≤x4 then((lT.f k ((bg LP x4).f0) ((bg LP x4).f1)).bind fun Wq=>(if x3.size+Wq.size≤9223372036854775807 then(if(x3++Wq).size+2≤9223372036854775807 then(dB.l0 k ((x3++Wq)++(⟨#[13,10]⟩:af)) (wrap64 (x4+1)) QZ Wn Wo Wp Q0 LP LQ) else(none)) else(none))) else(none)) else(if QZ.toList=([]:List UInt8) then(if Q0=true then(if x3.size+2≤9223372036854775807 then(some (x3++(⟨#[13,10]⟩:af))) else(none)) else(if x3.size+16≤9223372036854775807 then((bU.f k (LQ.size:Int)).bind fun QO=>(if(x3++(⟨#[67,111,110,116,101,110,116,45,76,101,110,103,116,104,58,32]⟩:af)).size+QO.size≤9223372036854775807 then(if((x3++(⟨#[67,111,110,116,101,110,116,45,76,101,110,103,116,104,58,32]⟩:af))++QO).size+2≤9223372036854775807 then(if(((x3++(⟨#[67,111,110,116,101,110,116,45,76,101,110,103,116,104,58,32]⟩:af))++QO)++(⟨#[13,10]⟩:af)).size+2≤9223372036854775807 then(some ((((x3++(⟨#[67,111,110,116,101,110,116,45,76,101,110,103,116,104,58,32]⟩:af))++QO)++(⟨#[13,10]⟩:af))++(⟨#[13,10]⟩:af))) else(none)) else(none)) else(none))) else(none))) else(if LQ.toList=([]:List UInt8) then(if x3.size+2≤9223372036854775807 then(some (x3++(⟨#[13,10]⟩:af))) else(none)) else(if x3.size+16≤9223372036854775807 then((bU.f k (LQ.size:Int)).bind fun QP=>(if(x3++(⟨#[67,111,110,116,101,110,116,45,76,101,110,103,116,104,58,32]⟩:af)).size+QP.size≤9223372036854775807 then(if((x3++(⟨#[67,111,110,116,101,110,116,45,76,101,110,103,116,104,58,32]⟩:af))++QP).size+2≤9223372036854775807 then(if(((x3++(⟨#[67,111,110,116,101,110,116,45,76,101,110,103,116,104,58,32]⟩:af))++QP)++(⟨#[13,10]⟩:af)).size+2≤9223372036854775807 then(some ((((x3++(⟨#[67,111,110,116,101,110,116,45,76,101,110,103,116,104,58,32]⟩:af))++QP)++(⟨#[13,10]⟩:af))++(⟨#[13,10]⟩:af))) else(none)) else(none)) else(none))) else(none))))
end
def dB.f (k:Nat) (aA:ByteArray) (aC:ByteArray) (aI:Int) (bD:ByteArray) (aU:Bool) (eD:List (nV)) (bK:ByteArray):Option (ByteArray):=if aA.size+1≤9223372036854775807 then(if(aA++(⟨#[32]⟩:af)).size+aC.size≤9223372036854775807 then(if((aA++(⟨#[32]⟩:af))++aC).size+11≤9223372036854775807 then(if aA.toList=([]:List UInt8) then((bU.f k aI).bind fun M5=>(if 9+M5.size≤9223372036854775807 then(if((⟨#[72,84,84,80,47,49,46,49,32]⟩:af)++M5).size+1≤9223372036854775807 then(if(((⟨#[72,84,84,80,47,49,46,49,32]⟩:af)++M5)++(⟨#[32]⟩:af)).size+bD.size≤9223372036854775807 then(if((((⟨#[72,84,84,80,47,49,46,49,32]⟩:af)++M5)++(⟨#[32]⟩:af))++bD).size+2≤9223372036854775807 then(dB.j0 k (((((⟨#[72,84,84,80,47,49,46,49,32]⟩:af)++M5)++(⟨#[32]⟩:af))++bD)++(⟨#[13,10]⟩:af)) aA aC aI bD aU eD bK) else(none)) else(none)) else(none)) else(none))) else(dB.j0 k (((aA++(⟨#[32]⟩:af))++aC)++(⟨#[32,72,84,84,80,47,49,46,49,13,10]⟩:af)) aA aC aI bD aU eD bK)) else(none)) else(none)) else(none)
def dB.T3 : Bool×List (List Nat×List Nat):=(true,[([],[]),([0],[0]),([1],[1]),([2],[2]),([3],[3]),([],[]),([5],[5]),([4,6],[4,6]),([7],[7]),([8,2,0,1,2,3,4,5,6,7,8],[8])])
def dB.B3 : List Nat:=[0,1,3,7,15,0,32,127,255,511]
theorem dB.Tg : rP .any (opsOf Tryz.f62 3)=dB.T3:=by kernel_rfl
theorem dB.Lg : kD dB.T3.2 dB.B3=true:=by kernel_rfl
theorem dB.e0 {p:Prop} (h:p:=by
  obtain rfl:=cu H
  obtain⟨_,_,_,_,_,_,_⟩:=rM Eg
  obtain⟨_,_,_,_,_,_,_⟩:=tL Eg
  go_wp2
  go_ret
  exact⟨nG,dN⟩):p:=h
theorem dB.e1 {p:Prop} (h:p:=by
  obtain rfl:=cu H
  obtain⟨_,_,_,_,_,_,_⟩:=rM Eg
  obtain⟨_,_,_,_,_,_,_⟩:=tL Eg
  go_wp2_with(first|((with_reducible refine ag (f:=102) rfl ?_);refine aG (some 63) rfl rfl Tryz.func102 aK rfl #[.int .i64 (bK.size:Int)] rfl eu ?_;(with_reducible refine(bU.calls k2 (bK.size:Int) QP _ A38.out).mono ?_);rintro e zO ⟨rfl,hb⟩;refine⟨_,rfl,?_⟩;replace Eg:=iG (g:=Jn) hb;replace HB:=dS hb;(try clear hb);(try clear hb2);(try clear hk);(try clear hi))|((with_reducible refine ag (f:=102) rfl ?_);refine aG (some 63) rfl rfl Tryz.func102 aK rfl #[.int .i64 (bK.size:Int)] rfl eu ?_;(with_reducible refine(bU.calls k2 (bK.size:Int) QO _ A28.out).mono ?_);rintro e Aa ⟨rfl,hb⟩;refine⟨_,rfl,?_⟩;replace Eg:=iG (g:=Jn) hb;replace HB:=dS hb;(try clear hb);(try clear hb2);(try clear hk);(try clear hi)))
  go_ret
  exact⟨nG,dN⟩):p:=h
theorem dB.calls (k:Nat) (aA aC:ByteArray) (aI:Int) (bD:ByteArray) (aU:Bool) (pV:Option Addr) (pW:Nat) (eD:List (nV)) (bK r:ByteArray) (w:World) (xU:Kd.C Ct w pV eD.length eD) (xV:eD.length≤pW) (h:dB.f k aA aC aI bD aU eD bK=some r) :
  Calls Tryz.prog 62 #[.agg #[.string aA,.string aC,.int .i64 aI,.string bD,.bool aU,.slice pV eD.length pW,.string bK]] w fun e w'=>e = .returned (.string r)∧Below w.heap.size w w':=by
 have Uh:=Tryz.underlying31;have RY:=Tryz.underlying72;have tH:=ae.mk xU;have uw:=ae.mk xV;clear xU xV;have HB:=ae.mk (Below.refl w.heap.size w);have H:=h;clear h;unfold dB.f at H;replace H:=gI H;rcases H with⟨c2,wB,nk,H⟩|⟨c2,-,-,H⟩
 ·try have aeE:(9223372036854775807<aA.size+1)=False:=eq_false (Nat.not_lt.2 c2)
  replace H:=gN H;obtain⟨c3,uX,gM,H⟩:=H;try have Ui:(9223372036854775807<(aA++(⟨#[32]⟩:af)).size+aC.size)=False:=eq_false (Nat.not_lt.2 c3)
  try have ate:(9223372036854775807<aA.size+1+aC.size)=False:=by have h_:=c3;simp only[ByteArray.size_append] at h_;exact eq_false (Nat.not_lt.2 h_)
  replace H:=gN H;obtain⟨c4,yH,mP,H⟩:=H;try have XE:(9223372036854775807<((aA++(⟨#[32]⟩:af))++aC).size+11)=False:=eq_false (Nat.not_lt.2 c4)
  try have amj:(9223372036854775807<aA.size+1+aC.size+11)=False:=by have h_:=c4;simp only[ByteArray.size_append] at h_;exact eq_false (Nat.not_lt.2 h_)
  have HC5:=ae.mk H;clear H;go_enter Tryz.func62,Tryz.ntmps62;go_upto_if 14 with(first|((with_reducible refine aY (N:=1) rfl ?_);refine jX #[.string aA,.string aC,.int .i64 aI,.string bD,.bool aU,.slice pV eD.length pW,.string bK] 31 ?_;intro Jn hg w6 hbox hb;have o7:=dS hb;have qG:=ae.mk (hbox);have Bi:=jL hg;have R8:=jL hg;clear HB;have HB:=o7;have Eg:=qG;have axM:=Bi;have axN:=R8;clear o7 qG Bi R8;clear hb hbox hg;obtain⟨_,_,_,_,_,_,_⟩:=rM Eg;obtain⟨_,_,_,_,_,_,_⟩:=tL Eg));(try simp only[Act.put,List.setIfInBounds_toArray,List.set_cons_zero,List.set_cons_succ])
  go_cut [3] (fun v3 wc=>∃(kq:Nat) (air:ByteArray),v3 = .string air∧ae (dB.j0 kq air aA aC aI bD aU eD bK=some r)∧ae (kq≤k)∧ae (wc.heap[Jn]? = some (.cells #[.string aA,.string aC,.int .i64 aI,.string bD,.bool aU,(.slice pV eD.length pW),.string bK] 31 (0,0)))∧ae (Below w.heap.size w wc))
  case first=>
   have H:=HC5.out;clear HC5;replace H:=gI H;rcases H with⟨c8,-,-,H⟩|⟨c8,-,-,H⟩
   ·have tO:(aA.toList==([]:List UInt8))=true:=beq_iff_eq.mpr c8;have aaI:aA.toList.isEmpty=true:=List.isEmpty_iff.mpr c8;have Iu:(aA.toList != ([]:List UInt8))=false:=bne_eq_false_iff_eq.mpr c8;clear c8;(first|rw[tO]|rw[aaI]|(simp only[iE,jF];rw[tO])|skip)
    replace H:=gD H;obtain⟨M5,A9,H⟩:=H;replace H:=gN H;obtain⟨c10,L6,yS,H⟩:=H;try have ajY:(9223372036854775807<9+M5.size)=False:=eq_false (Nat.not_lt.2 c10)
    replace H:=gN H;obtain⟨c11,JO,xA,H⟩:=H;try have afn:(9223372036854775807<((⟨#[72,84,84,80,47,49,46,49,32]⟩:af)++M5).size+1)=False:=eq_false (Nat.not_lt.2 c11)
    try have aki:(9223372036854775807<9+M5.size+1)=False:=by have h_:=c11;simp only[ByteArray.size_append] at h_;exact eq_false (Nat.not_lt.2 h_)
    replace H:=gN H;obtain⟨c12,KZ,wO,H⟩:=H;try have ar5:(9223372036854775807<(((⟨#[72,84,84,80,47,49,46,49,32]⟩:af)++M5)++(⟨#[32]⟩:af)).size+bD.size)=False:=eq_false (Nat.not_lt.2 c12)
    try have axO:(9223372036854775807<9+M5.size+1+bD.size)=False:=by have h_:=c12;simp only[ByteArray.size_append] at h_;exact eq_false (Nat.not_lt.2 h_)
    replace H:=gN H;obtain⟨c13,H9,zP,H⟩:=H;try have abH:(9223372036854775807<((((⟨#[72,84,84,80,47,49,46,49,32]⟩:af)++M5)++(⟨#[32]⟩:af))++bD).size+2)=False:=eq_false (Nat.not_lt.2 c13)
    try have abI:(9223372036854775807<9+M5.size+1+bD.size+2)=False:=by have h_:=c13;simp only[ByteArray.size_append] at h_;exact eq_false (Nat.not_lt.2 h_)
    have H':=ae.mk H;clear H;try go_wp2
    replace Eg:=ae.mk (bJ Eg.out);replace HB:=ae.mk (di HB.out);refine lL (n:=10) (S:=fun w'=>w'.cell? ⟨Jn,0,none⟩=some (.string aA)∧w'.cell? ⟨Jn,1,none⟩=some (.string aC)∧w'.cell? ⟨Jn,2,none⟩=some (.int .i64 aI)∧w'.cell? ⟨Jn,3,none⟩=some (.string bD)∧w'.cell? ⟨Jn,4,none⟩=some (.bool aU)∧w'.cell? ⟨Jn,5,none⟩=some (.slice pV eD.length pW)∧w'.cell? ⟨Jn,6,none⟩=some (.string bK)) (ds:=[]) (rM Eg) (fun hHeld=>?_);refine fu dB.Tg dB.Lg (fun HT_ HW_=>?_);generalize w6.drew=jm at Eg HB hHeld ⊢;repeat(first|refine nU ?_ (hy:=Or.inl ⟨by rfl,by rintro w' ⟨s0,s1,s2,s3,s4,s5,s6⟩;go_simp;with_reducible rfl⟩)|refine fA ?_)
    refine dn 5 (some 20) ?_;refine iC 6 (some 21) (hy:=Or.inl ⟨by rfl,by rintro w' ⟨s0,s1,s2,s3,s4,s5,s6⟩;go_simp;with_reducible rfl⟩) ?_;refine iM (fun K hK=>?_);refine dV Tryz.func102 aK rfl #[.int .i64 aI] (by rfl) rfl rfl eu ?_;(with_reducible refine(bU.calls k aI M5 _ A9.out).mono ?_);rintro e ku ⟨rfl,hb⟩;refine⟨_,rfl,?_⟩;replace Eg:=iG (g:=Jn) hb;replace HB:=dS hb;(try clear hb)
    refine hK.out _ _ (rM Eg) (fun hHeld=>?_);clear hK K;refine eP ?_;repeat(first|refine fA ?_)
    refine mW (iR HT_.out aK) ?_;try go_wp2
    go_meet
    case rel=>exact⟨_,(((((⟨#[72,84,84,80,47,49,46,49,32]⟩:af)++M5)++(⟨#[32]⟩:af))++bD)++(⟨#[13,10]⟩:af)),fI,H',⟨EC⟩,⟨yg⟩,⟨dN⟩⟩
   ·have tO:(aA.toList==([]:List UInt8))=false:=beq_eq_false_iff_ne.mpr c8;have aaI:aA.toList.isEmpty=false:=Bool.eq_false_iff.mpr (fun h_=>c8 (List.isEmpty_iff.mp h_));have Iu:(aA.toList != ([]:List UInt8))=true:=bne_iff_ne.mpr c8;(first|rw[tO]|rw[aaI]|(simp only[iE,jF];rw[tO])|skip)
    have H':=ae.mk H;clear H;go_wp2;go_meet
    case rel=>exact⟨_,(((aA++(⟨#[32]⟩:af))++aC)++(⟨#[32,72,84,84,80,47,49,46,49,13,10]⟩:af)),fI,H',⟨EC⟩,⟨yg⟩,⟨dN⟩⟩
  case rest=>
   clear HC5;try clear c2
   try clear nk
   try clear wB
   try clear aeE
   try clear c3
   try clear gM
   try clear uX
   try clear Ui
   try clear c4
   try clear mP
   try clear yH
   try clear XE
   obtain⟨kq,air,rfl,HA,HJ4,Eg,HB⟩:=hcut;cases kq with
   |zero=>exact absurd HA.out (by simp[dB.j0])
   |succ kj4=>
    have H:=HA.out;clear HA;simp only[dB.j0] at H;have H':=ae.mk H;clear H;go_wp2;go_loopg [3,4] kj4 (fun kq v3 v4 w'=>∃(l8:ByteArray) (kv:Int),v3 = .string l8∧v4 = .int .i64 kv∧ae (dB.l0 kq l8 kv aA aC aI bD aU eD bK=some r)∧ae (kq≤kj4)∧ae (w'.heap[Jn]? = some (.cells #[.string aA,.string aC,.int .i64 aI,.string bD,.bool aU,(.slice pV eD.length pW),.string bK] 31 (0,0)))∧ae (Below w.heap.size w w'))
    case atStart=>exact⟨(air),(0),fI,fI,H',⟨Nat.le_refl _⟩,⟨yg⟩,⟨dN⟩⟩
    case round=>
     clear H';try clear c2
     try clear nk
     try clear wB
     try clear aeE
     try clear c3
     try clear gM
     try clear uX
     try clear Ui
     try clear c4
     try clear mP
     try clear yH
     try clear XE
     obtain⟨l8,kv,rfl,rfl,HA,Eo,Eg,HB⟩:=hrel;cases gk with
     |zero=>exact absurd HA.out (by simp[dB.l0])
     |succ k2=>
      have H:=HA.out;clear HA;simp only[dB.l0] at H;replace H:=gI H;rcases H with⟨-,Ae,-,H⟩|⟨-,Ae,-,H⟩
      ·replace H:=gN H;obtain⟨-,Bh,-,H⟩:=H;replace H:=gD H;obtain⟨Wq,A18,H⟩:=H;replace H:=gN H;obtain⟨c19,U3,Mc,H⟩:=H;try have ajv:(9223372036854775807<l8.size+Wq.size)=False:=eq_false (Nat.not_lt.2 c19)
       replace H:=gN H;obtain⟨c20,Oo,Ex,H⟩:=H;try have X4:(9223372036854775807<(l8++Wq).size+2)=False:=eq_false (Nat.not_lt.2 c20)
       try have X5:(9223372036854775807<l8.size+Wq.size+2)=False:=by have h_:=c20;simp only[ByteArray.size_append] at h_;exact eq_false (Nat.not_lt.2 h_)
       have H':=ae.mk H;clear H;obtain⟨_,_,_,_,_,_,_⟩:=rM Eg;obtain⟨_,_,_,_,_,_,_⟩:=tL Eg;have amV:0≤(kv:Int):=bE gL;have amW:kv<(eD.length:Int):=bE gL;obtain⟨axP,auH,Ws,Wt⟩:=yZ tH.out kv amV amW;cases auH
       replace Ws:=(HB.out.cell (World.block_lt_of_cell? w _ Ws)).trans Ws;replace Wt:=(HB.out.cell (World.block_lt_of_cell? w _ Wt)).trans Wt;replace amV:=eq_true amV;replace amW:=eq_true amW;go_wp2_with(((with_reducible refine ag (f:=103) rfl ?_);refine aG (some 37) rfl rfl Tryz.func103 aK rfl #[.agg #[.string ((bg eD kv).f0),.string ((bg eD kv).f1)]] rfl eu ?_;(with_reducible refine(lT.calls k2 ((bg eD kv).f0) ((bg eD kv).f1) Wq _ A18.out).mono ?_);rintro e pU ⟨rfl,hb⟩;refine⟨_,rfl,?_⟩;replace Eg:=iG (g:=Jn) hb;replace HB:=dS hb;(try clear hb)));go_roundg k2
       case measure=>have:=HJ4.out;have:=Eo.out;omega
       case rel=>exact⟨((l8++Wq)++(⟨#[13,10]⟩:af)),(wrap64 (kv+1)),fI,fI,H',⟨by have:=HJ4.out;have:=Eo.out;omega⟩,⟨yg⟩,⟨dN⟩⟩
      ·replace H:=gI H;rcases H with⟨c23,-,-,H⟩|⟨c23,-,-,H⟩
       ·obtain⟨SE,U7⟩:=rD c23;clear c23;replace H:=gB H;rcases H with⟨rfl,H⟩|⟨rfl,H⟩
        ·replace H:=gN H;obtain⟨P7,SV,Fs,H⟩:=H;try have afp:(9223372036854775807<l8.size+2)=False:=eq_false (Nat.not_lt.2 P7)
         exact dB.e0
        ·replace H:=gN H;obtain⟨c27,abh,Oq,H⟩:=H;try have aeO:(9223372036854775807<l8.size+16)=False:=eq_false (Nat.not_lt.2 c27)
         replace H:=gD H;obtain⟨QO,A28,H⟩:=H;replace H:=gN H;obtain⟨U5,Ot,Ou,H⟩:=H;try have aoY:(9223372036854775807<(l8++(⟨#[67,111,110,116,101,110,116,45,76,101,110,103,116,104,58,32]⟩:af)).size+QO.size)=False:=eq_false (Nat.not_lt.2 U5)
         try have ajj:(9223372036854775807<l8.size+16+QO.size)=False:=by have h_:=U5;simp only[ByteArray.size_append] at h_;exact eq_false (Nat.not_lt.2 h_)
         replace H:=gN H;obtain⟨c30,ab0,YE,H⟩:=H;try have ar6:(9223372036854775807<((l8++(⟨#[67,111,110,116,101,110,116,45,76,101,110,103,116,104,58,32]⟩:af))++QO).size+2)=False:=eq_false (Nat.not_lt.2 c30)
         try have akj:(9223372036854775807<l8.size+16+QO.size+2)=False:=by have h_:=c30;simp only[ByteArray.size_append] at h_;exact eq_false (Nat.not_lt.2 h_)
         replace H:=gN H;obtain⟨c31,aoZ,aeP,H⟩:=H;try have ao0:(9223372036854775807<(((l8++(⟨#[67,111,110,116,101,110,116,45,76,101,110,103,116,104,58,32]⟩:af))++QO)++(⟨#[13,10]⟩:af)).size+2)=False:=eq_false (Nat.not_lt.2 c31)
         try have ajk:(9223372036854775807<l8.size+16+QO.size+2+2)=False:=by have h_:=c31;simp only[ByteArray.size_append] at h_;exact eq_false (Nat.not_lt.2 h_)
         exact dB.e1
       ·obtain⟨SE,U7⟩:=rO c23;replace H:=gI H;rcases H with⟨c34,-,-,H⟩|⟨c34,-,-,H⟩
        ·obtain⟨XM,XL⟩:=rD c34;clear c34;replace H:=gN H;obtain⟨c35,Yb,Ya,H⟩:=H;try have aqu:(9223372036854775807<l8.size+2)=False:=eq_false (Nat.not_lt.2 c35)
         exact dB.e0
        ·obtain⟨XM,XL⟩:=rO c34;replace H:=gN H;obtain⟨c37,axQ,arC,H⟩:=H;try have axR:(9223372036854775807<l8.size+16)=False:=eq_false (Nat.not_lt.2 c37)
         replace H:=gD H;obtain⟨QP,A38,H⟩:=H;replace H:=gN H;obtain⟨QM,Ml,JU,H⟩:=H;try have axS:(9223372036854775807<(l8++(⟨#[67,111,110,116,101,110,116,45,76,101,110,103,116,104,58,32]⟩:af)).size+QP.size)=False:=eq_false (Nat.not_lt.2 QM)
         try have axT:(9223372036854775807<l8.size+16+QP.size)=False:=by have h_:=QM;simp only[ByteArray.size_append] at h_;exact eq_false (Nat.not_lt.2 h_)
         replace H:=gN H;obtain⟨c40,aq8,aq9,H⟩:=H;try have axU:(9223372036854775807<((l8++(⟨#[67,111,110,116,101,110,116,45,76,101,110,103,116,104,58,32]⟩:af))++QP).size+2)=False:=eq_false (Nat.not_lt.2 c40)
         try have axV:(9223372036854775807<l8.size+16+QP.size+2)=False:=by have h_:=c40;simp only[ByteArray.size_append] at h_;exact eq_false (Nat.not_lt.2 h_)
         replace H:=gN H;obtain⟨c41,ara,ajE,H⟩:=H;try have axW:(9223372036854775807<(((l8++(⟨#[67,111,110,116,101,110,116,45,76,101,110,103,116,104,58,32]⟩:af))++QP)++(⟨#[13,10]⟩:af)).size+2)=False:=eq_false (Nat.not_lt.2 c41)
         try have axX:(9223372036854775807<l8.size+16+QP.size+2+2)=False:=by have h_:=c41;simp only[ByteArray.size_append] at h_;exact eq_false (Nat.not_lt.2 h_)
         exact dB.e1
 ·exact absurd H (by simp)


def iW.f (k:Nat) (aA:ByteArray) (aC:ByteArray) (aI:Int) (bD:ByteArray) (aU:Bool) (eD:List (nV)) (bK:ByteArray):Option (Bool):=if(aA.size:Int)≤20 then((eF.f k aA).bind fun ar7=>(if ar7=true then(if(aC.size:Int)≤200 then((dC.f k aC).bind fun ar8=>(if ar8=true then(if aI=0 then(if bD.toList=([]:List UInt8) then(some (!aU)) else(some false)) else(some false)) else(some false))) else(some false)) else(some false))) else(some false)
theorem iW.e0 {p:Prop} (h:p:=by
  obtain rfl:=cu H
  go_enter Tryz.func60,Tryz.ntmps60
  go_wp2_with(first|((with_reducible refine aY (N:=1) rfl ?_);refine FN #[.string aA,.string aC,.int .i64 aI,.string bD,.bool aU,.slice pV eD.length pW,.string bK] 31 ?_;intro axY hg jm hbox hb;have akk:=ae.mk (hbox);have axZ:=jL hg;have ax0:=jL hg;replace HB:=dS hb;clear hb hbox hg;obtain⟨_,_,_,_,_,_,_⟩:=rM akk;obtain⟨_,_,_,_,_,_,_⟩:=tL akk)|(go_at_call 97;(with_reducible refine(eF.calls k aA false _ A3.out).mono ?_);rintro e w' ⟨rfl,⟨nd,rfl⟩⟩)|(go_at_call 97;(with_reducible refine(eF.calls k aA true _ A3.out).mono ?_);rintro e w' ⟨rfl,⟨nd,rfl⟩⟩)|(go_at_call 100;(with_reducible refine(dC.calls k aC false _ A6.out).mono ?_);rintro e w' ⟨rfl,⟨nd,rfl⟩⟩)|(go_at_call 100;(with_reducible refine(dC.calls k aC true _ A6.out).mono ?_);rintro e w' ⟨rfl,⟨nd,rfl⟩⟩))
  go_ret
  exact⟨nG,dN⟩):p:=h
theorem iW.calls (k:Nat) (aA aC:ByteArray) (aI:Int) (bD:ByteArray) (aU:Bool) (pV:Option Addr) (pW:Nat) (eD:List (nV)) (bK:ByteArray) (r:Bool) (w:World) (xU:Kd.C Ct w pV eD.length eD) (xV:eD.length≤pW) (h:iW.f k aA aC aI bD aU eD bK=some r) :
  Calls Tryz.prog 60 #[.agg #[.string aA,.string aC,.int .i64 aI,.string bD,.bool aU,.slice pV eD.length pW,.string bK]] w fun e w'=>e = .returned (.bool r)∧Below w.heap.size w w':=by
 have Uh:=Tryz.underlying31;have tH:=ae.mk xU;have uw:=ae.mk xV;clear xU xV;have HB:=ae.mk (Below.refl w.heap.size w);have H:=h;clear h;unfold iW.f at H;replace H:=gI H;rcases H with⟨c2,nk,-,H⟩|⟨c2,nk,-,H⟩
 ·have wB:decide (aA.size≤20)=true:=aT aa;clear c2;replace H:=gD H;obtain⟨ar7,A3,H⟩:=H;replace H:=gB H;rcases H with⟨rfl,H⟩|⟨rfl,H⟩
  ·replace H:=gI H;rcases H with⟨c5,qh,-,H⟩|⟨c5,qh,-,H⟩
   ·have Al:decide (aC.size≤200)=true:=aT aa;clear c5;replace H:=gD H;obtain⟨ar8,A6,H⟩:=H;replace H:=gB H;rcases H with⟨rfl,H⟩|⟨rfl,H⟩
    ·replace H:=gI H;rcases H with⟨c8,-,-,H⟩|⟨c8,-,-,H⟩
     ·obtain⟨tO,Iu⟩:=rD c8;clear c8;replace H:=gI H;rcases H with⟨c9,-,-,H⟩|⟨c9,-,-,H⟩
      ·obtain⟨xY,Gz⟩:=rD c9;clear c9;exact iW.e0
      ·obtain⟨xY,Gz⟩:=rO c9;exact iW.e0
     ·obtain⟨tO,Iu⟩:=rO c8;exact iW.e0
    ·exact iW.e0
   ·have Al:decide (aC.size≤200)=false:=aN aa;clear c5;exact iW.e0
  ·exact iW.e0
 ·have wB:decide (aA.size≤20)=false:=aN aa;clear c2;exact iW.e0


def gQ.j0 : Nat→Bool→ByteArray→ByteArray→Int→ByteArray→Bool→List (nV)→ByteArray→Option (Bool)
 |0,_,_,_,_,_,_,_,_=>none
 |k+1,x23,OL,Q3,Q4,Q5,Q6,Q7,Q8=>if x23=true then(some false) else(if OL.toList=([]:List UInt8) then((je.f k OL Q3 Q4 Q5 Q6 Q7 Q8).bind fun ar9=>(if ar9=true then((dB.f k OL Q3 Q4 Q5 Q6 Q7 Q8).bind fun amX=>(some (decide ((amX.size:Int)≤1500)))) else(some false))) else((iW.f k OL Q3 Q4 Q5 Q6 Q7 Q8).bind fun asa=>(if asa=true then((dB.f k OL Q3 Q4 Q5 Q6 Q7 Q8).bind fun amY=>(some (decide ((amY.size:Int)≤1500)))) else(some false))))
def gQ.f (k:Nat) (aA:ByteArray) (aC:ByteArray) (aI:Int) (bD:ByteArray) (aU:Bool) (eD:List (nV)) (bK:ByteArray):Option (Bool):=(eY.f k eD).bind fun asb=>(if asb=true then(if(eD.length:Int)=20 then(gQ.j0 k true aA aC aI bD aU eD bK) else((gK.f k eD).bind fun asc=>(if asc=true then(gQ.j0 k true aA aC aI bD aU eD bK) else(gQ.j0 k (decide ((bK.size:Int)>600)) aA aC aI bD aU eD bK)))) else(gQ.j0 k true aA aC aI bD aU eD bK))
theorem gQ.e0 {p:Prop} (h:p:=by
  have H':=ae.mk H
  clear H
  obtain⟨_,_,_,_,_,_,_⟩:=rM wR
  obtain⟨_,_,_,_,_,_,_⟩:=tL wR
  go_wp2_with(first|((with_reducible refine ag (f:=32) rfl ?_);refine aG (some 5) rfl rfl Tryz.func32 aK rfl #[.slice pV eD.length pW] rfl eu ?_;(with_reducible refine(eY.calls k _ _ eD false _ ?bM ?bN A4.out).mono ?_);(case bM=>repeat(first|exact(Kd.bO tH.out HB.out)|(with_reducible refine Kd.aZ ?_ _)|(with_reducible refine Kd.bf ?_ _)|(with_reducible refine Kd.bP ?_)));(case bN=>exact uw.out);rintro e Aa ⟨rfl,hb⟩;refine⟨_,rfl,?_⟩;replace wR:=iG (g:=JV) hb;replace HB:=dS hb;(try clear hb);(try clear hb2);(try clear hk);(try clear hi))|((with_reducible refine ag (f:=32) rfl ?_);refine aG (some 5) rfl rfl Tryz.func32 aK rfl #[.slice pV eD.length pW] rfl eu ?_;(with_reducible refine(eY.calls k _ _ eD true _ ?bM ?bN A4.out).mono ?_);(case bM=>repeat(first|exact(Kd.bO tH.out HB.out)|(with_reducible refine Kd.aZ ?_ _)|(with_reducible refine Kd.bf ?_ _)|(with_reducible refine Kd.bP ?_)));(case bN=>exact uw.out);rintro e jm ⟨rfl,hb⟩;refine⟨_,rfl,?_⟩;replace wR:=iG (g:=JV) hb;replace HB:=dS hb;(try clear hb);(try clear hb2);(try clear hk);(try clear hi);obtain⟨_,_,_,_,_,_,_⟩:=rM wR;obtain⟨_,_,_,_,_,_,_⟩:=tL wR)|(go_at_call 59;(with_reducible refine(gK.calls k _ _ eD true _ ?bM ?bN PS.out).mono ?_);(case bM=>repeat(first|exact(Kd.bO tH.out HB.out)|(with_reducible refine Kd.aZ ?_ _)|(with_reducible refine Kd.bf ?_ _)|(with_reducible refine Kd.bP ?_)));(case bN=>exact uw.out);rintro e ku ⟨rfl,hb⟩;replace wR:=iG (g:=JV) hb;replace HB:=dS hb;(try clear hb);(try clear hb2);(try clear hk);(try clear hi)))
  go_meet
  case rel=>exact⟨_,(true),fI,H',⟨EC⟩,⟨yg⟩,⟨dN⟩⟩):p:=h
theorem gQ.e1 {p:Prop} (h:p:=by
  obtain rfl:=cu H
  obtain⟨_,_,_,_,_,_,_⟩:=rM wR
  obtain⟨_,_,_,_,_,_,_⟩:=tL wR
  go_wp2_with(first|(go_at_call 60;(with_reducible refine(iW.calls uY aA aC aI bD aU _ _ eD bK false _ ?bM ?bN A34.out).mono ?_);(case bM=>repeat(first|exact(Kd.bO tH.out HB.out)|(with_reducible refine Kd.aZ ?_ _)|(with_reducible refine Kd.bf ?_ _)|(with_reducible refine Kd.bP ?_)));(case bN=>exact uw.out);rintro e VS ⟨rfl,hb⟩;replace wR:=iG (g:=JV) hb;replace HB:=dS hb;(try clear hb);(try clear hb2);(try clear hk);(try clear hi))|(go_at_call 60;(with_reducible refine(iW.calls uY aA aC aI bD aU _ _ eD bK true _ ?bM ?bN A34.out).mono ?_);(case bM=>repeat(first|exact(Kd.bO tH.out HB.out)|(with_reducible refine Kd.aZ ?_ _)|(with_reducible refine Kd.bf ?_ _)|(with_reducible refine Kd.bP ?_)));(case bN=>exact uw.out);rintro e NQ ⟨rfl,hb⟩;replace wR:=iG (g:=JV) hb;replace HB:=dS hb;(try clear hb);(try clear hb2);(try clear hk);(try clear hi);obtain⟨_,_,_,_,_,_,_⟩:=rM wR;obtain⟨_,_,_,_,_,_,_⟩:=tL wR)|((with_reducible refine ag (f:=62) rfl ?_);refine aG (some 43) rfl rfl Tryz.func62 aK rfl #[.agg #[.string aA,.string aC,.int .i64 aI,.string bD,.bool aU,.slice pV eD.length pW,.string bK]] rfl eu ?_;(with_reducible refine(dB.calls uY aA aC aI bD aU _ _ eD bK amY _ ?bM ?bN A36.out).mono ?_);(case bM=>repeat(first|exact(Kd.bO tH.out HB.out)|(with_reducible refine Kd.aZ ?_ _)|(with_reducible refine Kd.bf ?_ _)|(with_reducible refine Kd.bP ?_)));(case bN=>exact uw.out);rintro e acr ⟨rfl,hb⟩;refine⟨_,rfl,?_⟩;replace wR:=iG (g:=JV) hb;replace HB:=dS hb;(try clear hb);(try clear hb2);(try clear hk);(try clear hi))|(go_at_call 61;(with_reducible refine(je.calls uY aA aC aI bD aU _ _ eD bK false _ ?bM ?bN A25.out).mono ?_);(case bM=>repeat(first|exact(Kd.bO tH.out HB.out)|(with_reducible refine Kd.aZ ?_ _)|(with_reducible refine Kd.bf ?_ _)|(with_reducible refine Kd.bP ?_)));(case bN=>exact uw.out);rintro e Jv ⟨rfl,hb⟩;replace wR:=iG (g:=JV) hb;replace HB:=dS hb;(try clear hb);(try clear hb2);(try clear hk);(try clear hi))|(go_at_call 61;(with_reducible refine(je.calls uY aA aC aI bD aU _ _ eD bK true _ ?bM ?bN A25.out).mono ?_);(case bM=>repeat(first|exact(Kd.bO tH.out HB.out)|(with_reducible refine Kd.aZ ?_ _)|(with_reducible refine Kd.bf ?_ _)|(with_reducible refine Kd.bP ?_)));(case bN=>exact uw.out);rintro e zO ⟨rfl,hb⟩;replace wR:=iG (g:=JV) hb;replace HB:=dS hb;(try clear hb);(try clear hb2);(try clear hk);(try clear hi);obtain⟨_,_,_,_,_,_,_⟩:=rM wR;obtain⟨_,_,_,_,_,_,_⟩:=tL wR)|((with_reducible refine ag (f:=62) rfl ?_);refine aG (some 43) rfl rfl Tryz.func62 aK rfl #[.agg #[.string aA,.string aC,.int .i64 aI,.string bD,.bool aU,.slice pV eD.length pW,.string bK]] rfl eu ?_;(with_reducible refine(dB.calls uY aA aC aI bD aU _ _ eD bK amX _ ?bM ?bN A27.out).mono ?_);(case bM=>repeat(first|exact(Kd.bO tH.out HB.out)|(with_reducible refine Kd.aZ ?_ _)|(with_reducible refine Kd.bf ?_ _)|(with_reducible refine Kd.bP ?_)));(case bN=>exact uw.out);rintro e Fq ⟨rfl,hb⟩;refine⟨_,rfl,?_⟩;replace wR:=iG (g:=JV) hb;replace HB:=dS hb;(try clear hb);(try clear hb2);(try clear hk);(try clear hi)))
  go_ret
  exact⟨nG,dN⟩):p:=h
theorem gQ.calls (k:Nat) (aA aC:ByteArray) (aI:Int) (bD:ByteArray) (aU:Bool) (pV:Option Addr) (pW:Nat) (eD:List (nV)) (bK:ByteArray) (r:Bool) (w:World) (xU:Kd.C Ct w pV eD.length eD) (xV:eD.length≤pW) (h:gQ.f k aA aC aI bD aU eD bK=some r) :
  Calls Tryz.prog 33 #[.agg #[.string aA,.string aC,.int .i64 aI,.string bD,.bool aU,.slice pV eD.length pW,.string bK]] w fun e w'=>e = .returned (.bool r)∧Below w.heap.size w w':=by
 have Uh:=Tryz.underlying31;have tH:=ae.mk xU;have uw:=ae.mk xV;clear xU xV;have HB:=ae.mk (Below.refl w.heap.size w);have H:=h;clear h;unfold gQ.f at H;have xZ:=ae.mk H;clear H;go_enter Tryz.func33,Tryz.ntmps33;go_upto_region 1 with(first|((with_reducible refine aY (N:=1) rfl ?_);refine FN #[.string aA,.string aC,.int .i64 aI,.string bD,.bool aU,.slice pV eD.length pW,.string bK] 31 ?_;intro JV hg w3 hbox hb;have wR:=ae.mk (hbox);have ax1:=jL hg;replace HB:=dS hb;clear hb hbox hg));(try simp only[Act.put,List.setIfInBounds_toArray,List.set_cons_zero,List.set_cons_succ])
 go_cut [23] (fun v23 wc=>∃(kq:Nat) (agt:Bool),v23 = .bool agt∧ae (gQ.j0 kq agt aA aC aI bD aU eD bK=some r)∧ae (kq≤k)∧ae (wc.heap[JV]? = some (.cells #[.string aA,.string aC,.int .i64 aI,.string bD,.bool aU,(.slice pV eD.length pW),.string bK] 31 (0,0)))∧ae (Below w.heap.size w wc))
 case first=>
  have H:=xZ.out;clear xZ;replace H:=gD H;obtain⟨asb,A4,H⟩:=H;replace H:=gB H;rcases H with⟨rfl,H⟩|⟨rfl,H⟩
  ·replace H:=gI H;rcases H with⟨c6,-,-,H⟩|⟨c6,-,-,H⟩
   ·obtain⟨nW,yK⟩:=rD c6;clear c6;(first|rw[nW]|(simp only[iE,jF];rw[nW])|skip)
    exact gQ.e0
   ·obtain⟨nW,yK⟩:=rO c6;(first|rw[nW]|(simp only[iE,jF];rw[nW])|skip)
    replace H:=gD H;obtain⟨asc,PS,H⟩:=H;replace H:=gB H;rcases H with⟨rfl,H⟩|⟨rfl,H⟩
    ·exact gQ.e0
    ·have H':=ae.mk H;clear H;obtain⟨_,_,_,_,_,_,_⟩:=rM wR;obtain⟨_,_,_,_,_,_,_⟩:=tL wR;go_wp2_with(first|((with_reducible refine ag (f:=32) rfl ?_);refine aG (some 5) rfl rfl Tryz.func32 aK rfl #[.slice pV eD.length pW] rfl eu ?_;(with_reducible refine(eY.calls k _ _ eD true _ ?bM ?bN A4.out).mono ?_);(case bM=>repeat(first|exact(Kd.bO tH.out HB.out)|(with_reducible refine Kd.aZ ?_ _)|(with_reducible refine Kd.bf ?_ _)|(with_reducible refine Kd.bP ?_)));(case bN=>exact uw.out);rintro e jm ⟨rfl,hb⟩;refine⟨_,rfl,?_⟩;replace wR:=iG (g:=JV) hb;replace HB:=dS hb;(try clear hb);obtain⟨_,_,_,_,_,_,_⟩:=rM wR;obtain⟨_,_,_,_,_,_,_⟩:=tL wR)|(go_at_call 59;(with_reducible refine(gK.calls k _ _ eD false _ ?bM ?bN PS.out).mono ?_);(case bM=>repeat(first|exact(Kd.bO tH.out HB.out)|(with_reducible refine Kd.aZ ?_ _)|(with_reducible refine Kd.bf ?_ _)|(with_reducible refine Kd.bP ?_)));(case bN=>exact uw.out);rintro e pU ⟨rfl,hb⟩;replace wR:=iG (g:=JV) hb;replace HB:=dS hb;(try clear hb);obtain⟨_,_,_,_,_,_,_⟩:=rM wR;obtain⟨_,_,_,_,_,_,_⟩:=tL wR));go_meet
     case rel=>exact⟨_,(decide ((bK.size:Int)>600)),fI,H',⟨EC⟩,⟨yg⟩,⟨dN⟩⟩
  ·exact gQ.e0
 case rest=>
  clear xZ;obtain⟨kq,agt,rfl,HA,Bu,wR,HB⟩:=hcut;cases kq with
  |zero=>exact absurd HA.out (by simp[gQ.j0])
  |succ uY=>
   have H:=HA.out;clear HA;simp only[gQ.j0] at H;replace H:=gB H;rcases H with⟨rfl,H⟩|⟨rfl,H⟩
   ·obtain rfl:=cu H;go_wp2;go_ret;exact⟨nG,dN⟩
   ·replace H:=gI H;rcases H with⟨c24,-,-,H⟩|⟨c24,-,-,H⟩
    ·obtain⟨H6,SX⟩:=rD c24;clear c24;replace H:=gD H;obtain⟨ar9,A25,H⟩:=H;replace H:=gB H;rcases H with⟨rfl,H⟩|⟨rfl,H⟩
     ·replace H:=gD H;obtain⟨amX,A27,H⟩:=H;exact gQ.e1
     ·exact gQ.e1
    ·obtain⟨H6,SX⟩:=rO c24;replace H:=gD H;obtain⟨asa,A34,H⟩:=H;replace H:=gB H;rcases H with⟨rfl,H⟩|⟨rfl,H⟩
     ·replace H:=gD H;obtain⟨amY,A36,H⟩:=H;exact gQ.e1
     ·exact gQ.e1

end Go.Proofs.YtfhllanhldbkkaaGreatDoor.P
