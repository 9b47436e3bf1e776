import Derived.Test.YtfhllanhldbkkaaGreatDoorPx0
import Derived.Test.YtfhllanhldbkkaaGreatDoorPximpl05b
import Derived.Test.YtfhllanhldbkkaaGreatDoorWC
import Derived.Test.YtfhllanhldbkkaaGreatDoorPximpl01a
import Derived.Test.YtfhllanhldbkkaaGreatDoorPxliba
namespace Go.Proofs.YtfhllanhldbkkaaGreatDoor.P
set_option maxHeartbeats 8000000
set_option maxRecDepth 100000
open Go.RowKit Go.Proofs.YtfhllanhldbkkaaGreatDoorW.ax Go.Proofs.YtfhllanhldbkkaaGreatDoorW.aD Go.Proofs.YtfhllanhldbkkaaGreatDoorW.aH
attribute [local go_sem] nZ oh qI qJ mq mr om oo   -- for this text's walks alone
set_option linter.unusedVariables false
set_option linter.unusedSimpArgs false

mutual
def bI.j0 : Nat→Bool→ByteArray→ByteArray→Int→ByteArray→Bool→List (nV)→ByteArray→Option (Bool)
 |0,_,_,_,_,_,_,_,_=>none
 |k+1,x20,FU,FV,Ef,FW,FX,Im,Io=>if x20=true then(some false) else((xQ.f).bind fun OD=>(bI.l0 k OD (OD.length:Int) 0 FU FV Ef FW FX Im Io))
def bI.l0 : Nat→List ByteArray→Int→Int→ByteArray→ByteArray→Int→ByteArray→Bool→List (nV)→ByteArray→Option (Bool)
 |0,_,_,_,_,_,_,_,_,_,_=>none
 |k+1,x21,x22,x23,FU,FV,Ef,FW,FX,Im,Io=>if x23<x22 then(if 0≤x23 then(if x23<(x21.length:Int) then((oP.f k Im (cZ ByteArray.empty x21 x23)).bind fun apN=>(if apN=true then(some false) else(bI.l0 k x21 x22 (wrap64 (x23+1)) FU FV Ef FW FX Im Io))) else(none)) else(none)) else(if FU.toList=([]:List UInt8) then(if FV.toList=([]:List UInt8) then((rX.f Ef).bind fun apO=>(if apO=true then((rY.f k FW).bind fun KE=>(if KE=true then(if FX=true then(if Io.toList=([]:List UInt8) then((jg.f Ef).bind fun apP=>(if apP=true then((iF.f FU FV Ef FW FX Im Io).bind fun al4=>(some (decide ((al4.size:Int)≤1500)))) else((iF.f FU FV Ef FW FX Im Io).bind fun al5=>(some (decide ((al5.size:Int)≤1500)))))) else(some false)) else((jg.f Ef).bind fun apQ=>(if apQ=true then(some false) else((iF.f FU FV Ef FW FX Im Io).bind fun al6=>(some (decide ((al6.size:Int)≤1500))))))) else(some false))) else(some false))) else(some false)) else((oQ.f k FU).bind fun apR=>(if apR=true then((oU.f k FV).bind fun apS=>(if apS=true then(if Ef=0 then(if FW.toList=([]:List UInt8) then(if FX=true then(some false) else((iF.f FU FV Ef FW FX Im Io).bind fun al7=>(some (decide ((al7.size:Int)≤1500))))) else(some false)) else(some false)) else(some false))) else(some false))))
end
def bI.f (k:Nat) (aA:ByteArray) (aC:ByteArray) (aI:Int) (bD:ByteArray) (aU:Bool) (eD:List (nV)) (bK:ByteArray):Option (Bool):=(eX.f k eD).bind fun apT=>(if apT=true then(if(eD.length:Int)≥20 then(bI.j0 k true aA aC aI bD aU eD bK) else(bI.j0 k (decide ((bK.size:Int)>600)) aA aC aI bD aU eD bK)) else(bI.j0 k true aA aC aI bD aU eD bK))
theorem bI.e0 {p:Prop} (h:p:=by
  have H':=ae.mk H
  clear H
  obtain⟨_,_,_,_,_,_,_⟩:=rM wQ
  obtain⟨_,_,_,_,_,_,_⟩:=tL wQ
  go_wp2_with(first|((with_reducible refine ag (f:=38) rfl ?_);refine aG (some 7) rfl rfl Tryz.func38 aK rfl #[.slice pV eD.length pW] rfl eu ?_;(with_reducible refine(eX.calls k _ _ eD false _ ?bM ?bN A4.out).mono ?_);(case bM=>repeat(first|exact(Kd.bO tH.out HB.out)|(with_reducible refine Kd.aZ ?_ _)|(with_reducible refine Kd.bf ?_ _)|(with_reducible refine Kd.bP ?_)));(case bN=>exact uw.out);rintro e ku ⟨rfl,hb⟩;refine⟨_,rfl,?_⟩;replace wQ:=iG (g:=JS) hb;replace HB:=dS hb;(try clear hb);(try clear hb2);(try clear hk);(try clear hi))|((with_reducible refine ag (f:=38) rfl ?_);refine aG (some 7) rfl rfl Tryz.func38 aK rfl #[.slice pV eD.length pW] rfl eu ?_;(with_reducible refine(eX.calls k _ _ eD true _ ?bM ?bN A4.out).mono ?_);(case bM=>repeat(first|exact(Kd.bO tH.out HB.out)|(with_reducible refine Kd.aZ ?_ _)|(with_reducible refine Kd.bf ?_ _)|(with_reducible refine Kd.bP ?_)));(case bN=>exact uw.out);rintro e jm ⟨rfl,hb⟩;refine⟨_,rfl,?_⟩;replace wQ:=iG (g:=JS) hb;replace HB:=dS hb;(try clear hb);(try clear hb2);(try clear hk);(try clear hi);obtain⟨_,_,_,_,_,_,_⟩:=rM wQ;obtain⟨_,_,_,_,_,_,_⟩:=tL wQ))
  go_meet
  case rel=>exact⟨_,(true),fI,H',⟨EC⟩,⟨yg⟩,⟨dN⟩⟩):p:=h
theorem bI.e1 {p:Prop} (h:p:=by
  obtain rfl:=cu H
  obtain⟨_,_,_,_,_,_,_⟩:=rM wQ
  obtain⟨_,_,_,_,_,_,_⟩:=tL wQ
  go_wp2_with(first|((with_reducible refine ag (f:=68) rfl ?_);refine aG (some 37) rfl rfl Tryz.func68 aK rfl #[.string aA] rfl eu ?_;(with_reducible refine(oQ.calls k2 aA false _ A54.out).mono ?_);rintro e w' ⟨rfl,⟨nd,rfl⟩⟩;refine⟨_,rfl,?_⟩)|((with_reducible refine ag (f:=68) rfl ?_);refine aG (some 37) rfl rfl Tryz.func68 aK rfl #[.string aA] rfl eu ?_;(with_reducible refine(oQ.calls k2 aA true _ A54.out).mono ?_);rintro e w' ⟨rfl,⟨nd,rfl⟩⟩;refine⟨_,rfl,?_⟩)|(go_at_call 69;(with_reducible refine(oU.calls k2 aC false _ A56.out).mono ?_);rintro e w' ⟨rfl,⟨nd,rfl⟩⟩)|(go_at_call 69;(with_reducible refine(oU.calls k2 aC true _ A56.out).mono ?_);rintro e w' ⟨rfl,⟨nd,rfl⟩⟩)|((with_reducible refine ag (f:=73) rfl ?_);refine aG (some 94) rfl rfl Tryz.func73 aK rfl #[.agg #[.string aA,.string aC,.int .i64 aI,.string bD,.bool false,.slice pV eD.length pW,.string bK]] rfl eu ?_;(with_reducible refine(iF.calls aA aC aI bD false _ _ eD bK al7 _ ?bM ?bN A62.out ?hT).mono ?_);(case hT=>exact gJ HT);(case bM=>repeat(first|exact(Kd.bO tH.out dN)|(with_reducible refine Kd.aZ ?_ _)|(with_reducible refine Kd.bf ?_ _)|(with_reducible refine Kd.bP ?_)));(case bN=>exact uw.out);rintro e NQ ⟨rfl,hb⟩;refine⟨_,rfl,?_⟩;replace Np:=ae.mk (Kd.dF aco hb);replace wQ:=iG (g:=JS) hb;replace HB:=dS hb;(try clear hb);(try clear hb2);(try clear hk);(try clear hi))|(go_at_call 70;(with_reducible refine(rX.calls aI false _ A30.out).mono ?_);rintro e w' ⟨rfl,⟨nd,rfl⟩⟩)|(go_at_call 70;(with_reducible refine(rX.calls aI true _ A30.out).mono ?_);rintro e w' ⟨rfl,⟨nd,rfl⟩⟩)|(go_at_call 71;(with_reducible refine(rY.calls k2 bD false _ A32.out).mono ?_);rintro e w' ⟨rfl,⟨nd,rfl⟩⟩)|(go_at_call 71;(with_reducible refine(rY.calls k2 bD true _ A32.out).mono ?_);rintro e w' ⟨rfl,⟨nd,rfl⟩⟩)|(go_at_call 72;(with_reducible refine(jg.calls aI false _ A45.out).mono ?_);rintro e w' ⟨rfl,⟨nd,rfl⟩⟩)|((with_reducible refine ag (f:=73) rfl ?_);refine aG (some 94) rfl rfl Tryz.func73 aK rfl #[.agg #[.string aA,.string aC,.int .i64 aI,.string bD,.bool false,.slice pV eD.length pW,.string bK]] rfl eu ?_;(with_reducible refine(iF.calls aA aC aI bD false _ _ eD bK al6 _ ?bM ?bN A48.out ?hT).mono ?_);(case hT=>exact gJ HT);(case bM=>repeat(first|exact(Kd.bO tH.out dN)|(with_reducible refine Kd.aZ ?_ _)|(with_reducible refine Kd.bf ?_ _)|(with_reducible refine Kd.bP ?_)));(case bN=>exact uw.out);rintro e Jv ⟨rfl,hb⟩;refine⟨_,rfl,?_⟩;replace Np:=ae.mk (Kd.dF aco hb);replace wQ:=iG (g:=JS) hb;replace HB:=dS hb;(try clear hb);(try clear hb2);(try clear hk);(try clear hi))|(go_at_call 72;(with_reducible refine(jg.calls aI true _ A45.out).mono ?_);rintro e w' ⟨rfl,⟨nd,rfl⟩⟩)|(go_at_call 72;(with_reducible refine(jg.calls aI false _ A36.out).mono ?_);rintro e w' ⟨rfl,⟨nd,rfl⟩⟩)|((with_reducible refine ag (f:=73) rfl ?_);refine aG (some 94) rfl rfl Tryz.func73 aK rfl #[.agg #[.string aA,.string aC,.int .i64 aI,.string bD,.bool true,.slice pV eD.length pW,.string bK]] rfl eu ?_;(with_reducible refine(iF.calls aA aC aI bD true _ _ eD bK al5 _ ?bM ?bN A41.out ?hT).mono ?_);(case hT=>exact gJ HT);(case bM=>repeat(first|exact(Kd.bO tH.out dN)|(with_reducible refine Kd.aZ ?_ _)|(with_reducible refine Kd.bf ?_ _)|(with_reducible refine Kd.bP ?_)));(case bN=>exact uw.out);rintro e Fq ⟨rfl,hb⟩;refine⟨_,rfl,?_⟩;replace Np:=ae.mk (Kd.dF aco hb);replace wQ:=iG (g:=JS) hb;replace HB:=dS hb;(try clear hb);(try clear hb2);(try clear hk);(try clear hi))|(go_at_call 72;(with_reducible refine(jg.calls aI true _ A36.out).mono ?_);rintro e w' ⟨rfl,⟨nd,rfl⟩⟩)|((with_reducible refine ag (f:=73) rfl ?_);refine aG (some 94) rfl rfl Tryz.func73 aK rfl #[.agg #[.string aA,.string aC,.int .i64 aI,.string bD,.bool true,.slice pV eD.length pW,.string bK]] rfl eu ?_;(with_reducible refine(iF.calls aA aC aI bD true _ _ eD bK al4 _ ?bM ?bN A38.out ?hT).mono ?_);(case hT=>exact gJ HT);(case bM=>repeat(first|exact(Kd.bO tH.out dN)|(with_reducible refine Kd.aZ ?_ _)|(with_reducible refine Kd.bf ?_ _)|(with_reducible refine Kd.bP ?_)));(case bN=>exact uw.out);rintro e zO ⟨rfl,hb⟩;refine⟨_,rfl,?_⟩;replace Np:=ae.mk (Kd.dF aco hb);replace wQ:=iG (g:=JS) hb;replace HB:=dS hb;(try clear hb);(try clear hb2);(try clear hk);(try clear hi)))
  go_ret
  exact⟨nG,dN⟩):p:=h
theorem bI.calls (k:Nat) (aA aC:ByteArray) (aI:Int) (bD:ByteArray) (aU:Bool) (pV:Option Addr) (pW:Nat) (eD:List (nV)) (bK:ByteArray) (r:Bool) (w:World) (xU:Kd.C Ct w pV eD.length eD) (xV:eD.length≤pW) (h:bI.f k aA aC aI bD aU eD bK=some r) (HT0:pY w) :
  Calls Tryz.prog 39 #[.agg #[.string aA,.string aC,.int .i64 aI,.string bD,.bool aU,.slice pV eD.length pW,.string bK]] w fun e w'=>e = .returned (.bool r)∧Below w.heap.size w w':=by
 have HT:=ae.mk HT0;clear HT0;have Uh:=Tryz.underlying31;have tH:=ae.mk xU;have uw:=ae.mk xV;clear xU xV;have HB:=ae.mk (Below.refl w.heap.size w);have H:=h;clear h;unfold bI.f at H;have xZ:=ae.mk H;clear H;go_enter Tryz.func39,Tryz.ntmps39;go_upto_region 1 with(first|((with_reducible refine aY (N:=1) rfl ?_);refine FN #[.string aA,.string aC,.int .i64 aI,.string bD,.bool aU,.slice pV eD.length pW,.string bK] 31 ?_;intro JS hg w3 hbox hb;have wQ:=ae.mk (hbox);have awH:=jL hg;replace HB:=dS hb;clear hb hbox hg));(try simp only[Act.put,List.setIfInBounds_toArray,List.set_cons_zero,List.set_cons_succ])
 go_cut [20] (fun v20 wc=>∃(kq:Nat) (afA:Bool),v20 = .bool afA∧ae (bI.j0 kq afA aA aC aI bD aU eD bK=some r)∧ae (kq≤k)∧ae (wc.heap[JS]? = some (.cells #[.string aA,.string aC,.int .i64 aI,.string bD,.bool aU,(.slice pV eD.length pW),.string bK] 31 (0,0)))∧ae (Below w.heap.size w wc))
 case first=>
  have H:=xZ.out;clear xZ;replace H:=gD H;obtain⟨apT,A4,H⟩:=H;replace H:=gB H;rcases H with⟨rfl,H⟩|⟨rfl,H⟩
  ·replace H:=gI H;rcases H with⟨c6,-,-,H⟩|⟨c6,-,-,H⟩
   ·have nW:decide (20≤(eD.length:Int))=true:=aT c6;have yK:decide (20≤eD.length)=true:=aT aa;clear c6;(first|rw[nW]|(simp only[iE,jF];rw[nW])|skip)
    exact bI.e0
   ·have nW:decide (20≤(eD.length:Int))=false:=aN c6;have yK:decide (20≤eD.length)=false:=aN aa;clear c6;(first|rw[nW]|(simp only[iE,jF];rw[nW])|skip)
    have H':=ae.mk H;clear H;obtain⟨_,_,_,_,_,_,_⟩:=rM wQ;obtain⟨_,_,_,_,_,_,_⟩:=tL wQ;go_wp2_with(((with_reducible refine ag (f:=38) rfl ?_);refine aG (some 7) rfl rfl Tryz.func38 aK rfl #[.slice pV eD.length pW] rfl eu ?_;(with_reducible refine(eX.calls k _ _ eD true _ ?bM ?bN A4.out).mono ?_);(case bM=>repeat(first|exact(Kd.bO tH.out HB.out)|(with_reducible refine Kd.aZ ?_ _)|(with_reducible refine Kd.bf ?_ _)|(with_reducible refine Kd.bP ?_)));(case bN=>exact uw.out);rintro e jm ⟨rfl,hb⟩;refine⟨_,rfl,?_⟩;replace wQ:=iG (g:=JS) hb;replace HB:=dS hb;(try clear hb);obtain⟨_,_,_,_,_,_,_⟩:=rM wQ;obtain⟨_,_,_,_,_,_,_⟩:=tL wQ));go_meet
    case rel=>exact⟨_,(decide ((bK.size:Int)>600)),fI,H',⟨EC⟩,⟨yg⟩,⟨dN⟩⟩
  ·exact bI.e0
 case rest=>
  clear xZ;obtain⟨kq,afA,rfl,HA,Bu,wQ,HB⟩:=hcut;cases kq with
  |zero=>exact absurd HA.out (by simp[bI.j0])
  |succ uY=>
   have H:=HA.out;clear HA;simp only[bI.j0] at H;replace H:=gB H;rcases H with⟨rfl,H⟩|⟨rfl,H⟩
   ·obtain rfl:=cu H;go_wp2;go_ret;exact⟨nG,dN⟩
   ·replace H:=gD H;obtain⟨OD,A16,H⟩:=H;have H':=ae.mk H;clear H;go_wp2_with(first|((with_reducible refine ag (f:=67) rfl ?_);refine aG (some 21) rfl rfl Tryz.func67 aK rfl #[] rfl eu ?_;(with_reducible refine(xQ.calls  OD _ A16.out).mono ?_);rintro e w17 ⟨ay3,rfl,ho0,hb⟩;refine⟨_,rfl,?_⟩;have apU:=ae.mk (Kd.iT ho0 (bY dN));replace wQ:=iG (g:=JS) hb;replace HB:=dS hb;(try clear hb);(try clear ho0);obtain⟨ahD,ahE,ak5⟩:=Kd.iA apU.out;subst ak5));go_loopg [23] uY (fun kq v23 w'=>∃(Ez:Int),v23 = .int .i64 Ez∧ae (bI.l0 kq OD (OD.length:Int) Ez aA aC aI bD aU eD bK=some r)∧ae (kq≤uY)∧ae (Kd.R Kd.string 9 w' w.heap.size (fun _=>True) (.slice ahD OD.length ahE) OD)∧ae (w'.heap[JS]? = some (.cells #[.string aA,.string aC,.int .i64 aI,.string bD,.bool aU,(.slice pV eD.length pW),.string bK] 31 (0,0)))∧ae (Below w.heap.size w w'))
    case atStart=>exact⟨(0),fI,H',⟨Nat.le_refl _⟩,⟨Ah⟩,⟨yg⟩,⟨dN⟩⟩
    case round=>
     clear H';obtain⟨Ez,rfl,HA,Eo,Np,wQ,HB⟩:=hrel;cases gk with
     |zero=>exact absurd HA.out (by simp[bI.l0])
     |succ k2=>
      have H:=HA.out;clear HA;simp only[bI.l0] at H;replace H:=gI H;rcases H with⟨-,Mc,-,H⟩|⟨-,Mc,-,H⟩
      ·replace H:=gN H;obtain⟨-,Ex,-,H⟩:=H;replace H:=gN H;obtain⟨-,Ey,-,H⟩:=H;replace H:=gD H;obtain⟨apN,A22,H⟩:=H;replace H:=gB H;rcases H with⟨rfl,H⟩|⟨rfl,H⟩
       ·obtain rfl:=cu H;have aaD:0≤(Ez:Int):=bE gL;have aaE:Ez<(OD.length:Int):=bE gL;obtain⟨apV,al8,ah4⟩:=Kd.iV (Kd.bC Np.out).2.2 Ez aaD aaE;cases al8
        replace aaD:=eq_true aaD;replace aaE:=eq_true aaE;obtain⟨_,_,_,_,_,_,_⟩:=rM wQ;obtain⟨_,_,_,_,_,_,_⟩:=tL wQ;go_wp2_with(((with_reducible refine ag (f:=51) rfl ?_);refine aG (some 30) rfl rfl Tryz.func51 aK rfl #[.slice pV eD.length pW,.string (cZ ByteArray.empty OD Ez)] rfl eu ?_;(with_reducible refine(oP.calls k2 _ _ eD (cZ ByteArray.empty OD Ez) true _ ?bM ?bN A22.out).mono ?_);(case bM=>repeat(first|exact(Kd.bO tH.out HB.out)|(with_reducible refine Kd.aZ ?_ _)|(with_reducible refine Kd.bf ?_ _)|(with_reducible refine Kd.bP ?_)));(case bN=>exact uw.out);rintro e pU ⟨rfl,hb⟩;refine⟨_,rfl,?_⟩;replace Np:=ae.mk (Kd.dF aco hb);replace wQ:=iG (g:=JS) hb;replace HB:=dS hb;(try clear hb)));go_ret;exact⟨nG,dN⟩
       ·have H':=ae.mk H;clear H;have aaD:0≤(Ez:Int):=bE gL;have aaE:Ez<(OD.length:Int):=bE gL;obtain⟨apV,al8,ah4⟩:=Kd.iV (Kd.bC Np.out).2.2 Ez aaD aaE;cases al8
        replace aaD:=eq_true aaD;replace aaE:=eq_true aaE;obtain⟨_,_,_,_,_,_,_⟩:=rM wQ;obtain⟨_,_,_,_,_,_,_⟩:=tL wQ;go_wp2_with(((with_reducible refine ag (f:=51) rfl ?_);refine aG (some 30) rfl rfl Tryz.func51 aK rfl #[.slice pV eD.length pW,.string (cZ ByteArray.empty OD Ez)] rfl eu ?_;(with_reducible refine(oP.calls k2 _ _ eD (cZ ByteArray.empty OD Ez) false _ ?bM ?bN A22.out).mono ?_);(case bM=>repeat(first|exact(Kd.bO tH.out HB.out)|(with_reducible refine Kd.aZ ?_ _)|(with_reducible refine Kd.bf ?_ _)|(with_reducible refine Kd.bP ?_)));(case bN=>exact uw.out);rintro e Aa ⟨rfl,hb⟩;refine⟨_,rfl,?_⟩;replace Np:=ae.mk (Kd.dF aco hb);replace wQ:=iG (g:=JS) hb;replace HB:=dS hb;(try clear hb)));go_roundg k2
        case measure=>have:=Bu.out;have:=Eo.out;omega
        case rel=>exact⟨(wrap64 (Ez+1)),fI,H',⟨QE⟩,⟨Ah⟩,⟨yg⟩,⟨dN⟩⟩
      ·replace H:=gI H;rcases H with⟨c28,-,-,H⟩|⟨c28,-,-,H⟩
       ·obtain⟨SA,XJ⟩:=rD c28;clear c28;replace H:=gI H;rcases H with⟨U5,-,-,H⟩|⟨U5,-,-,H⟩
        ·obtain⟨Ou,Ot⟩:=rD U5;clear U5;replace H:=gD H;obtain⟨apO,A30,H⟩:=H;replace H:=gB H;rcases H with⟨rfl,H⟩|⟨rfl,H⟩
         ·replace H:=gD H;obtain⟨KE,A32,H⟩:=H;replace H:=gB H;rcases H with⟨rfl,H⟩|⟨rfl,H⟩
          ·replace H:=gB H;rcases H with⟨rfl,H⟩|⟨rfl,H⟩
           ·replace H:=gI H;rcases H with⟨c35,-,-,H⟩|⟨c35,-,-,H⟩
            ·obtain⟨Ya,Yb⟩:=rD c35;clear c35;replace H:=gD H;obtain⟨apP,A36,H⟩:=H;replace H:=gB H;rcases H with⟨rfl,H⟩|⟨rfl,H⟩
             ·replace H:=gD H;obtain⟨al4,A38,H⟩:=H;exact bI.e1
             ·replace H:=gD H;obtain⟨al5,A41,H⟩:=H;exact bI.e1
            ·obtain⟨Ya,Yb⟩:=rO c35;exact bI.e1
           ·replace H:=gD H;obtain⟨apQ,A45,H⟩:=H;replace H:=gB H;rcases H with⟨rfl,H⟩|⟨rfl,H⟩
            ·exact bI.e1
            ·replace H:=gD H;obtain⟨al6,A48,H⟩:=H;exact bI.e1
          ·exact bI.e1
         ·exact bI.e1
        ·obtain⟨Ou,Ot⟩:=rO U5;obtain rfl:=cu H;obtain⟨_,_,_,_,_,_,_⟩:=rM wQ;obtain⟨_,_,_,_,_,_,_⟩:=tL wQ;go_wp2;go_ret;exact⟨nG,dN⟩
       ·obtain⟨SA,XJ⟩:=rO c28;replace H:=gD H;obtain⟨apR,A54,H⟩:=H;replace H:=gB H;rcases H with⟨rfl,H⟩|⟨rfl,H⟩
        ·replace H:=gD H;obtain⟨apS,A56,H⟩:=H;replace H:=gB H;rcases H with⟨rfl,H⟩|⟨rfl,H⟩
         ·replace H:=gI H;rcases H with⟨c58,-,-,H⟩|⟨c58,-,-,H⟩
          ·obtain⟨ajC,ajD⟩:=rD c58;clear c58;replace H:=gI H;rcases H with⟨c59,-,-,H⟩|⟨c59,-,-,H⟩
           ·obtain⟨apW,apX⟩:=rD c59;clear c59;replace H:=gB H;rcases H with⟨rfl,H⟩|⟨rfl,H⟩
            ·exact bI.e1
            ·replace H:=gD H;obtain⟨al7,A62,H⟩:=H;exact bI.e1
           ·obtain⟨apW,apX⟩:=rO c59;exact bI.e1
          ·obtain⟨ajC,ajD⟩:=rO c58;exact bI.e1
         ·exact bI.e1
        ·exact bI.e1


def pJ.f (a0:ByteArray):Option (ByteArray×Int×ByteArray×ByteArray×Bool):=(strings_Cut.f a0 (⟨#[63]⟩:af)).bind fun afB=>(some ((⟨#[]⟩:af),0,afB.1,afB.2.1,afB.2.2))
theorem pJ.calls (a0 r1:ByteArray) (r2:Int) (r3 r4:ByteArray) (r5:Bool) (w:World) (h:pJ.f a0=some (r1,r2,r3,r4,r5)) (HT0:pY w) :
  Calls Tryz.prog 150 #[.string a0] w fun e w'=>e = .returned (.agg #[.string r1,.int .i64 r2,.string r3,.string r4,.bool r5])∧Below w.heap.size w w':=by
 have HT:=ae.mk HT0;clear HT0;have Pp:=Tryz.underlying92;have HB:=ae.mk (Below.refl w.heap.size w);have H:=h;clear h;unfold pJ.f at H;replace H:=gD H;obtain⟨⟨ah5,al9,apY⟩,A2,H⟩:=H;dsimp only at H;simp only[Option.some.injEq,Prod.mk.injEq] at H;obtain⟨rfl,rfl,rfl,rfl,rfl⟩:=H;go_enter Tryz.func150,Tryz.ntmps150;go_wp2_with(first|((with_reducible refine aY (N:=2) rfl ?_);refine jX #[.string (⟨#[]⟩:af),.int .i64 0,.string (⟨#[]⟩:af),.string (⟨#[]⟩:af),.bool false] 92 ?_;intro abN hg w3 hbox hb;have SY:=ae.mk (hbox);have awI:=jL hg;replace HB:=dS hb;clear hb hbox hg)|((with_reducible refine aY (N:=3) rfl ?_);refine jX #[.string (⟨#[]⟩:af),.int .i64 0,.string (⟨#[]⟩:af),.string (⟨#[]⟩:af),.bool false] 92 ?_;intro apZ hg w4 hbox hb;have Yc:=ae.mk (hbox);have awJ:=jL hg;have Jk:=J3 (g:=abN) hg;have acI:=LG Jk;replace SY:=iG (g:=abN) hb;replace HB:=dS hb;clear hb hbox hg)|((with_reducible refine ag (f:=86) rfl ?_);refine aG (some 6) rfl rfl Tryz.func86 aK rfl #[.string a0,.string (⟨#[63]⟩:af)] rfl eu ?_;(with_reducible refine(strings_Cut.calls a0 (⟨#[63]⟩:af) ah5 al9 apY _ A2.out ?hT).mono ?_);(case hT=>exact gJ HT);rintro e w' ⟨rfl,⟨nd,rfl⟩⟩;refine⟨_,rfl,?_⟩;(try(rw[ma w4];generalize hq_:World.drewN w4 _=w4;have o7:ae (w4.heap[abN]? = some (.cells #[.string (⟨#[]⟩:af),.int .i64 0,.string (⟨#[]⟩:af),.string (⟨#[]⟩:af),.bool false] 92 (0,0))):=⟨by rw[← hq_];exact(by(with_reducible repeat(first|refine dm ?_ _|refine bJ ?_|refine dD ?_ _));exact SY.out)⟩;have qG:ae (w4.heap[apZ]? = some (.cells #[.string (⟨#[]⟩:af),.int .i64 0,.string (⟨#[]⟩:af),.string (⟨#[]⟩:af),.bool false] 92 (0,0))):=⟨by rw[← hq_];exact(by(with_reducible repeat(first|refine dm ?_ _|refine bJ ?_|refine dD ?_ _));exact Yc.out)⟩;have Bi:ae (Below w.heap.size w w4):=⟨by rw[← hq_];exact dN⟩;clear SY Yc HB hq_;have SY:=o7;have Yc:=qG;have HB:=Bi;clear o7 qG Bi));have asJ:=acI.out;have asK:=Jk.out;obtain⟨_,_,_,_,_⟩:=mV Yc;obtain⟨_,_,_,_,_⟩:=vz Yc;obtain⟨_,_,_,_,_⟩:=mV SY;obtain⟨_,_,_,_,_⟩:=vz SY));refine bodyPost_ret (results_cell_row rfl _ _ abN 92 #[.string (⟨#[]⟩:af),.int .i64 0,.string ah5,.string al9,.bool apY] (0,0) _ rfl (by(with_reducible repeat(first|refine dm ?_ _|refine bJ ?_|refine dD ?_ _));refine lK (cs:=#[.string (⟨#[]⟩:af),.int .i64 0,.string ah5,.string al9,.bool false]) ?_ 4 _ rfl;(with_reducible repeat(first|refine dm ?_ _|refine bJ ?_|refine dD ?_ _));refine lK (cs:=#[.string (⟨#[]⟩:af),.int .i64 0,.string ah5,.string (⟨#[]⟩:af),.bool false]) ?_ 3 _ rfl;(with_reducible repeat(first|refine dm ?_ _|refine bJ ?_|refine dD ?_ _));refine lK (cs:=#[.string (⟨#[]⟩:af),.int .i64 0,.string (⟨#[]⟩:af),.string (⟨#[]⟩:af),.bool false]) ?_ 2 _ rfl;(with_reducible repeat(first|refine dm ?_ _|refine bJ ?_|refine dD ?_ _));refine lK (cs:=#[.string (⟨#[]⟩:af),.int .i64 0,.string (⟨#[]⟩:af),.string (⟨#[]⟩:af),.bool false]) ?_ 1 _ rfl;(with_reducible repeat(first|refine dm ?_ _|refine bJ ?_|refine dD ?_ _));refine lK (cs:=#[.string (⟨#[]⟩:af),.int .i64 0,.string (⟨#[]⟩:af),.string (⟨#[]⟩:af),.bool false]) ?_ 0 _ rfl;(with_reducible repeat(first|refine dm ?_ _|refine bJ ?_|refine dD ?_ _));refine wT ?_ Jk.out _;(with_reducible repeat(first|refine dm ?_ _|refine bJ ?_|refine dD ?_ _));refine wT ?_ Jk.out _;(with_reducible repeat(first|refine dm ?_ _|refine bJ ?_|refine dD ?_ _));refine wT ?_ Jk.out _;(with_reducible repeat(first|refine dm ?_ _|refine bJ ?_|refine dD ?_ _));exact SY.out) Tryz.underlying92 rfl aK) rfl ?_;exact⟨nG,dN⟩

def jV.f (a0:Int):Option (Bool):=(nC.f a0).bind fun ap0=>(if ap0=true then(some true) else((o5.f a0).bind fun ap1=>(if ap1=true then(some true) else((eZ.f a0).bind fun ap2=>(if ap2=true then(some true) else(if a0=45 then(some true) else(if a0=46 then(some true) else(if a0=95 then(some true) else(some (a0==126))))))))))
theorem jV.e0 {p:Prop} (h:p:=by
  obtain rfl:=cu H
  go_enter Tryz.func220,Tryz.ntmps220
  go_wp2_with(first|((with_reducible refine ag (f:=199) rfl ?_);refine aG (some 4) rfl rfl Tryz.func199 aK rfl #[.int .u8 a0] rfl eu ?_;(with_reducible refine(nC.calls a0 false _ A2.out).mono ?_);rintro e w' ⟨rfl,⟨nd,rfl⟩⟩;refine⟨_,rfl,?_⟩)|(go_at_call 130;(with_reducible refine(o5.calls a0 false _ A4.out).mono ?_);rintro e w' ⟨rfl,⟨nd,rfl⟩⟩)|(go_at_call 166;(with_reducible refine(eZ.calls a0 false _ A6.out).mono ?_);rintro e w' ⟨rfl,⟨nd,rfl⟩⟩)|(go_at_call 166;(with_reducible refine(eZ.calls a0 true _ A6.out).mono ?_);rintro e w' ⟨rfl,⟨nd,rfl⟩⟩)|(go_at_call 130;(with_reducible refine(o5.calls a0 true _ A4.out).mono ?_);rintro e w' ⟨rfl,⟨nd,rfl⟩⟩)|((with_reducible refine ag (f:=199) rfl ?_);refine aG (some 4) rfl rfl Tryz.func199 aK rfl #[.int .u8 a0] rfl eu ?_;(with_reducible refine(nC.calls a0 true _ A2.out).mono ?_);rintro e w' ⟨rfl,⟨nd,rfl⟩⟩;refine⟨_,rfl,?_⟩))
  go_ret
  exact⟨fI,lG⟩):p:=h
theorem jV.calls (a0:Int) (r:Bool) (w:World) (h:jV.f a0=some r) :
  Calls Tryz.prog 220 #[.int .u8 a0] w fun e w'=>e = .returned (.bool r)∧ed w w':=by
 have H:=h;clear h;unfold jV.f at H;replace H:=gD H;obtain⟨ap0,A2,H⟩:=H;replace H:=gB H;rcases H with⟨rfl,H⟩|⟨rfl,H⟩
 ·exact jV.e0
 ·replace H:=gD H;obtain⟨ap1,A4,H⟩:=H;replace H:=gB H;rcases H with⟨rfl,H⟩|⟨rfl,H⟩
  ·exact jV.e0
  ·replace H:=gD H;obtain⟨ap2,A6,H⟩:=H;replace H:=gB H;rcases H with⟨rfl,H⟩|⟨rfl,H⟩
   ·exact jV.e0
   ·replace H:=gI H;rcases H with⟨c8,-,-,H⟩|⟨c8,-,-,H⟩
    ·obtain⟨tO,Iu⟩:=rD c8;clear c8;exact jV.e0
    ·obtain⟨tO,Iu⟩:=rO c8;replace H:=gI H;rcases H with⟨c9,-,-,H⟩|⟨c9,-,-,H⟩
     ·obtain⟨xY,Gz⟩:=rD c9;clear c9;exact jV.e0
     ·obtain⟨xY,Gz⟩:=rO c9;replace H:=gI H;rcases H with⟨c10,-,-,H⟩|⟨c10,-,-,H⟩
      ·obtain⟨yS,L6⟩:=rD c10;clear c10;exact jV.e0
      ·obtain⟨yS,L6⟩:=rO c10;exact jV.e0


mutual
def aV.l0 : Nat→ByteArray→List Int→Int→Option (ByteArray)
 |0,_,_,_=>none
 |k+1,x0,x3,x4=>if x4<(x0.size:Int) then(if 0≤x4 then(if(bt x0 x4)=37 then(if(wrap64 (x4+2))≥(x0.size:Int) then(aV.j1 k x0 x3 x4 true) else(if 0≤(wrap64 (x4+1)) then(if(wrap64 (x4+1))<(x0.size:Int) then((fq.f k (bt x0 (wrap64 (x4+1)))).bind fun ah6=>(if ah6<0 then(aV.j1 k x0 x3 x4 true) else(if 0≤(wrap64 (x4+2)) then(if(wrap64 (x4+2))<(x0.size:Int) then((fq.f k (bt x0 (wrap64 (x4+2)))).bind fun ah7=>(aV.j1 k x0 x3 x4 (decide (ah7<0)))) else(none)) else(none)))) else(none)) else(none))) else(aV.j1 k x0 x3 x4 true)) else(none)) else(some (strOfNums x3))
def aV.j1 : Nat→ByteArray→List Int→Int→Bool→Option (ByteArray)
 |0,_,_,_,_=>none
 |k+1,x0,x3,x4,x38=>if x38=true then(if 0≤x4 then(if x4<(x0.size:Int) then(if x3.length<140737488355328 then(aV.l0 k x0 (x3 ++ [bt x0 x4]) (wrap64 (x4+1))) else(none)) else(none)) else(none)) else(if 0≤(wrap64 (x4+1)) then(if(wrap64 (x4+1))<(x0.size:Int) then((fq.f k (bt x0 (wrap64 (x4+1)))).bind fun Jl=>(if 0≤(wrap64 (x4+2)) then(if(wrap64 (x4+2))<(x0.size:Int) then((fq.f k (bt x0 (wrap64 (x4+2)))).bind fun Jm=>((jV.f ((wrap64 ((wrap64 (16*Jl))+Jm))%256)).bind fun ap3=>(if ap3=true then(if x3.length<140737488355328 then(aV.l0 k x0 (x3 ++ [(wrap64 ((wrap64 (16*Jl))+Jm))%256]) (wrap64 ((wrap64 (x4+2))+1))) else(none)) else(if 0≤(((wrap64 ((wrap64 (16*Jl))+Jm))%256) / 16) then(if(((wrap64 ((wrap64 (16*Jl))+Jm))%256) / 16)<16 then(if 0≤(Go.bits .and .u8 ((wrap64 ((wrap64 (16*Jl))+Jm))%256) 15) then(if(Go.bits .and .u8 ((wrap64 ((wrap64 (16*Jl))+Jm))%256) 15)<16 then((some (([37,bt (⟨#[48,49,50,51,52,53,54,55,56,57,65,66,67,68,69,70]⟩:af) (((wrap64 ((wrap64 (16*Jl))+Jm))%256) / 16),bt (⟨#[48,49,50,51,52,53,54,55,56,57,65,66,67,68,69,70]⟩:af) (Go.bits .and .u8 ((wrap64 ((wrap64 (16*Jl))+Jm))%256) 15)]:List Int):List Int)).bind fun Yd=>(if x3.length+Yd.length<140737488355328 then(aV.l0 k x0 (x3++Yd) (wrap64 ((wrap64 (x4+2))+1))) else(none))) else(none)) else(none)) else(none)) else(none))))) else(none)) else(none))) else(none)) else(none))
end
def aV.f (k:Nat) (a0:ByteArray):Option (ByteArray):=aV.l0 k a0 ([]:List Int) 0
def aV.T7 : Bool×List (List Nat×List Nat):=(true,[([],[]),([],[]),([1],[1]),([0,2],[0,2]),([3],[3]),([4],[4]),([],[]),([],[]),([7],[7]),([6,8],[6,8]),([9,4],[9]),([5,10],[5,10]),([11],[11]),([12,10,0,1,2,3,4,5,6,7,8,9,10,11,12],[12])])
def aV.B7 : List Nat:=[0,0,2,7,15,31,0,0,128,448,991,2047,4095,8191]
theorem aV.acH : rP .any (opsOf Tryz.f197 7)=aV.T7:=by kernel_rfl
theorem aV.U1 : kD aV.T7.2 aV.B7=true:=by kernel_rfl
def aV.T10 : Bool×List (List Nat×List Nat):=(true,[([],[]),([],[]),([1],[1]),([2],[2]),([],[]),([4],[4]),([5],[5]),([3,6],[3,6]),([0,7],[0,7]),([8,8,0,1,2,3,4,5,6,7,8],[0,8])])
def aV.B10 : List Nat:=[0,0,2,6,0,16,48,126,255,511]
theorem aV.ap4 : rP .any (opsOf Tryz.f197 10)=aV.T10:=by kernel_rfl
theorem aV.ama : kD aV.T10.2 aV.B10=true:=by kernel_rfl
theorem aV.e0 {p:Prop} (h:p:=by
  have H':=ae.mk H
  clear H
  have p5:0≤(fT:Int):=bE gL
  have q5:fT<(a0.size:Int):=bE gL
  have hx5:=gV a0 fT
  replace p5:=eq_true p5
  replace q5:=eq_true q5
  go_wp2
  go_meet
  case rel=>exact⟨_,(true),fI,H',⟨VP⟩,⟨Ah⟩,⟨dN⟩⟩):p:=h
theorem aV.calls (k:Nat) (a0 r:ByteArray) (w:World) (h:aV.f k a0=some r) :
  Calls Tryz.prog 197 #[.string a0] w fun e w'=>e = .returned (.string r)∧Below w.heap.size w w':=by
 have HB:=ae.mk (Below.refl w.heap.size w);have H:=h;clear h;unfold aV.f at H;have H':=ae.mk H;clear H;go_enter Tryz.func197,Tryz.ntmps197;go_wp2;go_loopg [3,4] k (fun kq v3 v4 w'=>∃(fU:List Int) (fT:Int),v4 = .int .i64 fT∧ae (aV.l0 kq a0 fU fT=some r)∧ae (kq≤k)∧ae (Kd.R (Kd.int .u8) 5 w' w.heap.size (fun _=>True) v3 fU)∧ae (Below w.heap.size w w'))
 case atStart=>exact⟨(([]:List Int)),(0),fI,H',⟨Nat.le_refl _⟩,⟨Ud⟩,⟨dN⟩⟩
 case round=>
  clear H';obtain⟨fU,fT,rfl,HA,qj,ou,HB⟩:=hrel;cases gk with
  |zero=>exact absurd HA.out (by simp[aV.l0])
  |succ k1=>
   have H:=HA.out;clear HA;simp only[aV.l0] at H;replace H:=gI H;rcases H with⟨-,nk,-,H⟩|⟨-,nk,-,H⟩
   ·have ZT:=ae.mk H;clear H;go_upto_region 5 with(fail);go_cut [38] (fun v38 wc=>∃(kq:Nat) (afC:Bool),v38 = .bool afC∧ae (aV.j1 kq a0 fU fT afC=some r)∧ae (kq≤k1)∧ae (Kd.R (Kd.int .u8) 5 wc w.heap.size (fun _=>True) u3 fU)∧ae (Below w.heap.size w wc))
    case first=>
     have H:=ZT.out;clear ZT;replace H:=gN H;obtain⟨-,mP,-,H⟩:=H;(first|rw[mP]|(simp only[iE,jF];rw[mP])|skip)
     replace H:=gI H;rcases H with⟨c6,-,-,H⟩|⟨c6,-,-,H⟩
     ·obtain⟨nW,yK⟩:=rD c6;clear c6;replace H:=gI H;rcases H with⟨c7,-,-,H⟩|⟨c7,-,-,H⟩
      ·have uR:decide ((a0.size:Int)≤(wrap64 (fT+2)))=true:=aT c7;clear c7;exact aV.e0
      ·have uR:decide ((a0.size:Int)≤(wrap64 (fT+2)))=false:=aN c7;clear c7;obtain⟨ji8,amb⟩:∃ j_:Int,(wrap64 (fT+1))=j_:=⟨_,rfl⟩;(first|rw[amb] at H|simp only[amb] at H ⊢)
       have awK:(IntKind.i64.wrap (fT+1))=ji8:=(iE _).trans amb;replace H:=gN H;obtain⟨-,xY,-,H⟩:=H;replace H:=gN H;obtain⟨-,yS,-,H⟩:=H;replace H:=gD H;obtain⟨ah6,LU,H⟩:=H;replace H:=gI H;rcases H with⟨-,zP,-,H⟩|⟨-,zP,-,H⟩
       ·have H':=ae.mk H;clear H;have p5:0≤(fT:Int):=bE gL;have q5:fT<(a0.size:Int):=bE gL;have hx5:=gV a0 fT;replace p5:=eq_true p5;replace q5:=eq_true q5;have p11:0≤((ji8):Int):=bE gL;have q11:(ji8)<(a0.size:Int):=bE gL;have atV:=gV a0 (ji8);replace p11:=eq_true p11;replace q11:=eq_true q11;go_wp2_with((go_at_call 219;(with_reducible refine(fq.calls k1 (bt a0 (ji8)) ah6 _ LU.out).mono ?_);rintro e w' ⟨rfl,⟨nd,rfl⟩⟩));go_meet
        case rel=>exact⟨_,(true),fI,H',⟨VP⟩,⟨Ah⟩,⟨dN⟩⟩
       ·obtain⟨afD,Ye⟩:∃ j_:Int,(wrap64 (fT+2))=j_:=⟨_,rfl⟩;(first|rw[Ye] at H|simp only[Ye] at H ⊢)
        (try rw[Ye] at uR)
        (try rw[Ye] at LU)
        have atW:(IntKind.i64.wrap (fT+2))=afD:=(iE _).trans Ye;replace H:=gN H;obtain⟨-,Ew,-,H⟩:=H;replace H:=gN H;obtain⟨-,Ae,-,H⟩:=H;replace H:=gD H;obtain⟨ah7,A18,H⟩:=H;have H':=ae.mk H;clear H;have p5:0≤(fT:Int):=bE gL;have q5:fT<(a0.size:Int):=bE gL;have hx5:=gV a0 fT;replace p5:=eq_true p5;replace q5:=eq_true q5;have p11:0≤((ji8):Int):=bE gL;have q11:(ji8)<(a0.size:Int):=bE gL;have atV:=gV a0 (ji8);replace p11:=eq_true p11;replace q11:=eq_true q11;go_wp2_with(first|(go_at_call 219;(with_reducible refine(fq.calls k1 (bt a0 (ji8)) ah6 _ LU.out).mono ?_);rintro e w' ⟨rfl,⟨nd,rfl⟩⟩;have p17:0≤((afD):Int):=bE gL;have q17:(afD)<(a0.size:Int):=bE gL;have ay4:=gV a0 (afD);replace p17:=eq_true p17;replace q17:=eq_true q17)|(go_at_call 219;(with_reducible refine(fq.calls k1 (bt a0 (afD)) ah7 _ A18.out).mono ?_);rintro e w' ⟨rfl,⟨nd,rfl⟩⟩));go_meet
        case rel=>exact⟨_,(decide (ah7<0)),fI,H',⟨VP⟩,⟨Ah⟩,⟨dN⟩⟩
     ·obtain⟨nW,yK⟩:=rO c6;exact aV.e0
    case rest=>
     clear ZT;try clear nk
     obtain⟨kq,afC,rfl,HA,HJ2,ou,HB⟩:=hcut;cases kq with
     |zero=>exact absurd HA.out (by simp[aV.j1])
     |succ MO=>
      have H:=HA.out;clear HA;simp only[aV.j1] at H;replace H:=gB H;rcases H with⟨rfl,H⟩|⟨rfl,H⟩
      ·replace H:=gN H;obtain⟨-,Ex,-,H⟩:=H;replace H:=gN H;obtain⟨-,Ey,-,H⟩:=H;replace H:=gN H;obtain⟨c23,-,-,H⟩:=H;have ap5:=ae.mk c23;clear c23;obtain⟨ap6,Yf⟩:∃ y_:List Int,y_=(fU ++ [bt a0 fT]):=⟨_,rfl⟩;replace H:(aV.l0 MO a0 ap6 (wrap64 (fT+1)))=some r:=by first|(rw[Yf];with_reducible exact H)|(have rq:=(aj _ _).symm.trans H;rw[Yf];with_reducible exact rq)|(have rq:=(aj _ _).symm.trans H;with_reducible exact rq)|with_reducible exact H|(rw[Yf];exact H)|exact H
       have ap7:=ae.mk Yf;clear Yf;have H':=ae.mk H;clear H;have p22:0≤(fT:Int):=bE gL;have q22:fT<(a0.size:Int):=bE gL;have ay5:=gV a0 fT;replace p22:=eq_true p22;replace q22:=eq_true q22;go_wp2_with(((with_reducible refine lJ (b:=.append) (xs:=#[.tmp 39,.tmp 43]) rfl ?_);(try(refine uz (by rfl) ?_;dsimp only));at_builtin;refine Kd.rZ (Kd.int .u8) (w0:=w) w.heap.size rfl (.tmp 39) (.tmp 43) 100 5 (.int .u8 0) 1 rfl Tryz.underlying100 info5 rfl ak aa u3 fU (bt a0 fT) [.int .u8 (bt a0 fT)] (fun _=>True) (fun _=>False) rfl rfl ?aP (fun _ hk=>hk.elim) ?aF ?aO ?aB ?aS ?aL ?_;(case aP=>exact rfl);(case aB=>exact dN);(case aF=>exact(fun _ _=>trivial));(case aO=>exact UC);(case aS=>exact(bY dN));(case aL=>have:=ap5.out;omega);intro ay6 jm ho hb hg hat;rw[← ap7.out] at ho;have PZ:=ae.mk (hb);have P5:=ae.mk (ho);clear HB;clear ou;have HB:=PZ;have awL:=P5;clear PZ P5;clear ho hb hg hat));go_roundg MO
       case measure=>have:=qj.out;have:=HJ2.out;omega
       case rel=>exact⟨(ap6),(wrap64 (fT+1)),fI,H',⟨ZE⟩,⟨Ah⟩,⟨dN⟩⟩
      ·obtain⟨S9,Yg⟩:∃ j_:Int,(wrap64 (fT+1))=j_:=⟨_,rfl⟩;(first|rw[Yg] at H|simp only[Yg] at H ⊢)
       have atX:(IntKind.i64.wrap (fT+1))=S9:=(iE _).trans Yg;replace H:=gN H;obtain⟨-,K5,-,H⟩:=H;replace H:=gN H;obtain⟨-,Oq,-,H⟩:=H;replace H:=gD H;obtain⟨Jl,A29,H⟩:=H;obtain⟨LV,Qe⟩:∃ j_:Int,(wrap64 (fT+2))=j_:=⟨_,rfl⟩;(first|rw[Qe] at H|simp only[Qe] at H ⊢)
       (try rw[Qe] at A29)
       have atY:(IntKind.i64.wrap (fT+2))=LV:=(iE _).trans Qe;replace H:=gN H;obtain⟨-,aeP,-,H⟩:=H;replace H:=gN H;obtain⟨-,U6,-,H⟩:=H;replace H:=gD H;obtain⟨Jm,A34,H⟩:=H;replace H:=gD H;obtain⟨ap3,A35,H⟩:=H;replace H:=gB H;rcases H with⟨rfl,H⟩|⟨rfl,H⟩
       ·replace H:=gN H;obtain⟨c37,-,-,H⟩:=H;have ap8:=ae.mk c37;clear c37;obtain⟨ap9,Yh⟩:∃ y_:List Int,y_=(fU ++ [(wrap64 ((wrap64 (16*Jl))+Jm))%256]):=⟨_,rfl⟩;replace H:(aV.l0 MO a0 ap9 (wrap64 ((LV)+1)))=some r:=by first|(rw[Yh];with_reducible exact H)|(have rq:=(aj _ _).symm.trans H;rw[Yh];with_reducible exact rq)|(have rq:=(aj _ _).symm.trans H;with_reducible exact rq)|with_reducible exact H|(rw[Yh];exact H)|exact H
        have aqa:=ae.mk Yh;clear Yh;have H':=ae.mk H;clear H;try go_wp2
        replace ou:=ae.mk (Kd.ek ou.out);replace HB:=ae.mk (di HB.out);have p28:0≤((S9):Int):=bE gL;have q28:(S9)<(a0.size:Int):=bE gL;have hx28:=gV a0 (S9);replace p28:=eq_true p28;replace q28:=eq_true q28;have p33:0≤((LV):Int):=bE gL;have q33:(LV)<(a0.size:Int):=bE gL;have atZ:=gV a0 (LV);replace p33:=eq_true p33;replace q33:=eq_true q33;refine lL (n:=14) (S:=fun w'=>True) (ds:=[]) trivial (fun hHeld=>?_);refine fu aV.acH aV.U1 (fun HT_ HW_=>?_);generalize wc.drew=ku at ou HB hHeld ⊢;repeat(first|refine nU ?_ (hy:=Or.inl ⟨by rfl,by intro w' _;go_simp;with_reducible rfl⟩)|refine fA ?_)
        refine dn 6 (some 51) ?_;refine dn 7 (some 52) ?_;refine dn 8 (some 53) ?_;refine iC 9 (some 54) (hy:=Or.inl ⟨by rfl,by intro w' _;go_simp;with_reducible rfl⟩) ?_;refine iM (fun K hK=>?_);refine dV Tryz.func219 aK rfl #[.int .u8 (bt a0 (S9))] (by rfl) rfl rfl (by(try simp only[List.map_toArray,List.map_cons,List.map_nil]);first|done|(simp only[Yg];rfl)|rfl|(simp only[List.length_drop,List.length_take];rfl)) ?_;(with_reducible refine(fq.calls MO (bt a0 (S9)) Jl _ A29.out).mono ?_);rintro e w' ⟨rfl,⟨nd,rfl⟩⟩;refine⟨_,rfl,?_⟩;refine hK.out _ _ trivial (fun hHeld=>?_);clear hK K;refine eP ?_;repeat(first|refine fA ?_)
        refine iM (fun K hK=>?_);refine dV Tryz.func219 aK rfl #[.int .u8 (bt a0 (LV))] (by rfl) rfl rfl (by(try simp only[List.map_toArray,List.map_cons,List.map_nil]);first|done|(simp only[Qe];rfl)|rfl|(simp only[List.length_drop,List.length_take];rfl)) ?_;(with_reducible refine(fq.calls MO (bt a0 (LV)) Jm _ A34.out).mono ?_);rintro e w' ⟨rfl,⟨nd,rfl⟩⟩;refine⟨_,rfl,?_⟩;refine hK.out _ _ trivial (fun hHeld=>?_);clear hK K;refine eP ?_;repeat(first|refine fA ?_)
        refine mW (iR HT_.out aK) ?_;try go_wp2_with(first|((with_reducible refine ag (f:=220) rfl ?_);refine aG (some 59) rfl rfl Tryz.func220 aK rfl #[.int .u8 ((wrap64 ((wrap64 (16*Jl))+Jm))%256)] rfl eu ?_;(with_reducible refine(jV.calls ((wrap64 ((wrap64 (16*Jl))+Jm))%256) true _ A35.out).mono ?_);rintro e w' ⟨rfl,⟨nd,rfl⟩⟩;refine⟨_,rfl,?_⟩)|((with_reducible refine lJ (b:=.append) (xs:=#[.tmp 60,.tmp 62]) rfl ?_);(try(refine uz (by rfl) ?_;dsimp only));at_builtin;refine Kd.rZ (Kd.int .u8) (w0:=w) w.heap.size rfl (.tmp 60) (.tmp 62) 100 5 (.int .u8 0) 1 rfl Tryz.underlying100 info5 rfl ak aa u3 fU ((wrap64 ((wrap64 (16*Jl))+Jm))%256) [.int .u8 ((wrap64 ((wrap64 (16*Jl))+Jm))%256)] (fun _=>True) (fun _=>False) rfl rfl ?aP (fun _ hk=>hk.elim) ?aF ?aO ?aB ?aS ?aL ?_;(case aP=>exact rfl);(case aB=>exact dN);(case aF=>exact(fun _ _=>trivial));(case aO=>exact UC);(case aS=>exact(bY dN));(case aL=>have:=ap8.out;omega);intro ay7 pU ho hb hg hat;rw[← aqa.out] at ho;have zR:=ae.mk (hb);have KY:=ae.mk (ho);clear HB;clear ou;have HB:=zR;have awM:=KY;clear zR KY;clear ho hb hg hat))
        go_roundg MO
        case measure=>have:=qj.out;have:=HJ2.out;omega
        case rel=>exact⟨(ap9),(wrap64 ((LV)+1)),(by first|rfl|(simp;done)|(simp only[← Qe] <;> (first|rfl|simp))|(simp[*];done)),H',⟨ZE⟩,⟨Ah⟩,⟨dN⟩⟩
       ·obtain⟨Yi,Yj⟩:∃ j_:Int,(((wrap64 ((wrap64 (16*Jl))+Jm))%256) / 16)=j_:=⟨_,rfl⟩;(first|rw[Yj] at H|simp only[Yj] at H ⊢)
        (try rw[Yj] at A29)
        (try rw[Yj] at A34)
        (try rw[Yj] at A35)
        replace H:=gN H;obtain⟨-,ajE,-,H⟩:=H;replace H:=gN H;obtain⟨-,ajF,-,H⟩:=H;obtain⟨Yk,Yl⟩:∃ j_:Int,(Go.bits .and .u8 ((wrap64 ((wrap64 (16*Jl))+Jm))%256) 15)=j_:=⟨_,rfl⟩;(first|rw[Yl] at H|simp only[Yl] at H ⊢)
        (try rw[Yl] at A29)
        (try rw[Yl] at A34)
        (try rw[Yl] at A35)
        replace H:=gN H;obtain⟨-,awN,-,H⟩:=H;replace H:=gN H;obtain⟨-,ajG,-,H⟩:=H;obtain⟨Yd,Ym⟩:∃ y_:List Int,y_=(([37,bt (⟨#[48,49,50,51,52,53,54,55,56,57,65,66,67,68,69,70]⟩:af) (Yi),bt (⟨#[48,49,50,51,52,53,54,55,56,57,65,66,67,68,69,70]⟩:af) (Yk)]:List Int)):=⟨_,rfl⟩;replace H:(if fU.length+Yd.length<140737488355328 then(aV.l0 MO a0 (fU++Yd) (wrap64 ((LV)+1))) else(none))=some r:=by first|(rw[Ym];with_reducible exact H)|(have rq:=(aj _ _).symm.trans H;rw[Ym];with_reducible exact rq)|(have rq:=(aj _ _).symm.trans H;with_reducible exact rq)|with_reducible exact H|(rw[Ym];exact H)|exact H
        have ajH:=ae.mk Ym;clear Ym;replace H:=gN H;obtain⟨c48,-,-,H⟩:=H;have aqb:=ae.mk c48;clear c48;obtain⟨aqc,Yn⟩:∃ y_:List Int,y_=(fU++Yd):=⟨_,rfl⟩;replace H:(aV.l0 MO a0 aqc (wrap64 ((LV)+1)))=some r:=by first|(rw[Yn];with_reducible exact H)|(have rq:=(aj _ _).symm.trans H;rw[Yn];with_reducible exact rq)|(have rq:=(aj _ _).symm.trans H;with_reducible exact rq)|with_reducible exact H|(rw[Yn];exact H)|exact H
        have aqd:=ae.mk Yn;clear Yn;have H':=ae.mk H;clear H;try go_wp2
        replace ou:=ae.mk (Kd.ek ou.out);replace HB:=ae.mk (di HB.out);have p28:0≤((S9):Int):=bE gL;have q28:(S9)<(a0.size:Int):=bE gL;have hx28:=gV a0 (S9);replace p28:=eq_true p28;replace q28:=eq_true q28;have p33:0≤((LV):Int):=bE gL;have q33:(LV)<(a0.size:Int):=bE gL;have atZ:=gV a0 (LV);replace p33:=eq_true p33;replace q33:=eq_true q33;refine lL (n:=14) (S:=fun w'=>True) (ds:=[]) trivial (fun hHeld=>?_);refine fu aV.acH aV.U1 (fun HT_ HW_=>?_);generalize wc.drew=ku at ou HB hHeld ⊢;repeat(first|refine nU ?_ (hy:=Or.inl ⟨by rfl,by intro w' _;go_simp;with_reducible rfl⟩)|refine fA ?_)
        refine dn 6 (some 51) ?_;refine dn 7 (some 52) ?_;refine dn 8 (some 53) ?_;refine iC 9 (some 54) (hy:=Or.inl ⟨by rfl,by intro w' _;go_simp;with_reducible rfl⟩) ?_;refine iM (fun K hK=>?_);refine dV Tryz.func219 aK rfl #[.int .u8 (bt a0 (S9))] (by rfl) rfl rfl (by(try simp only[List.map_toArray,List.map_cons,List.map_nil]);first|done|(simp only[Yg];rfl)|rfl|(simp only[List.length_drop,List.length_take];rfl)) ?_;(with_reducible refine(fq.calls MO (bt a0 (S9)) Jl _ A29.out).mono ?_);rintro e w' ⟨rfl,⟨nd,rfl⟩⟩;refine⟨_,rfl,?_⟩;refine hK.out _ _ trivial (fun hHeld=>?_);clear hK K;refine eP ?_;repeat(first|refine fA ?_)
        refine iM (fun K hK=>?_);refine dV Tryz.func219 aK rfl #[.int .u8 (bt a0 (LV))] (by rfl) rfl rfl (by(try simp only[List.map_toArray,List.map_cons,List.map_nil]);first|done|(simp only[Qe];rfl)|rfl|(simp only[List.length_drop,List.length_take];rfl)) ?_;(with_reducible refine(fq.calls MO (bt a0 (LV)) Jm _ A34.out).mono ?_);rintro e w' ⟨rfl,⟨nd,rfl⟩⟩;refine⟨_,rfl,?_⟩;refine hK.out _ _ trivial (fun hHeld=>?_);clear hK K;refine eP ?_;repeat(first|refine fA ?_)
        refine mW (iR HT_.out aK) ?_;try go_wp2_with(((with_reducible refine ag (f:=220) rfl ?_);refine aG (some 59) rfl rfl Tryz.func220 aK rfl #[.int .u8 ((wrap64 ((wrap64 (16*Jl))+Jm))%256)] rfl eu ?_;(with_reducible refine(jV.calls ((wrap64 ((wrap64 (16*Jl))+Jm))%256) false _ A35.out).mono ?_);rintro e w' ⟨rfl,⟨nd,rfl⟩⟩;refine⟨_,rfl,?_⟩))
        try simp only[show ∀(w:World) (a b:Nat),(w.drewN a).drewN b=w.drewN (a+b) from fun w a b=>by unfold World.drewN;simp[Nat.add_assoc]]
        (try(rw[ma ku];generalize hq_:World.drewN ku _=ku;have zV:ae (Kd.R (Kd.int .u8) 5 ku w.heap.size (fun _=>True) u3 fU):=⟨by rw[← hq_];exact UC⟩;have Lf:ae (Below w.heap.size w ku):=⟨by rw[← hq_];exact dN⟩;clear ou HB hq_;have ou:=zV;have HB:=Lf;clear zV Lf))
        replace ou:=ae.mk (Kd.ek ou.out);replace HB:=ae.mk (di HB.out);have p43:0≤((Yi):Int):=bE gL;have q43:(Yi)<(16:Int):=bE gL;have ay8:=gV (⟨#[48,49,50,51,52,53,54,55,56,57,65,66,67,68,69,70]⟩:af) (Yi);replace p43:=eq_true p43;replace q43:=eq_true q43;have p47:0≤((Yk):Int):=bE gL;have q47:(Yk)<(16:Int):=bE gL;have ay9:=gV (⟨#[48,49,50,51,52,53,54,55,56,57,65,66,67,68,69,70]⟩:af) (Yk);replace p47:=eq_true p47;replace q47:=eq_true q47;try simp only[show ∀ n:Int,IntKind.u8.wrap n=n%256 from fun _=>rfl]
        refine lL (n:=10) (S:=fun w'=>True) (ds:=[]) trivial (fun hHeld=>?_);refine fu aV.ap4 aV.ama (fun HT_ HW_=>?_);generalize ku.drew=zO at ou HB hHeld ⊢;repeat(first|refine nU ?_ (hy:=Or.inl ⟨by rfl,by intro w' _;go_simp;with_reducible rfl⟩)|refine fA ?_)
        refine IL (i:=7) (N:=some 71) #[true,true,true,true,true,true,true,true,false,false] rfl rfl (Cw HT_.out aK) ak (fun K hK=>?_);refine Kd.Js (Kd.int .u8) _ 5 ?hg (N:=71) ?hd (xs:=([37,bt (⟨#[48,49,50,51,52,53,54,55,56,57,65,66,67,68,69,70]⟩:af) (Yi),bt (⟨#[48,49,50,51,52,53,54,55,56,57,65,66,67,68,69,70]⟩:af) (Yk)]:List Int)) (inner:=[.int .u8 37,.int .u8 (bt (⟨#[48,49,50,51,52,53,54,55,56,57,65,66,67,68,69,70]⟩:af) (Yi)),.int .u8 (bt (⟨#[48,49,50,51,52,53,54,55,56,57,65,66,67,68,69,70]⟩:af) (Yk))]) (ok:=fun _=>True) (okp:=fun _=>True) ?hr ?hp (fun _ hk=>hk) trivial (Below.refl _ _) (Nat.le_refl _) (by simp) ?_;(case hd=>rfl);(case hg=>rfl);(case hr=>first|(go_simp;done)|(go_simp;rfl));(case hp=>exact(jK.one (show Kd.M (Kd.int .u8) _ _ _ 37 [.int .u8 37] from rfl) (jK.one (show Kd.M (Kd.int .u8) _ _ _ (bt (⟨#[48,49,50,51,52,53,54,55,56,57,65,66,67,68,69,70]⟩:af) (Yi)) [.int .u8 (bt (⟨#[48,49,50,51,52,53,54,55,56,57,65,66,67,68,69,70]⟩:af) (Yi))] from rfl) (jK.one (show Kd.M (Kd.int .u8) _ _ _ (bt (⟨#[48,49,50,51,52,53,54,55,56,57,65,66,67,68,69,70]⟩:af) (Yk)) [.int .u8 (bt (⟨#[48,49,50,51,52,53,54,55,56,57,65,66,67,68,69,70]⟩:af) (Yk))] from rfl) (jK.none _ _)))));intro aza Fq acJ hb hg_ hnew_;clear hg_ hnew_;(first|rw[← ajH.out] at acJ|(simp only[Int.reduceToNat] at acJ;rw[← ajH.out] at acJ))
        have Vg:=ae.mk (Kd.iT (Kd.mg acJ (Kd.sQ UC)) (bY dN));replace ou:=ae.mk (Kd.IJ UC (Kd.mf acJ) hb);replace HB:=dS hb;clear hb acJ;obtain⟨aqe,aqf,ah8⟩:=Kd.iA Vg.out;(first|subst ah8|(injection ah8 with Jf Pk Jg;have Pm:=Jf.symm;have Pn:=Jg.symm;clear Jf Pk Jg;subst Pm;subst Pn))
        refine hK.out _ _ trivial (fun hHeld=>?_);clear hK K;refine Cx (some 71) ?_;refine IL (i:=8) (N:=some 72) #[true,true,true,true,true,true,true,true,true,false] rfl rfl (Cw HT_.out aK) ak (fun K hK=>?_);refine Kd.F5 (Kd.int .u8) (w0:=w) w.heap.size (by rfl) (.tmp 64) (.tmp 71) 100 5 (.int .u8 0) 1 rfl Tryz.underlying100 info5 rfl ak aa u3 fU Yd _ _ _ (fun k_=>some k_≠(.slice aqe Yd.length aqf:Value).ownBlock) (fun _=>False) rfl rfl ?aO ?aR (fun _ _ h=>h) (fun _ h=>h.elim) ?aF ?aB ?aS ?aL ?_;(case aR=>repeat(first|exact(Kd.bC Vg.out).2.2|(with_reducible refine Kd.aZ ?_ _)|(with_reducible refine Kd.bf ?_ _)|(with_reducible refine Kd.bP ?_)))
        (case aB=>exact dN)
        (case aF=>exact(fun k_ hk=>Kd.fresh' (Kd.sQ (by(with_reducible repeat(first|apply Kd.dW|apply Kd.dU|apply Kd.ek));exact Vg.out)) k_ hk))
        (case aO=>exact(by(with_reducible repeat(first|apply Kd.dW|apply Kd.dU|apply Kd.ek));exact Kd.lF ou.out (fun _ hk=>hk.2)))
        (case aS=>exact(bY dN))
        (case aL=>have:=aqb.out;omega)
        intro azb Jv ho hb hg hat;rw[← aqd.out] at ho;have zV:=ae.mk (Kd.EO (ok:=(fun _=>True)) (by(with_reducible repeat(first|apply Kd.dW|apply Kd.dU|apply Kd.ek));exact Vg.out) hg hat);have Lf:=ae.mk (hb);have ajI:=ae.mk (ho);clear Vg;clear HB;clear ou;have Vg:=zV;have HB:=Lf;have aqg:=ajI;clear zV Lf ajI;clear ho hb hg hat;refine hK.out _ _ trivial (fun hHeld=>?_);clear hK K;refine Cx (some 72) ?_;repeat(first|refine fA ?_)
        refine mW (iR HT_.out aK) ?_;try go_wp2
        go_roundg MO
        case measure=>have:=qj.out;have:=HJ2.out;omega
        case rel=>exact⟨(aqc),(wrap64 ((LV)+1)),(by first|rfl|(simp;done)|(simp only[← Qe] <;> (first|rfl|simp))|(simp[*];done)),H',⟨ZE⟩,⟨by(with_reducible repeat(first|apply Kd.dW|apply Kd.dU|apply Kd.ek));exact Kd.lF aqg.out (fun _ hk=>trivial)⟩,⟨dN⟩⟩
   ·obtain rfl:=cu H;have awO:=EA (P:=Tryz.prog) Tryz.underlying100 Tryz.underlying5 Tryz.underlying9 (Kd.II ou.out);go_wp2;go_ret;exact⟨nG,dN⟩

end Go.Proofs.YtfhllanhldbkkaaGreatDoor.P
