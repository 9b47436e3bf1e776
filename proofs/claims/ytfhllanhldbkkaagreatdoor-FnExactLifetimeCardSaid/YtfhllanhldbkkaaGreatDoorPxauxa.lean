import Derived.Test.YtfhllanhldbkkaaGreatDoorPx0
namespace Go.Proofs.YtfhllanhldbkkaaGreatDoor.P
set_option maxHeartbeats 8000000
set_option maxRecDepth 100000
open Go.RowKit Go.Proofs.YtfhllanhldbkkaaGreatDoorW.bf Go.Proofs.YtfhllanhldbkkaaGreatDoorW.iK Go.Proofs.YtfhllanhldbkkaaGreatDoorW.kG
attribute [local go_sem] rE rF uF uG pE pF rG rH   -- for this text's walks alone
set_option linter.unusedVariables false
set_option linter.unusedSimpArgs false

def lM.f (ak:ByteArray) (au:ByteArray) (a1:Int):Option (Int):=if(wrap64 (a1-(ak.size:Int)))<0 then(some (-1)) else(if(wrap64 ((wrap64 (a1-(ak.size:Int)))-(au.size:Int)))<0 then(some (-1)) else(some (wrap64 ((wrap64 (a1-(ak.size:Int)))-(au.size:Int)))))
theorem lM.e0 {p:Prop} (h:p:=by
  obtain rfl:=aI H.out
  go_enter Tryz.func56,Tryz.ntmps56
  go_wp2_with(((with_reducible refine lT 2 rfl ?_);refine jL #[.string ak,.string au] 69 ?_;intro aBN hg gG hbox hb;have anS:=aa.mk (hbox);have aBO:=lJ hg;replace HB:=fw hb;clear hb hbox hg;have _:=xc anS;have _:=Cf anS))
  go_ret
  exact⟨jv,aX⟩):p:=h
theorem lM.calls (ak au:ByteArray) (a1 r:Int) (w:World) (h:lM.f ak au a1=some r) :
  Calls Tryz.prog 56 #[.agg #[.string ak,.string au],.int .i64 a1] w fun e w'=>e = .returned (.int .i64 r)/\Below w.heap.size w w':=by
 have apO:=Tryz.underlying69;have HB:=aa.mk (Below.refl w.heap.size w);have H:=aa.mk h;clear h;unfold lM.f at H;rcases jw H with⟨-,cB,-,H⟩|⟨-,cB,-,H⟩
 ·exact lM.e0
 ·rcases jw H with⟨-,jy,-,H⟩|⟨-,jy,-,H⟩
  ·exact lM.e0
  ·exact lM.e0

def gq.l0 : Nat->List (BX)->Int->Int->Option (Int)
 |0,_,_,_=>none
 |k+1,x0,x1,x5=>if x5<(x0.length:Int) then(if 0<=x5 then((lM.f ((uN x0 x5).f0) ((uN x0 x5).f1) x1).bind fun t106=>(if t106<0 then(some (-1)) else(gq.l0 k x0 t106 (wrap64 (x5+1))))) else(none)) else(some x1)
def gq.f (k:Nat) (l0:List (BX)) (a1:Int):Option (Int):=if(wrap64 (a1-(l0.length:Int)))<0 then(some (-1)) else(gq.l0 k l0 (wrap64 (a1-(l0.length:Int))) 0)
theorem gq.calls (k:Nat) (A0:Option Addr) (c0:Nat) (l0:List (BX)) (a1 r:Int) (w:World) (hr0:Kd.C Tu w A0 l0.length l0) (hc0:l0.length<=c0) (h:gq.f k l0 a1=some r) :
  Calls Tryz.prog 28 #[.slice A0 l0.length c0,.int .i64 a1] w fun e w'=>e = .returned (.int .i64 r)/\Below w.heap.size w w':=by
 have apO:=Tryz.underlying69;have wR:=aa.mk hr0;have xw:=aa.mk hc0;clear hr0 hc0;have HB:=aa.mk (Below.refl w.heap.size w);have H:=aa.mk h;clear h;unfold gq.f at H;rcases jw H with⟨-,cB,-,H⟩|⟨-,cB,-,H⟩
 ·obtain rfl:=aI H.out;go_enter Tryz.func28,Tryz.ntmps28;go_wp2;go_ret;exact⟨jv,aX⟩
 ·go_enter Tryz.func28,Tryz.ntmps28;go_wp2;go_loopg [1,5] k (fun kq v1 v5 w'=>∃(QL:Int) (bu:Int),v1 = .int .i64 QL/\v5 = .int .i64 bu/\aa (gq.l0 kq l0 QL bu=some r)/\aa (kq<=k)/\aa (Below w.heap.size w w'))
  case atStart=>exact⟨(wrap64 (a1-(l0.length:Int))),(0),bR,bR,H,⟨Nat.le_refl _⟩,⟨aX⟩⟩
  case round=>
   clear H;try clear cB
   obtain⟨QL,bu,rfl,rfl,HA,ig,HB⟩:=hrel;cases gk with
   |zero=>exact absurd HA.out (by simp[gq.l0])
   |succ k1=>
    have H:=HA;clear HA;simp only[gq.l0] at H;rcases jw H with⟨-,jr,-,H⟩|⟨-,jr,-,H⟩
    ·obtain⟨-,jV,-,H⟩:=nZ H;obtain⟨t106,A6,H⟩:=nP H;rcases jw H with⟨-,nR,-,H⟩|⟨-,nR,-,H⟩
     ·obtain rfl:=aI H.out;have ZG:0<=(bu:Int):=ay bM;have ZH:bu<(l0.length:Int):=ay bM;obtain⟨as3,apP,Cv,Cw⟩:=Zb wR.out bu ZG ZH;cases apP
      replace Cv:=(HB.out.cell (World.block_lt_of_cell? w _ Cv)).trans Cv;replace Cw:=(HB.out.cell (World.block_lt_of_cell? w _ Cw)).trans Cw;replace ZG:=eq_true ZG;replace ZH:=eq_true ZH;go_wp2_with(((with_reducible refine cZ 56 rfl ?_);refine iW 23 rfl Tryz.func56 (lM.calls ((uN l0 bu).f0) ((uN l0 bu).f1) QL t106 _ A6.out) fun gG hb HB=>?_;clear hb));go_ret;exact⟨jv,aX⟩
     ·have ZG:0<=(bu:Int):=ay bM;have ZH:bu<(l0.length:Int):=ay bM;obtain⟨as3,apP,Cv,Cw⟩:=Zb wR.out bu ZG ZH;cases apP
      replace Cv:=(HB.out.cell (World.block_lt_of_cell? w _ Cv)).trans Cv;replace Cw:=(HB.out.cell (World.block_lt_of_cell? w _ Cw)).trans Cw;replace ZG:=eq_true ZG;replace ZH:=eq_true ZH;go_wp2_with(((with_reducible refine cZ 56 rfl ?_);refine iW 23 rfl Tryz.func56 (lM.calls ((uN l0 bu).f0) ((uN l0 bu).f1) QL t106 _ A6.out) fun gG hb HB=>?_;clear hb));go_roundg k1
      case measure=>have:=ig.out;omega
      case rel=>exact⟨(t106),(wrap64 (bu+1)),bR,bR,H,⟨by have:=ig.out;omega⟩,⟨aX⟩⟩
    ·obtain rfl:=aI H.out;go_wp2;go_ret;exact⟨jv,aX⟩

def mh.f (k:Nat) (ak:ByteArray) (au:ByteArray) (az:Int) (aJ:ByteArray) (aD:Bool) (bZ:List (BX)) (bF:ByteArray) (a1:Int):Option (Int):=if(wrap64 (a1-(ak.size:Int)))<0 then(some (-1)) else(if(wrap64 ((wrap64 (a1-(ak.size:Int)))-(au.size:Int)))<0 then(some (-1)) else(if(wrap64 ((wrap64 ((wrap64 (a1-(ak.size:Int)))-(au.size:Int)))-(aJ.size:Int)))<0 then(some (-1)) else((gq.f k bZ (wrap64 ((wrap64 ((wrap64 (a1-(ak.size:Int)))-(au.size:Int)))-(aJ.size:Int)))).bind fun t110=>(if t110<0 then(some (-1)) else(if(wrap64 (t110-(bF.size:Int)))<0 then(some (-1)) else(some (wrap64 (t110-(bF.size:Int)))))))))
theorem mh.e0 {p:Prop} (h:p:=by
  obtain rfl:=aI H.out
  go_enter Tryz.func29,Tryz.ntmps29
  go_wp2_with(first|((with_reducible refine lT 2 rfl ?_);refine jL #[.string ak,.string au,.int .i64 az,.string aJ,.bool aD,.slice o8 bZ.length o9,.string bF] 24 ?_;intro anT hg gG hbox hb;have RP:=aa.mk (hbox);have aBP:=lJ hg;replace HB:=fw hb;clear hb hbox hg;have _:=mI RP;have _:=nV RP)|((with_reducible refine cZ 28 rfl ?_);refine iW 29 rfl Tryz.func28 (gq.calls k _ _ bZ (wrap64 ((wrap64 ((wrap64 (a1-(ak.size:Int)))-(au.size:Int)))-(aJ.size:Int))) t110 _ zs0 oh.out JR.out) fun mP hb HB=>?_;replace RP:=eF (g:=anT) hb;clear hb;have _:=mI RP;have _:=nV RP)|((with_reducible refine cZ 28 rfl ?_);refine iW 29 rfl Tryz.func28 (gq.calls k _ _ bZ (wrap64 ((wrap64 ((wrap64 (a1-(ak.size:Int)))-(au.size:Int)))-(aJ.size:Int))) t110 _ zs0 oh.out JR.out) fun jH hb HB=>?_;replace RP:=eF (g:=anT) hb;clear hb))
  go_ret
  exact⟨jv,aX⟩):p:=h
theorem mh.calls (k:Nat) (ak au:ByteArray) (az:Int) (aJ:ByteArray) (aD:Bool) (o8:Option Addr) (o9:Nat) (bZ:List (BX)) (bF:ByteArray) (a1 r:Int) (w:World) (qY:Kd.C Tu w o8 bZ.length bZ) (qZ:bZ.length<=o9) (h:mh.f k ak au az aJ aD bZ bF a1=some r) :
  Calls Tryz.prog 29 #[.agg #[.string ak,.string au,.int .i64 az,.string aJ,.bool aD,.slice o8 bZ.length o9,.string bF],.int .i64 a1] w fun e w'=>e = .returned (.int .i64 r)/\Below w.heap.size w w':=by
 have apQ:=Tryz.underlying24;have DN:=aa.mk qY;have oh:=aa.mk qZ;clear qY qZ;have HB:=aa.mk (Below.refl w.heap.size w);have H:=aa.mk h;clear h;unfold mh.f at H;rcases jw H with⟨-,cB,-,H⟩|⟨-,cB,-,H⟩
 ·exact mh.e0
 ·rcases jw H with⟨-,jy,-,H⟩|⟨-,jy,-,H⟩
  ·exact mh.e0
  ·rcases jw H with⟨-,pg,-,H⟩|⟨-,pg,-,H⟩
   ·exact mh.e0
   ·obtain⟨t110,JR,H⟩:=nP H;rcases jw H with⟨-,qG,-,H⟩|⟨-,qG,-,H⟩
    ·exact mh.e0
    ·rcases jw H with⟨-,sP,-,H⟩|⟨-,sP,-,H⟩
     ·exact mh.e0
     ·exact mh.e0


def kW.f (k:Nat) (ak:ByteArray) (au:Int) (az:Int) (fo:List (BX)) (aD:ByteArray) (di:ByteArray) (bF:Int) (ik:ByteArray) (gY:Bool) (dF:List (BX)) (dJ:ByteArray) (a1:Int):Option (Int):=if(wrap64 (a1-(ak.size:Int)))<0 then(some (-1)) else((gq.f k fo (wrap64 (a1-(ak.size:Int)))).bind fun t112=>(if t112<0 then(some (-1)) else((mh.f k aD di bF ik gY dF dJ t112).bind fun t113=>(if t113<0 then(some (-1)) else(some t113)))))
theorem kW.e0 {p:Prop} (h:p:=by
  obtain rfl:=aI H.out
  go_enter Tryz.func10,Tryz.ntmps10
  go_wp2_with(first|((with_reducible refine lT 2 rfl ?_);refine jL #[.string ak,.int .i64 au,.int .i64 az,.slice oH fo.length oI,.string aD,.string di,.int .i64 bF,.string ik,.bool gY,.slice oJ dF.length oK,.string dJ] 26 ?_;intro af0 hg gG hbox hb;have VS:=aa.mk (hbox);have aBQ:=lJ hg;replace HB:=fw hb;clear hb hbox hg;have _:=jQ VS)|((with_reducible refine cZ 28 rfl ?_);refine iW 15 rfl Tryz.func28 (gq.calls k _ _ fo (wrap64 (a1-(ak.size:Int))) t112 _ Qo mO.out A6.out) fun mP hb HB=>?_;replace VS:=eF (g:=af0) hb;clear hb;have _:=jQ VS)|((with_reducible refine cZ 29 rfl ?_);refine iW 21 rfl Tryz.func29 (mh.calls k aD di bF ik gY _ _ dF dJ t112 t113 _ Ch jN.out M3.out) fun wS hb HB=>?_;replace VS:=eF (g:=af0) hb;clear hb)|((with_reducible refine cZ 28 rfl ?_);refine iW 15 rfl Tryz.func28 (gq.calls k _ _ fo (wrap64 (a1-(ak.size:Int))) t112 _ Qo mO.out A6.out) fun jH hb HB=>?_;replace VS:=eF (g:=af0) hb;clear hb))
  go_ret
  exact⟨jv,aX⟩):p:=h
theorem kW.calls (k:Nat) (ak:ByteArray) (au az:Int) (oH:Option Addr) (oI:Nat) (fo:List (BX)) (aD di:ByteArray) (bF:Int) (ik:ByteArray) (gY:Bool) (oJ:Option Addr) (oK:Nat) (dF:List (BX)) (dJ:ByteArray) (a1 r:Int) (w:World) (pR:Kd.C Tu w oH fo.length fo) (pU:fo.length<=oI) (pV:Kd.C Tu w oJ dF.length dF) (pW:dF.length<=oK) (h:kW.f k ak au az fo aD di bF ik gY dF dJ a1=some r) :
  Calls Tryz.prog 10 #[.agg #[.string ak,.int .i64 au,.int .i64 az,.slice oH fo.length oI,.string aD,.string di,.int .i64 bF,.string ik,.bool gY,.slice oJ dF.length oK,.string dJ],.int .i64 a1] w fun e w'=>e = .returned (.int .i64 r)/\Below w.heap.size w w':=by
 have asZ:=Tryz.underlying26;have apQ:=Tryz.underlying24;have C8:=aa.mk pR;have mO:=aa.mk pU;clear pR pU;have yA:=aa.mk pV;have jN:=aa.mk pW;clear pV pW;have HB:=aa.mk (Below.refl w.heap.size w);have H:=aa.mk h;clear h;unfold kW.f at H;rcases jw H with⟨-,cB,-,H⟩|⟨-,cB,-,H⟩
 ·exact kW.e0
 ·obtain⟨t112,A6,H⟩:=nP H;rcases jw H with⟨-,nR,-,H⟩|⟨-,nR,-,H⟩
  ·exact kW.e0
  ·obtain⟨t113,M3,H⟩:=nP H;rcases jw H with⟨-,nS,-,H⟩|⟨-,nS,-,H⟩
   ·exact kW.e0
   ·exact kW.e0

def tH.f (ak:ByteArray) (au:ByteArray):Option (ByteArray×ByteArray):=some (ak,au)
theorem tH.calls (ak au:ByteArray) (r1 r2:ByteArray) (w:World) (h:tH.f ak au=some (r1,r2)) :
  Calls Tryz.prog 63 #[.agg #[.string ak,.string au]] w fun e w'=>e = .returned (.agg #[.string r1,.string r2])/\Below w.heap.size w w':=by
 have apO:=Tryz.underlying69;have Oh:=Tryz.underlying72;have HB:=aa.mk (Below.refl w.heap.size w);have H:=aa.mk h;clear h;unfold tH.f at H;simp only[Option.some.injEq,Prod.mk.injEq] at H;obtain⟨rfl,rfl⟩:=H;go_enter Tryz.func63,Tryz.ntmps63;go_wp2_with(first|((with_reducible refine lT 1 rfl ?_);refine Fp #[.string ak,.string au] 69 ?_;clear HB;intro abu w2 abv aBR HB)|((with_reducible refine lT 2 rfl ?_);refine jL #[.string (⟨#[]⟩:af),.string (⟨#[]⟩:af)] 72 ?_;intro af1 hg w3 hbox hb;have af2:=aa.mk (hbox);have aBS:=lJ hg;have RQ:=CZ (g:=abu) hg;have adV:=DL RQ;replace abv:=eF (g:=abu) hb;replace HB:=fw hb;clear hb hbox hg)|((with_reducible refine lT 3 rfl ?_);refine jL #[.string (⟨#[]⟩:af),.string (⟨#[]⟩:af)] 72 ?_;intro aBT hg w4 hbox hb;have anU:=aa.mk (hbox);have aBU:=lJ hg;have RS:=CZ (g:=abu) hg;have adW:=DL RS;have RU:=CZ (g:=af1) hg;have adX:=DL RU;replace abv:=eF (g:=abu) hb;replace af2:=eF (g:=af1) hb;replace HB:=fw hb;clear hb hbox hg;have ax4:=RQ.out;have ax5:=adV.out;have as4:=RS.out;have as5:=adW.out;have _:=xc abv;have _:=Cf abv;have as6:=adX.out;have as7:=RU.out;have _:=xc anU;have _:=Cf anU;have _:=xc af2;have _:=Cf af2));refine bodyPost_ret (results_cell_row rfl _ _ af1 72 #[.string ak,.string au] (0,0) _ rfl gBz Tryz.underlying72 rfl dK) rfl ?_;exact⟨jv,aX⟩


def gp.l0 : Nat->List (BX)->List (lq)->Int->Option ((List (lq)))
 |0,_,_,_=>none
 |k+1,x0,x3,x4=>if x4<(x0.length:Int) then(if 0<=x4 then((tH.f ((uN x0 x4).f0) ((uN x0 x4).f1)).bind fun anV=>(if x4<(x3.length:Int) then(gp.l0 k x0 (x3.set (x4:Int).toNat (⟨anV.1,anV.2⟩:lq)) (wrap64 (x4+1))) else(none))) else(none)) else(some x3)
def gp.f (k:Nat) (l0:List (BX)):Option ((List (lq))):=if 0<=(l0.length:Int) then(if((l0.length:Int):Int).toNat<=8796093022208 then(gp.l0 k l0 (List.replicate ((l0.length:Int):Int).toNat z72) 0) else(none)) else(none)
theorem gp.calls (k:Nat) (A0:Option Addr) (c0:Nat) (l0:List (BX)) (r:List (lq)) (w:World) (hr0:Kd.C Tu w A0 l0.length l0) (hc0:l0.length<=c0) (h:gp.f k l0=some r) :
  Calls Tryz.prog 34 #[.slice A0 l0.length c0] w fun e w'=>∃ Df:Value,e = .returned (Df)/\Kd.R wQ 72 w' w.heap.size (fun _=>True) Df r/\Below w.heap.size w w':=by
 have apO:=Tryz.underlying69;have Oh:=Tryz.underlying72;have wR:=aa.mk hr0;have xw:=aa.mk hc0;clear hr0 hc0;have HB:=aa.mk (Below.refl w.heap.size w);have H:=h;clear h;unfold gp.f at H;replace H:=gI H;rcases H with⟨-,nD,jc,H⟩|⟨c2,-,-,H⟩
 ·replace H:=gN H;obtain⟨-,nE,cB,H⟩:=H;obtain⟨as8,VT⟩:∃ y_:List (lq),y_=(List.replicate ((l0.length:Int):Int).toNat z72):=⟨_,rfl⟩;replace H:(gp.l0 k l0 as8 0)=some r:=by first|(rw[VT];with_reducible exact H)|(have kP:=(ax _ _).symm.trans H;rw[VT];with_reducible exact kP)|(have kP:=(ax _ _).symm.trans H;with_reducible exact kP)|with_reducible exact H|(rw[VT];exact H)|exact H
  have anW:=aa.mk VT;clear VT;replace H:=aa.mk H;go_enter Tryz.func34,Tryz.ntmps34;go_wp2_with(first|((with_reducible refine lT 7 rfl ?_);refine Kd.apz wQ _ 72 rfl (N:=7) rfl 29 _ _ rfl (l0.length:Int) rfl rfl Tryz.underlying29 (.agg #[(.string ⟨#[]⟩),(.string ⟨#[]⟩)]) 32 apB rfl aA ae z72 (ok:=fun _=>True) (okp:=fun _=>True) (abj _ _ _ z72 ) (fun _ hk=>hk) trivial (ay bM) (Nat.le_trans (Nat.mul_le_mul_right _ (ay bM:(l0.length:Int).toNat<=8796093022208)) ae) (Below.refl _ _) (Nat.le_refl _) ?_;intro v127 w4 ho5 hb hg_ hnew_;clear hg_ hnew_;(first|rw[<- anW.out] at ho5|(simp only[Int.reduceToNat] at ho5;rw[<- anW.out] at ho5));have aBV:=aa.mk (Kd.gu ho5 (aN aX));replace HB:=fw hb;clear hb ho5));go_loopg [4] k (fun kq v4 w'=>∃(dD:List (lq)) (dH:Int),v4 = .int .i64 dH/\aa (gp.l0 kq l0 dD dH=some r)/\aa (kq<=k)/\aa (Kd.R wQ 72 w' w.heap.size (fun _=>True) v127 dD)/\aa (Below w.heap.size w w'))
  case atStart=>exact⟨(as8),(0),bR,H,⟨Nat.le_refl _⟩,⟨qE⟩,⟨aX⟩⟩
  case round=>
   clear H;try clear c2
   try clear jc
   try clear nD
   try clear cB
   try clear nE
   obtain⟨dD,dH,rfl,HA,ig,iV,HB⟩:=hrel;cases gk with
   |zero=>exact absurd HA.out (by simp[gp.l0])
   |succ k1=>
    have H:=HA.out;clear HA;simp only[gp.l0] at H;replace H:=gI H;rcases H with⟨-,jy,-,H⟩|⟨-,jy,-,H⟩
    ·replace H:=gN H;obtain⟨-,nR,-,H⟩:=H;replace H:=gD H;obtain⟨⟨t130,t131⟩,A8,H⟩:=H;dsimp only at H;replace H:=gN H;obtain⟨-,pg,-,H⟩:=H;obtain⟨apR,VU⟩:∃ y_:List (lq),y_=(dD.set (dH:Int).toNat (⟨t130,t131⟩:lq)):=⟨_,rfl⟩;replace H:(gp.l0 k1 l0 apR (wrap64 (dH+1)))=some r:=by first|(rw[VU];with_reducible exact H)|(have kP:=(ax _ _).symm.trans H;rw[VU];with_reducible exact kP)|(have kP:=(ax _ _).symm.trans H;with_reducible exact kP)|with_reducible exact H|(rw[VU];exact H)|exact H
     have as9:=aa.mk VU;clear VU;replace H:=aa.mk H;have apS:0<=(dH:Int):=ay bM;have apT:dH<(l0.length:Int):=ay bM;obtain⟨aBW,e129,Ux,Uy⟩:=Zb wR.out dH apS apT;cases e129
     replace Ux:=(HB.out.cell (World.block_lt_of_cell? w _ Ux)).trans Ux;replace Uy:=(HB.out.cell (World.block_lt_of_cell? w _ Uy)).trans Uy;replace apS:=eq_true apS;replace apT:=eq_true apT;go_wp2_with(first|((with_reducible refine cZ 63 rfl ?_);refine iW 20 rfl Tryz.func63 (tH.calls ((uN l0 dH).f0) ((uN l0 dH).f1) t130 t131 _ A8.out) fun FM hb HB=>?_;replace iV:=aa.mk (Kd.bL Ma hb);clear hb;have p10:0<=(dH:Int):=ay bM;have q10:(dH:Int)<((dD.length:Int):Int):=ay bM;obtain⟨Uz,adY,VV,ata,ax6,aFe,atb⟩:=Kd.apx iV.out ae;(first|cases VV|(injection VV with ea_ en_ ec_;(first|subst ea_|(injection ea_ with ea_;subst ea_));subst ec_;clear en_));have atc:=aa.mk ata;have aFf:=aa.mk atb;clear ata ax6 atb;obtain⟨aFg,atd,ate,af3,af4⟩:=Kd.aeS iV.out z72 (dH:Int) p10 q10;obtain rfl:=Rh ate;have ax7:FM.cell? ⟨Uz,(dH:Int).toNat*2,none⟩=some (.string ((aV dD dH).f0)):=af3 0 _ rfl;have ax8:FM.cell? ⟨Uz,(dH:Int).toNat*2+1,none⟩=some (.string ((aV dD dH).f1)):=af3 1 _ rfl;have ax9:FM.frozen? ⟨Uz,(dH:Int).toNat*2,none⟩=false:=af4 0;have aya:FM.frozen? ⟨Uz,(dH:Int).toNat*2+1,none⟩=false:=af4 1;clear atd af3 af4 ate;replace p10:=eq_true p10;replace q10:=eq_true q10;have atf:=aa.mk (show Kd.R wQ 72 FM w.heap.size (fun _=>True) (.slice (some ⟨Uz,0,none⟩) dD.length adY) dD from Ma);obtain⟨aFh,anX,atg,abw,af5⟩:=Kd.aeS atf.out z72 (dH:Int) (ay bM) (by have h_:(dH:Int)<((dD.length:Int):Int):=ay bM;first|exact h_|(have e_:=(Kd.aH iV.out).1;omega)|simpa using h_);obtain rfl:=Rh atg;have apU:=Kd.asy atf.out (dH:Int) (ay bM) (by have h_:(dH:Int)<((dD.length:Int):Int):=ay bM;first|exact h_|(have e_:=(Kd.aH iV.out).1;omega)|simpa using h_) (seg:=[.string t130,.string t131]) (j:=0) anX abw (show 2<=2 from by decide) (x':=(⟨t130,t131⟩:lq)) (abj _ _ _ (⟨t130,t131⟩:lq) ) (fun _ hk=>hk);have apV:=abw 0 _ rfl;(try simp only[show(wQ).sz=2 from rfl,Nat.mul_one,Nat.add_zero] at apV);have apW:=af5 0;(try simp only[show(wQ).sz=2 from rfl,Nat.mul_one,Nat.add_zero] at apW);have apX:=abw 1 _ rfl;(try simp only[show(wQ).sz=2 from rfl,Nat.mul_one,Nat.add_zero] at apX);have apY:=af5 1;(try simp only[show(wQ).sz=2 from rfl,Nat.mul_one,Nat.add_zero] at apY);clear anX abw af5 atg)|((with_reducible refine Y7 (t:=72) (p:=21) rfl ?_);refine Vp (t:=72) (p:=21) (v:=?ayb) (w1:=((FM.setCell ⟨Uz,(dH:Int).toNat*2,none⟩ (.string t130)).setCell ⟨Uz,(dH:Int).toNat*2+1,none⟩ (.string t131))) ?hg ?ho ?hn ?hr ?_;(case ho=>rfl);(case hg=>rfl);(case hn=>rfl);(case hr=>first|(go_simp;done)|(go_simp;rfl));intro AX hw;have hg:FM.grownBy AX (some Uz):=(by rw[hw];exact apU.2);have hp_:Kd.R wQ 72 AX w.heap.size (fun _=>True) (.slice (some ⟨Uz,0,none⟩) dD.length adY) apR:=(by rw[hw,as9.out];exact apU.1);clear apU;replace iV:=aa.mk (hp_);replace HB:=aa.mk ((by rw[hw];exact mQ (mQ (HB.out) atc.out) atc.out:Below w.heap.size w AX));clear hg hw hp_));go_roundg k1
     case measure=>have:=ig.out;omega
     case rel=>exact⟨(apR),(wrap64 (dH+1)),bR,H,⟨by have:=ig.out;omega⟩,⟨qE⟩,⟨aX⟩⟩
    ·obtain rfl:=aI H;go_wp2;go_ret;exact⟨_,jv,qE,aX⟩
 ·exact absurd H (by simp)

def xk.f (k:Nat) (ak:ByteArray) (au:ByteArray) (az:Int) (aJ:ByteArray) (aD:Bool) (bZ:List (BX)) (bF:ByteArray):Option (ByteArray×ByteArray×Int×ByteArray×Bool×(List (lq))×ByteArray):=(gp.f k bZ).bind fun t142=>(some (ak,au,az,aJ,aD,t142,bF))
theorem xk.calls (k:Nat) (ak au:ByteArray) (az:Int) (aJ:ByteArray) (aD:Bool) (o8:Option Addr) (o9:Nat) (bZ:List (BX)) (bF r1 r2:ByteArray) (r3:Int) (r4:ByteArray) (r5:Bool) (r6:List (lq)) (r7:ByteArray) (w:World) (qY:Kd.C Tu w o8 bZ.length bZ) (qZ:bZ.length<=o9) (h:xk.f k ak au az aJ aD bZ bF=some (r1,r2,r3,r4,r5,r6,r7)) :
  Calls Tryz.prog 35 #[.agg #[.string ak,.string au,.int .i64 az,.string aJ,.bool aD,.slice o8 bZ.length o9,.string bF]] w fun e w'=>∃ v5_:Value,e = .returned (.agg #[.string r1,.string r2,.int .i64 r3,.string r4,.bool r5,v5_,.string r7])/\Kd.R wQ 72 w' w.heap.size (fun _=>True) v5_ r6/\Below w.heap.size w w':=by
 have apQ:=Tryz.underlying24;have QM:=Tryz.underlying31;have DN:=aa.mk qY;have oh:=aa.mk qZ;clear qY qZ;have HB:=aa.mk (Below.refl w.heap.size w);have H:=aa.mk h;clear h;unfold xk.f at H;obtain⟨t142,A2,H⟩:=nP H;simp only[Option.some.injEq,Prod.mk.injEq] at H;obtain⟨rfl,rfl,rfl,rfl,rfl,rfl,rfl⟩:=H;go_enter Tryz.func35,Tryz.ntmps35;go_wp2_with(first|((with_reducible refine lT 1 rfl ?_);refine Fp #[.string ak,.string au,.int .i64 az,.string aJ,.bool aD,.slice o8 bZ.length o9,.string bF] 24 ?_;clear HB;intro VW w3 Oi aBX HB)|((with_reducible refine lT 2 rfl ?_);refine jL #[.string (⟨#[]⟩:af),.string (⟨#[]⟩:af),.int .i64 0,.string (⟨#[]⟩:af),.bool false,.slice none 0 0,.string (⟨#[]⟩:af)] 31 ?_;intro abx hg w4 hbox hb;have VX:=aa.mk (hbox);have aBY:=lJ hg;have RV:=CZ (g:=VW) hg;have adZ:=DL RV;replace Oi:=eF (g:=VW) hb;replace HB:=fw hb;clear hb hbox hg)|((with_reducible refine lT 3 rfl ?_);refine jL #[.string (⟨#[]⟩:af),.string (⟨#[]⟩:af),.int .i64 0,.string (⟨#[]⟩:af),.bool false,.slice none 0 0,.string (⟨#[]⟩:af)] 31 ?_;intro ath hg w5 hbox hb;have RX:=aa.mk (hbox);have aBZ:=lJ hg;have RY:=CZ (g:=VW) hg;have ad1:=DL RY;have RZ:=CZ (g:=abx) hg;have ad2:=DL RZ;replace Oi:=eF (g:=VW) hb;replace VX:=eF (g:=abx) hb;replace HB:=fw hb;clear hb hbox hg;have as4:=RV.out;have as5:=adZ.out;have ati:=RY.out;have atj:=ad1.out;have _:=mI Oi;have _:=nV Oi;have aFi:=ad2.out;have aFj:=RZ.out;have _:=mI RX;have _:=nV RX)|((with_reducible refine cZ 34 rfl ?_);refine NL 21 rfl Tryz.func34 (gp.calls k _ _ bZ t142 _ (Kd.kV DN.out aX) oh.out A2.out) ?_;rintro e FM ⟨v143,rfl,ho0,hb⟩;refine⟨_,rfl,?_⟩;have anY:=aa.mk (Kd.gu ho0 (aN aX));replace Oi:=eF (g:=VW) hb;replace VX:=eF (g:=abx) hb;replace RX:=eF (g:=ath) (o:=.cells #[.string ak,.string au,.int .i64 az,.string aJ,.bool aD,.slice none 0 0,.string (⟨#[]⟩:af)] 31 (0,0)) hb;replace HB:=fw hb;clear hb;(try clear ho0);obtain⟨atl,atm,apZ⟩:=Kd.eD anY.out;subst apZ;have _:=mI RX;have _:=nV RX;have _:=mI Oi;have _:=nV Oi;have _:=mI VX;have _:=nV VX));refine bodyPost_ret (results_cell_row rfl _ _ abx 31 #[.string ak,.string au,.int .i64 az,.string aJ,.bool aD,.slice atl t142.length atm,.string bF] (0,0) _ rfl gBz Tryz.underlying31 rfl dK) rfl ?_;exact⟨_,jv,by(with_reducible repeat(first|apply Kd.cK|apply Kd.cz|apply Kd.dB));exact Cg (Kd.mJ (Kd.mJ anY.out RX.out aA) VX.out aA) (fun _ hk=>trivial),aX⟩


def mi.f (k:Nat) (ak:ByteArray) (au:Int) (az:Int) (fo:List (BX)) (aD:ByteArray) (di:ByteArray) (bF:Int) (ik:ByteArray) (gY:Bool) (dF:List (BX)) (dJ:ByteArray):Option (ByteArray×Int×Int×(List (lq))×ByteArray×ByteArray×Int×ByteArray×Bool×(List (lq))×ByteArray):=(gp.f k fo).bind fun t148=>((xk.f k aD di bF ik gY dF dJ).bind fun Oj=>(some (ak,au,az,t148,Oj.1,Oj.2.1,Oj.2.2.1,Oj.2.2.2.1,Oj.2.2.2.2.1,Oj.2.2.2.2.2.1,Oj.2.2.2.2.2.2)))
theorem mi.calls (k:Nat) (ak:ByteArray) (au az:Int) (oH:Option Addr) (oI:Nat) (fo:List (BX)) (aD di:ByteArray) (bF:Int) (ik:ByteArray) (gY:Bool) (oJ:Option Addr) (oK:Nat) (dF:List (BX)) (dJ r1:ByteArray) (r2 r3:Int) (r4:List (lq)) (r5 r6:ByteArray) (r7:Int) (r8:ByteArray) (r9:Bool) (YX:List (lq)) (r11:ByteArray) (w:World) (pR:Kd.C Tu w oH fo.length fo) (pU:fo.length<=oI) (pV:Kd.C Tu w oJ dF.length dF) (pW:dF.length<=oK) (h:mi.f k ak au az fo aD di bF ik gY dF dJ=some (r1,r2,r3,r4,r5,r6,r7,r8,r9,YX,r11)) :
  Calls Tryz.prog 12 #[.agg #[.string ak,.int .i64 au,.int .i64 az,.slice oH fo.length oI,.string aD,.string di,.int .i64 bF,.string ik,.bool gY,.slice oJ dF.length oK,.string dJ]] w fun e w'=>∃ v3_ v9_:Value,e = .returned (.agg #[.string r1,.int .i64 r2,.int .i64 r3,v3_,.string r5,.string r6,.int .i64 r7,.string r8,.bool r9,v9_,.string r11])/\Kd.R wQ 72 w' w.heap.size (fun k_=>some k_≠(v9_:Value).ownBlock) v3_ r4/\Kd.R wQ 72 w' w.heap.size (fun k_=>some k_≠(v3_:Value).ownBlock) v9_ YX/\Below w.heap.size w w':=by
 have asZ:=Tryz.underlying26;have VP:=Tryz.underlying33;have apQ:=Tryz.underlying24;have QM:=Tryz.underlying31;have C8:=aa.mk pR;have mO:=aa.mk pU;clear pR pU;have yA:=aa.mk pV;have jN:=aa.mk pW;clear pV pW;have HB:=aa.mk (Below.refl w.heap.size w);have H:=aa.mk h;clear h;unfold mi.f at H;obtain⟨t148,A2,H⟩:=nP H;obtain⟨⟨t151,t152,t153,t154,t155,t156,t159⟩,A3,H⟩:=nP H;dsimp only at H;simp only[Option.some.injEq,Prod.mk.injEq] at H;obtain⟨rfl,rfl,rfl,rfl,rfl,rfl,rfl,rfl,rfl,rfl,rfl⟩:=H;go_enter Tryz.func12,Tryz.ntmps12;go_wp2_with(first|((with_reducible refine lT 1 rfl ?_);refine Fp #[.string ak,.int .i64 au,.int .i64 az,.slice oH fo.length oI,.string aD,.string di,.int .i64 bF,.string ik,.bool gY,.slice oJ dF.length oK,.string dJ] 26 ?_;clear HB;intro R3 gG R4 aB0 HB)|((with_reducible refine lT 2 rfl ?_);refine jL #[.string (⟨#[]⟩:af),.int .i64 0,.int .i64 0,.slice none 0 0,.string (⟨#[]⟩:af),.string (⟨#[]⟩:af),.int .i64 0,.string (⟨#[]⟩:af),.bool false,.slice none 0 0,.string (⟨#[]⟩:af)] 33 ?_;intro VY hg jH hbox hb;have R5:=aa.mk (hbox);have aB1:=lJ hg;have R6:=CZ (g:=R3) hg;have ad3:=DL R6;replace R4:=eF (g:=R3) hb;replace HB:=fw hb;clear hb hbox hg)|((with_reducible refine lT 3 rfl ?_);refine jL #[.string (⟨#[]⟩:af),.int .i64 0,.int .i64 0,.slice none 0 0,.string (⟨#[]⟩:af),.string (⟨#[]⟩:af),.int .i64 0,.string (⟨#[]⟩:af),.bool false,.slice none 0 0,.string (⟨#[]⟩:af)] 33 ?_;intro anZ hg mP hbox hb;have IG:=aa.mk (hbox);have aB2:=lJ hg;have R7:=CZ (g:=R3) hg;have ad4:=DL R7;have R8:=CZ (g:=VY) hg;have ad5:=DL R8;replace R4:=eF (g:=R3) hb;replace R5:=eF (g:=VY) hb;replace HB:=fw hb;clear hb hbox hg;have ati:=R6.out;have atj:=ad3.out;have as6:=R7.out;have as7:=ad4.out;have _:=jQ R4;have atn:=ad5.out;have ato:=R8.out;have _:=jQ IG)|((with_reducible refine cZ 34 rfl ?_);refine NL 15 rfl Tryz.func34 (gp.calls k _ _ fo t148 _ (Kd.kV C8.out aX) mO.out A2.out) ?_;rintro e wS ⟨aFk,rfl,ho0,hb⟩;refine⟨_,rfl,?_⟩;have VZ:=aa.mk (Kd.gu ho0 (aN aX));replace R4:=eF (g:=R3) hb;replace R5:=eF (g:=VY) hb;replace IG:=eF (g:=anZ) (o:=.cells #[.string ak,.int .i64 au,.int .i64 az,.slice none 0 0,.string (⟨#[]⟩:af),.string (⟨#[]⟩:af),.int .i64 0,.string (⟨#[]⟩:af),.bool false,.slice none 0 0,.string (⟨#[]⟩:af)] 33 (0,0)) hb;replace HB:=fw hb;clear hb;(try clear ho0);obtain⟨ap0,ap1,ap2⟩:=Kd.eD VZ.out;subst ap2;have _:=jQ IG;have _:=jQ R4)|((with_reducible refine cZ 35 rfl ?_);refine NL 19 rfl Tryz.func35 (xk.calls k aD di bF ik gY _ _ dF dJ t151 t152 t153 t154 t155 t156 t159 _ (Kd.kV yA.out aX) jN.out A3.out) ?_;rintro e uo ⟨v157,rfl,ho0,hb⟩;refine⟨_,rfl,?_⟩;have an0:=aa.mk (Kd.gu (Kd.rq ho0 (Kd.vI (by(with_reducible repeat(first|apply Kd.cK|apply Kd.cz|apply Kd.dB));exact(Cg (Kd.mJ VZ.out IG.out aA) (fun _ h_=>h_.1))))) (aN aX));replace VZ:=aa.mk (Kd.zh (by(with_reducible repeat(first|apply Kd.cK|apply Kd.cz|apply Kd.dB));exact(Cg (Kd.mJ VZ.out IG.out aA) (fun _ h_=>h_.1))) (Kd.qo ho0) hb);replace R4:=eF (g:=R3) hb;replace R5:=eF (g:=VY) hb;replace IG:=eF (g:=anZ) (o:=.cells #[.string ak,.int .i64 au,.int .i64 az,.slice ap0 t148.length ap1,.string (⟨#[]⟩:af),.string (⟨#[]⟩:af),.int .i64 0,.string (⟨#[]⟩:af),.bool false,.slice none 0 0,.string (⟨#[]⟩:af)] 33 (0,0)) hb;replace HB:=fw hb;clear hb;(try clear ho0);have _:=jQ IG;obtain⟨ap3,ap4,ap5⟩:=Kd.eD an0.out;subst ap5;have _:=jQ R5));refine bodyPost_ret (results_cell_row rfl _ _ VY 33 #[.string ak,.int .i64 au,.int .i64 az,.slice ap0 t148.length ap1,.string t151,.string t152,.int .i64 t153,.string t154,.bool t155,.slice ap3 t156.length ap4,.string t159] (0,0) _ rfl gBz Tryz.underlying33 rfl dK) rfl ?_;exact⟨_,_,jv,by(with_reducible repeat(first|apply Kd.cK|apply Kd.cz|apply Kd.dB));exact Cg (Kd.mJ (Kd.mJ VZ.out IG.out aA) R5.out aA) (fun _ hk=>hk.1.1.2),by(with_reducible repeat(first|apply Kd.cK|apply Kd.cz|apply Kd.dB));exact Cg (Kd.mJ (Kd.mJ an0.out IG.out aA) R5.out aA) (fun _ hk=>hk.1.1.2),aX⟩


def lQ.f (ak:ByteArray) (au:ByteArray) (uO:ByteArray) (uP:ByteArray):Option (Bool):=if ak.toList=uO.toList then(if au.toList=uP.toList then(some true) else(some false)) else(some false)
theorem lQ.e0 {p:Prop} (h:p:=by
  obtain rfl:=aI H.out
  go_enter Tryz.func74,Tryz.ntmps74
  go_wp2_with(first|((with_reducible refine lT 2 rfl ?_);refine jL #[.string ak,.string au] 72 ?_;intro R9 hg gG hbox hb;have II:=aa.mk (hbox);have aB3:=lJ hg;replace HB:=fw hb;clear hb hbox hg)|((with_reducible refine lT 3 rfl ?_);refine jL #[.string uO,.string uP] 72 ?_;intro an1 hg wS hbox hb;have K8:=aa.mk (hbox);have an2:=lJ hg;have uV:=CZ (g:=R9) hg;have Bt:=DL uV;replace II:=eF (g:=R9) hb;replace HB:=fw hb;clear hb hbox hg;have aB4:=uV.out;have aB5:=Bt.out;have _:=xc II;have _:=Cf II;have _:=xc K8;have _:=Cf K8)|((with_reducible refine lT 3 rfl ?_);refine jL #[.string uO,.string uP] 72 ?_;intro an1 hg mP hbox hb;have K8:=aa.mk (hbox);have an2:=lJ hg;have uV:=CZ (g:=R9) hg;have Bt:=DL uV;replace II:=eF (g:=R9) hb;replace HB:=fw hb;clear hb hbox hg;have atp:=uV.out;have atq:=Bt.out;have _:=xc II;have _:=Cf II;have _:=xc K8;have _:=Cf K8)|((with_reducible refine lT 3 rfl ?_);refine jL #[.string uO,.string uP] 72 ?_;intro an1 hg jH hbox hb;have K8:=aa.mk (hbox);have an2:=lJ hg;have uV:=CZ (g:=R9) hg;have Bt:=DL uV;replace II:=eF (g:=R9) hb;replace HB:=fw hb;clear hb hbox hg;have ati:=uV.out;have atj:=Bt.out;have _:=xc II;have _:=Cf II;have _:=xc K8;have _:=Cf K8))
  go_ret
  exact⟨jv,aX⟩):p:=h
theorem lQ.calls (ak au:ByteArray) (uO uP:ByteArray) (r:Bool) (w:World) (h:lQ.f ak au uO uP=some r) :
  Calls Tryz.prog 74 #[.agg #[.string ak,.string au],.agg #[.string uO,.string uP]] w fun e w'=>e = .returned (.bool r)/\Below w.heap.size w w':=by
 have Oh:=Tryz.underlying72;have HB:=aa.mk (Below.refl w.heap.size w);have H:=aa.mk h;clear h;unfold lQ.f at H;rcases jw H with⟨c3,-,-,H⟩|⟨c3,-,-,H⟩
 ·obtain⟨cB,nE⟩:=kT c3;clear c3;rcases jw H with⟨c4,-,-,H⟩|⟨c4,-,-,H⟩
  ·obtain⟨jr,qy⟩:=kT c4;clear c4;exact lQ.e0
  ·obtain⟨jr,qy⟩:=kU c4;exact lQ.e0
 ·obtain⟨cB,nE⟩:=kU c3;exact lQ.e0


def cO.l0 : Nat->List (lq)->List (lq)->Int->Option (Bool)
 |0,_,_,_=>none
 |k+1,x0,x1,x5=>if x5<(x0.length:Int) then(if 0<=x5 then(if x5<(x1.length:Int) then((lQ.f ((aV x0 x5).f0) ((aV x0 x5).f1) ((aV x1 x5).f0) ((aV x1 x5).f1)).bind fun ayc=>(if ayc=true then(cO.l0 k x0 x1 (wrap64 (x5+1))) else(some false))) else(none)) else(none)) else(some true)
def cO.f (k:Nat) (l0:List (lq)) (l1:List (lq)):Option (Bool):=if(l0.length:Int)=(l1.length:Int) then(cO.l0 k l0 l1 0) else(some false)
def cO.T6 : Bool×List (List Nat×List Nat):=(true,[([],[]),([],[]),([0,1],[0,1]),([2],[2]),([],[]),([],[]),([4,5],[4,5]),([6],[6]),([3,7],[3,7]),([8],[8])])
def cO.B6 : List Nat:=[0,0,3,7,0,0,48,112,255,511]
theorem cO.af6 : nL .any (opsOf Tryz.f40 6)=cO.T6:=by kernel_rfl
theorem cO.V3 : jf cO.T6.2 cO.B6=true:=by kernel_rfl
theorem cO.calls (k:Nat) (A0:Option Addr) (c0:Nat) (l0:List (lq)) (A1:Option Addr) (c1:Nat) (l1:List (lq)) (r:Bool) (w:World) (hr0:Kd.C wQ w A0 l0.length l0) (hc0:l0.length<=c0) (hr1:Kd.C wQ w A1 l1.length l1) (hc1:l1.length<=c1) (h:cO.f k l0 l1=some r) :
  Calls Tryz.prog 40 #[.slice A0 l0.length c0,.slice A1 l1.length c1] w fun e w'=>e = .returned (.bool r)/\Below w.heap.size w w':=by
 have Oh:=Tryz.underlying72;have wR:=aa.mk hr0;have xw:=aa.mk hc0;clear hr0 hc0;have HR1:=aa.mk hr1;have HC1:=aa.mk hc1;clear hr1 hc1;have HB:=aa.mk (Below.refl w.heap.size w);have H:=aa.mk h;clear h;unfold cO.f at H;rcases jw H with⟨c3,-,-,H⟩|⟨c3,-,-,H⟩
 ·obtain⟨cB,nE⟩:=kT c3;have Mv:(l0.length==l1.length)=true:=by first|simpa using c3|(simp at c3 ⊢;omega)
  clear c3;go_enter Tryz.func40,Tryz.ntmps40;go_wp2;go_loopg [5] k (fun kq v5 w'=>∃(bu:Int),v5 = .int .i64 bu/\aa (cO.l0 kq l0 l1 bu=some r)/\aa (kq<=k)/\aa (Below w.heap.size w w'))
  case atStart=>exact⟨(0),bR,H,⟨Nat.le_refl _⟩,⟨aX⟩⟩
  case round=>
   clear H;try clear c3
   try clear cB
   try clear nE
   try clear Mv
   obtain⟨bu,rfl,HA,ig,HB⟩:=hrel;cases gk with
   |zero=>exact absurd HA.out (by simp[cO.l0])
   |succ k1=>
    have H:=HA;clear HA;simp only[cO.l0] at H;rcases jw H with⟨-,jr,-,H⟩|⟨-,jr,-,H⟩
    ·obtain⟨-,jV,-,H⟩:=nZ H;obtain⟨-,jy,-,H⟩:=nZ H;rcases lu H with⟨A7,H⟩|⟨A7,H⟩
     ·try go_wp2
      replace HB:=aa.mk (bE HB.out);have ZI:0<=(bu:Int):=ay bM;have ZJ:bu<(l0.length:Int):=ay bM;obtain⟨Ol,ap6,vX,vY⟩:=sK wR.out bu ZI ZJ;have yR:=vY;have yS:=vX;cases ap6
      replace vX:=(HB.out.cell (World.block_lt_of_cell? w _ vX)).trans vX;replace vY:=(HB.out.cell (World.block_lt_of_cell? w _ vY)).trans vY;replace ZI:=eq_true ZI;replace ZJ:=eq_true ZJ;have ZK:0<=(bu:Int):=ay bM;have ZL:bu<(l1.length:Int):=ay bM;obtain⟨Om,ap7,vZ,wh⟩:=sK HR1.out bu ZK ZL;have yT:=wh;have yU:=vZ;cases ap7
      replace vZ:=(HB.out.cell (World.block_lt_of_cell? w _ vZ)).trans vZ;replace wh:=(HB.out.cell (World.block_lt_of_cell? w _ wh)).trans wh;replace ZK:=eq_true ZK;replace ZL:=eq_true ZL;refine jP (n:=10) (S:=fun w'=>w'.cell? (Ol.add ((bu).toNat*2))=some (.string ((aV l0 bu).f0))/\w'.cell? ⟨(Ol.add ((bu).toNat*2)).block,(Ol.add ((bu).toNat*2)).off+1,none⟩=some (.string ((aV l0 bu).f1))/\w'.cell? (Om.add ((bu).toNat*2))=some (.string ((aV l1 bu).f0))/\w'.cell? ⟨(Om.add ((bu).toNat*2)).block,(Om.add ((bu).toNat*2)).off+1,none⟩=some (.string ((aV l1 bu).f1))) (ds:=[]) ⟨((HB.out.cell (World.block_lt_of_cell? w _ yS)).trans yS),((HB.out.cell (World.block_lt_of_cell? w _ yR)).trans yR),((HB.out.cell (World.block_lt_of_cell? w _ yU)).trans yU),((HB.out.cell (World.block_lt_of_cell? w _ yT)).trans yT)⟩ (fun hHeld=>?_);refine dw cO.af6 cO.V3 (fun HT_ HW_=>?_);generalize wr.drew=gG at HB vX vY vZ wh hHeld ⊢;repeat(first|refine lC ?_ (hy:=Or.inl ⟨by rfl,asL⟩)|refine dA ?_|(refine fG (fun K hK=>?_);refine jZ Tryz.func74 dK rfl #[.agg #[.string ((aV l0 bu).f0),.string ((aV l0 bu).f1)],.agg #[.string ((aV l1 bu).f0),.string ((aV l1 bu).f1)]] (by rfl) rfl rfl Bd ?_;(with_reducible refine(lQ.calls ((aV l0 bu).f0) ((aV l0 bu).f1) ((aV l1 bu).f0) ((aV l1 bu).f1) true _ A7.out).mono ?_);rintro e jH ⟨rfl,hb⟩;refine⟨_,rfl,?_⟩;replace HB:=fw hb;clear hb;refine hK.out _ _ ⟨((HB.out.cell (World.block_lt_of_cell? w _ yS)).trans yS),((HB.out.cell (World.block_lt_of_cell? w _ yR)).trans yR),((HB.out.cell (World.block_lt_of_cell? w _ yU)).trans yU),((HB.out.cell (World.block_lt_of_cell? w _ yT)).trans yT)⟩ (fun hHeld=>?_);clear hK K;refine bY ?_))
      refine kI (fP HT_.out dK) ?_;try go_wp2
      go_roundg k1
      case measure=>have:=ig.out;omega
      case rel=>exact⟨(wrap64 (bu+1)),bR,H,⟨by have:=ig.out;omega⟩,⟨aX⟩⟩
     ·obtain rfl:=aI H.out;try go_wp2
      replace HB:=aa.mk (bE HB.out);have ZI:0<=(bu:Int):=ay bM;have ZJ:bu<(l0.length:Int):=ay bM;obtain⟨Ol,ap6,vX,vY⟩:=sK wR.out bu ZI ZJ;have yR:=vY;have yS:=vX;cases ap6
      replace vX:=(HB.out.cell (World.block_lt_of_cell? w _ vX)).trans vX;replace vY:=(HB.out.cell (World.block_lt_of_cell? w _ vY)).trans vY;replace ZI:=eq_true ZI;replace ZJ:=eq_true ZJ;have ZK:0<=(bu:Int):=ay bM;have ZL:bu<(l1.length:Int):=ay bM;obtain⟨Om,ap7,vZ,wh⟩:=sK HR1.out bu ZK ZL;have yT:=wh;have yU:=vZ;cases ap7
      replace vZ:=(HB.out.cell (World.block_lt_of_cell? w _ vZ)).trans vZ;replace wh:=(HB.out.cell (World.block_lt_of_cell? w _ wh)).trans wh;replace ZK:=eq_true ZK;replace ZL:=eq_true ZL;refine jP (n:=10) (S:=fun w'=>w'.cell? (Ol.add ((bu).toNat*2))=some (.string ((aV l0 bu).f0))/\w'.cell? ⟨(Ol.add ((bu).toNat*2)).block,(Ol.add ((bu).toNat*2)).off+1,none⟩=some (.string ((aV l0 bu).f1))/\w'.cell? (Om.add ((bu).toNat*2))=some (.string ((aV l1 bu).f0))/\w'.cell? ⟨(Om.add ((bu).toNat*2)).block,(Om.add ((bu).toNat*2)).off+1,none⟩=some (.string ((aV l1 bu).f1))) (ds:=[]) ⟨((HB.out.cell (World.block_lt_of_cell? w _ yS)).trans yS),((HB.out.cell (World.block_lt_of_cell? w _ yR)).trans yR),((HB.out.cell (World.block_lt_of_cell? w _ yU)).trans yU),((HB.out.cell (World.block_lt_of_cell? w _ yT)).trans yT)⟩ (fun hHeld=>?_);refine dw cO.af6 cO.V3 (fun HT_ HW_=>?_);generalize wr.drew=gG at HB vX vY vZ wh hHeld ⊢;repeat(first|refine lC ?_ (hy:=Or.inl ⟨by rfl,asL⟩)|refine dA ?_|(refine fG (fun K hK=>?_);refine jZ Tryz.func74 dK rfl #[.agg #[.string ((aV l0 bu).f0),.string ((aV l0 bu).f1)],.agg #[.string ((aV l1 bu).f0),.string ((aV l1 bu).f1)]] (by rfl) rfl rfl Bd ?_;(with_reducible refine(lQ.calls ((aV l0 bu).f0) ((aV l0 bu).f1) ((aV l1 bu).f0) ((aV l1 bu).f1) false _ A7.out).mono ?_);rintro e mP ⟨rfl,hb⟩;refine⟨_,rfl,?_⟩;replace HB:=fw hb;clear hb;refine hK.out _ _ ⟨((HB.out.cell (World.block_lt_of_cell? w _ yS)).trans yS),((HB.out.cell (World.block_lt_of_cell? w _ yR)).trans yR),((HB.out.cell (World.block_lt_of_cell? w _ yU)).trans yU),((HB.out.cell (World.block_lt_of_cell? w _ yT)).trans yT)⟩ (fun hHeld=>?_);clear hK K;refine bY ?_))
      refine kI (fP HT_.out dK) ?_;try go_wp2
      go_ret;exact⟨jv,aX⟩
    ·obtain rfl:=aI H.out;go_wp2;go_ret;exact⟨jv,aX⟩
 ·obtain⟨cB,nE⟩:=kU c3;have Mv:(l0.length==l1.length)=false:=by first|simpa using c3|(simp at c3 ⊢;omega)
  obtain rfl:=aI H.out;go_enter Tryz.func40,Tryz.ntmps40;go_wp2;go_ret;exact⟨jv,aX⟩


def lv.f (k:Nat) (ak:ByteArray) (au:ByteArray) (az:Int) (aJ:ByteArray) (aD:Bool) (bZ:List (lq)) (bF:ByteArray) (uO:ByteArray) (uP:ByteArray) (zI:Int) (Mw:ByteArray) (uq:Bool) (D7:List (lq)) (ym:ByteArray):Option (Bool):=if ak.toList=uO.toList then(if au.toList=uP.toList then(if az=zI then(if aJ.toList=Mw.toList then(if(aD != uq)=true then(some false) else((cO.f k bZ D7).bind fun ayd=>(if ayd=true then(if bF.toList=ym.toList then(some true) else(some false)) else(some false)))) else(some false)) else(some false)) else(some false)) else(some false)
theorem lv.e0 {p:Prop} (h:p:=by
  obtain rfl:=aI H.out
  go_enter Tryz.func41,Tryz.ntmps41
  go_wp2_with(first|((with_reducible refine lT 2 rfl ?_);refine jL #[.string ak,.string au,.int .i64 az,.string aJ,.bool aD,.slice o8 bZ.length o9,.string bF] 31 ?_;intro wV hg gG hbox hb;have qH:=aa.mk (hbox);have aB6:=lJ hg;replace HB:=fw hb;clear hb hbox hg)|((with_reducible refine lT 3 rfl ?_);refine jL #[.string uO,.string uP,.int .i64 zI,.string Mw,.bool uq,.slice QN D7.length QO,.string ym] 31 ?_;intro IJ hg K7 hbox hb;have qP:=aa.mk (hbox);have Oo:=lJ hg;have jI:=CZ (g:=wV) hg;have mR:=DL jI;replace qH:=eF (g:=wV) hb;replace HB:=fw hb;clear hb hbox hg;have aB7:=jI.out;have aB8:=mR.out;have _:=mI qH;have _:=nV qH;have _:=mI qP;have _:=nV qP)|((with_reducible refine lT 3 rfl ?_);refine jL #[.string uO,.string uP,.int .i64 zI,.string Mw,.bool uq,.slice QN D7.length QO,.string ym] 31 ?_;intro IJ hg VR hbox hb;have qP:=aa.mk (hbox);have Oo:=lJ hg;have jI:=CZ (g:=wV) hg;have mR:=DL jI;replace qH:=eF (g:=wV) hb;replace HB:=fw hb;clear hb hbox hg;have atr:=jI.out;have att:=mR.out;have _:=mI qH;have _:=nV qH;have _:=mI qP;have _:=nV qP)|((with_reducible refine lT 3 rfl ?_);refine jL #[.string uO,.string uP,.int .i64 zI,.string Mw,.bool uq,.slice QN D7.length QO,.string ym] 31 ?_;intro IJ hg ZF hbox hb;have qP:=aa.mk (hbox);have Oo:=lJ hg;have jI:=CZ (g:=wV) hg;have mR:=DL jI;replace qH:=eF (g:=wV) hb;replace HB:=fw hb;clear hb hbox hg;have atu:=jI.out;have atv:=mR.out;have _:=mI qH;have _:=nV qH;have _:=mI qP;have _:=nV qP)|((with_reducible refine lT 3 rfl ?_);refine jL #[.string uO,.string uP,.int .i64 zI,.string Mw,.bool uq,.slice QN D7.length QO,.string ym] 31 ?_;intro IJ hg Kb hbox hb;have qP:=aa.mk (hbox);have Oo:=lJ hg;have jI:=CZ (g:=wV) hg;have mR:=DL jI;replace qH:=eF (g:=wV) hb;replace HB:=fw hb;clear hb hbox hg;have aB9:=jI.out;have aCa:=mR.out;have _:=mI qH;have _:=nV qH;have _:=mI qP;have _:=nV qP)|((with_reducible refine lT 3 rfl ?_);refine jL #[.string uO,.string uP,.int .i64 zI,.string Mw,.bool uq,.slice QN D7.length QO,.string ym] 31 ?_;intro IJ hg Af hbox hb;have qP:=aa.mk (hbox);have Oo:=lJ hg;have jI:=CZ (g:=wV) hg;have mR:=DL jI;replace qH:=eF (g:=wV) hb;replace HB:=fw hb;clear hb hbox hg;have aCb:=jI.out;have aCc:=mR.out;have _:=mI qH;have _:=nV qH;have _:=mI qP;have _:=nV qP)|((with_reducible refine cZ 40 rfl ?_);refine iW 34 rfl Tryz.func40 (cO.calls k _ _ bZ _ _ D7 false _ zs0 oh.out zs3 an3.out K5.out) fun Cu hb HB=>?_;replace qH:=eF (g:=wV) hb;replace qP:=eF (g:=IJ) hb;clear hb)|((with_reducible refine lT 3 rfl ?_);refine jL #[.string uO,.string uP,.int .i64 zI,.string Mw,.bool uq,.slice QN D7.length QO,.string ym] 31 ?_;intro IJ hg uo hbox hb;have qP:=aa.mk (hbox);have Oo:=lJ hg;have jI:=CZ (g:=wV) hg;have mR:=DL jI;replace qH:=eF (g:=wV) hb;replace HB:=fw hb;clear hb hbox hg;have as0:=jI.out;have as1:=mR.out;have _:=mI qH;have _:=nV qH;have _:=mI qP;have _:=nV qP)|((with_reducible refine lT 3 rfl ?_);refine jL #[.string uO,.string uP,.int .i64 zI,.string Mw,.bool uq,.slice QN D7.length QO,.string ym] 31 ?_;intro IJ hg mP hbox hb;have qP:=aa.mk (hbox);have Oo:=lJ hg;have jI:=CZ (g:=wV) hg;have mR:=DL jI;replace qH:=eF (g:=wV) hb;replace HB:=fw hb;clear hb hbox hg;have af7:=jI.out;have af8:=mR.out;have _:=mI qH;have _:=nV qH;have _:=mI qP;have _:=nV qP)|((with_reducible refine cZ 40 rfl ?_);refine iW 34 rfl Tryz.func40 (cO.calls k _ _ bZ _ _ D7 true _ zs0 oh.out zs3 an3.out K5.out) fun wS hb HB=>?_;replace qH:=eF (g:=wV) hb;replace qP:=eF (g:=IJ) hb;clear hb;have _:=mI qH;have _:=nV qH;have _:=mI qP;have _:=nV qP)|((with_reducible refine lT 3 rfl ?_);refine jL #[.string uO,.string uP,.int .i64 zI,.string Mw,.bool uq,.slice QN D7.length QO,.string ym] 31 ?_;intro IJ hg jH hbox hb;have qP:=aa.mk (hbox);have Oo:=lJ hg;have jI:=CZ (g:=wV) hg;have mR:=DL jI;replace qH:=eF (g:=wV) hb;replace HB:=fw hb;clear hb hbox hg;have atn:=jI.out;have ato:=mR.out;have _:=mI qH;have _:=nV qH;have _:=mI qP;have _:=nV qP))
  go_ret
  exact⟨jv,aX⟩):p:=h
theorem lv.calls (k:Nat) (ak au:ByteArray) (az:Int) (aJ:ByteArray) (aD:Bool) (o8:Option Addr) (o9:Nat) (bZ:List (lq)) (bF uO uP:ByteArray) (zI:Int) (Mw:ByteArray) (uq:Bool) (QN:Option Addr) (QO:Nat) (D7:List (lq)) (ym:ByteArray) (r:Bool) (w:World) (qY:Kd.C wQ w o8 bZ.length bZ) (qZ:bZ.length<=o9) (an4:Kd.C wQ w QN D7.length D7) (an5:D7.length<=QO) (h:lv.f k ak au az aJ aD bZ bF uO uP zI Mw uq D7 ym=some r) :
  Calls Tryz.prog 41 #[.agg #[.string ak,.string au,.int .i64 az,.string aJ,.bool aD,.slice o8 bZ.length o9,.string bF],.agg #[.string uO,.string uP,.int .i64 zI,.string Mw,.bool uq,.slice QN D7.length QO,.string ym]] w fun e w'=>e = .returned (.bool r)/\Below w.heap.size w w':=by
 have QM:=Tryz.underlying31;have DN:=aa.mk qY;have oh:=aa.mk qZ;clear qY qZ;have asM:=aa.mk an4;have an3:=aa.mk an5;clear an4 an5;have HB:=aa.mk (Below.refl w.heap.size w);have H:=aa.mk h;clear h;unfold lv.f at H;rcases jw H with⟨c3,-,-,H⟩|⟨c3,-,-,H⟩
 ·obtain⟨cB,nE⟩:=kT c3;clear c3;rcases jw H with⟨c4,-,-,H⟩|⟨c4,-,-,H⟩
  ·obtain⟨jr,qy⟩:=kT c4;clear c4;rcases jw H with⟨c5,-,-,H⟩|⟨c5,-,-,H⟩
   ·obtain⟨jV,rO⟩:=kT c5;clear c5;rcases jw H with⟨c6,-,-,H⟩|⟨c6,-,-,H⟩
    ·obtain⟨jy,pq⟩:=kT c6;clear c6;rcases jw H with⟨c7,-,-,H⟩|⟨c7,-,-,H⟩
     ·have nR:(aD != uq)=true:=c7;(try(have Ag:decide (aD=uq)=false:=by simpa using c7))
      (try(have ap8:(aD==uq)=false:=by simpa using c7))
      (try(have aj3:¬ (aD=uq):=by simpa using c7))
      clear c7;exact lv.e0
     ·have nR:(aD != uq)=false:=by simpa using c7
      (try(have Ag:decide (aD=uq)=true:=by simpa using c7))
      (try(have ap8:(aD==uq)=true:=by simpa using c7))
      clear c7;rcases lu H with⟨K5,H⟩|⟨K5,H⟩
      ·rcases jw H with⟨c15,-,-,H⟩|⟨c15,-,-,H⟩
       ·obtain⟨sQ,Dh⟩:=kT c15;clear c15;exact lv.e0
       ·obtain⟨sQ,Dh⟩:=kU c15;exact lv.e0
      ·exact lv.e0
    ·obtain⟨jy,pq⟩:=kU c6;exact lv.e0
   ·obtain⟨jV,rO⟩:=kU c5;exact lv.e0
  ·obtain⟨jr,qy⟩:=kU c4;exact lv.e0
 ·obtain⟨cB,nE⟩:=kU c3;exact lv.e0


def kv.f (k:Nat) (ak:ByteArray) (au:Int) (az:Int) (fo:List (lq)) (aD:ByteArray) (di:ByteArray) (bF:Int) (ik:ByteArray) (gY:Bool) (dF:List (lq)) (dJ:ByteArray) (uO:ByteArray) (uP:Int) (zI:Int) (Gz:List (lq)) (uq:ByteArray) (Mx:ByteArray) (ym:Int) (MB:ByteArray) (MC:Bool) (GA:List (lq)) (Di:ByteArray):Option (Bool):=if ak.toList=uO.toList then(if au=uP then(if az=zI then((cO.f k fo Gz).bind fun aye=>(if aye=true then((lv.f k aD di bF ik gY dF dJ uq Mx ym MB MC GA Di).bind fun ayf=>(if ayf=true then(some true) else(some false))) else(some false))) else(some false)) else(some false)) else(some false)
theorem kv.e0 {p:Prop} (h:p:=by
  obtain rfl:=aI H.out
  go_enter Tryz.func14,Tryz.ntmps14
  go_wp2_with(first|((with_reducible refine lT 2 rfl ?_);refine jL #[.string ak,.int .i64 au,.int .i64 az,.slice oH fo.length oI,.string aD,.string di,.int .i64 bF,.string ik,.bool gY,.slice oJ dF.length oK,.string dJ] 33 ?_;intro yD hg gG hbox hb;have xO:=aa.mk (hbox);have aCd:=lJ hg;replace HB:=fw hb;clear hb hbox hg)|((with_reducible refine lT 3 rfl ?_);refine jL #[.string uO,.int .i64 uP,.int .i64 zI,.slice V4 Gz.length V5,.string uq,.string Mx,.int .i64 ym,.string MB,.bool MC,.slice V6 GA.length V7,.string Di] 33 ?_;intro IK hg K7 hbox hb;have yE:=aa.mk (hbox);have V8:=lJ hg;have lY:=CZ (g:=yD) hg;have qQ:=DL lY;replace xO:=eF (g:=yD) hb;replace HB:=fw hb;clear hb hbox hg;have aCe:=lY.out;have aCf:=qQ.out;have _:=jQ xO;have _:=jQ yE)|((with_reducible refine lT 3 rfl ?_);refine jL #[.string uO,.int .i64 uP,.int .i64 zI,.slice V4 Gz.length V5,.string uq,.string Mx,.int .i64 ym,.string MB,.bool MC,.slice V6 GA.length V7,.string Di] 33 ?_;intro IK hg VR hbox hb;have yE:=aa.mk (hbox);have V8:=lJ hg;have lY:=CZ (g:=yD) hg;have qQ:=DL lY;replace xO:=eF (g:=yD) hb;replace HB:=fw hb;clear hb hbox hg;have aCg:=lY.out;have aCh:=qQ.out;have _:=jQ xO;have _:=jQ yE)|((with_reducible refine lT 3 rfl ?_);refine jL #[.string uO,.int .i64 uP,.int .i64 zI,.slice V4 Gz.length V5,.string uq,.string Mx,.int .i64 ym,.string MB,.bool MC,.slice V6 GA.length V7,.string Di] 33 ?_;intro IK hg ZF hbox hb;have yE:=aa.mk (hbox);have V8:=lJ hg;have lY:=CZ (g:=yD) hg;have qQ:=DL lY;replace xO:=eF (g:=yD) hb;replace HB:=fw hb;clear hb hbox hg;have atw:=lY.out;have atx:=qQ.out;have _:=jQ xO;have _:=jQ yE)|((with_reducible refine lT 3 rfl ?_);refine jL #[.string uO,.int .i64 uP,.int .i64 zI,.slice V4 Gz.length V5,.string uq,.string Mx,.int .i64 ym,.string MB,.bool MC,.slice V6 GA.length V7,.string Di] 33 ?_;intro IK hg Cu hbox hb;have yE:=aa.mk (hbox);have V8:=lJ hg;have lY:=CZ (g:=yD) hg;have qQ:=DL lY;replace xO:=eF (g:=yD) hb;replace HB:=fw hb;clear hb hbox hg;have aCi:=lY.out;have aCj:=qQ.out;have _:=jQ xO;have _:=jQ yE)|((with_reducible refine cZ 40 rfl ?_);refine iW 24 rfl Tryz.func40 (cO.calls k _ _ fo _ _ Gz false _ Qo mO.out zs4 an6.out A6.out) fun Kb hb HB=>?_;replace xO:=eF (g:=yD) hb;replace yE:=eF (g:=IK) hb;clear hb)|((with_reducible refine lT 3 rfl ?_);refine jL #[.string uO,.int .i64 uP,.int .i64 zI,.slice V4 Gz.length V5,.string uq,.string Mx,.int .i64 ym,.string MB,.bool MC,.slice V6 GA.length V7,.string Di] 33 ?_;intro IK hg uo hbox hb;have yE:=aa.mk (hbox);have V8:=lJ hg;have lY:=CZ (g:=yD) hg;have qQ:=DL lY;replace xO:=eF (g:=yD) hb;replace HB:=fw hb;clear hb hbox hg;have aCk:=lY.out;have aCl:=qQ.out;have _:=jQ xO;have _:=jQ yE)|((with_reducible refine lT 3 rfl ?_);refine jL #[.string uO,.int .i64 uP,.int .i64 zI,.slice V4 Gz.length V5,.string uq,.string Mx,.int .i64 ym,.string MB,.bool MC,.slice V6 GA.length V7,.string Di] 33 ?_;intro IK hg jH hbox hb;have yE:=aa.mk (hbox);have V8:=lJ hg;have lY:=CZ (g:=yD) hg;have qQ:=DL lY;replace xO:=eF (g:=yD) hb;replace HB:=fw hb;clear hb hbox hg;have atp:=lY.out;have atq:=qQ.out;have _:=jQ xO;have _:=jQ yE)|((with_reducible refine cZ 40 rfl ?_);refine iW 24 rfl Tryz.func40 (cO.calls k _ _ fo _ _ Gz true _ Qo mO.out zs4 an6.out A6.out) fun mP hb HB=>?_;replace xO:=eF (g:=yD) hb;replace yE:=eF (g:=IK) hb;clear hb;have _:=jQ xO;have _:=jQ yE)|((with_reducible refine cZ 41 rfl ?_);refine iW 30 rfl Tryz.func41 (lv.calls k aD di bF ik gY _ _ dF dJ uq Mx ym MB MC _ _ GA Di false _ Ch jN.out zs5 an7.out A8.out) fun Af hb HB=>?_;replace xO:=eF (g:=yD) hb;replace yE:=eF (g:=IK) hb;clear hb)|((with_reducible refine cZ 41 rfl ?_);refine iW 30 rfl Tryz.func41 (lv.calls k aD di bF ik gY _ _ dF dJ uq Mx ym MB MC _ _ GA Di true _ Ch jN.out zs5 an7.out A8.out) fun wS hb HB=>?_;replace xO:=eF (g:=yD) hb;replace yE:=eF (g:=IK) hb;clear hb))
  go_ret
  exact⟨jv,aX⟩):p:=h
theorem kv.calls (k:Nat) (ak:ByteArray) (au az:Int) (oH:Option Addr) (oI:Nat) (fo:List (lq)) (aD di:ByteArray) (bF:Int) (ik:ByteArray) (gY:Bool) (oJ:Option Addr) (oK:Nat) (dF:List (lq)) (dJ uO:ByteArray) (uP zI:Int) (V4:Option Addr) (V5:Nat) (Gz:List (lq)) (uq Mx:ByteArray) (ym:Int) (MB:ByteArray) (MC:Bool) (V6:Option Addr) (V7:Nat) (GA:List (lq)) (Di:ByteArray) (r:Bool) (w:World) (pR:Kd.C wQ w oH fo.length fo) (pU:fo.length<=oI) (pV:Kd.C wQ w oJ dF.length dF) (pW:dF.length<=oK) (an8:Kd.C wQ w V4 Gz.length Gz) (an9:Gz.length<=V5) (aoa:Kd.C wQ w V6 GA.length GA) (aob:GA.length<=V7) (h:kv.f k ak au az fo aD di bF ik gY dF dJ uO uP zI Gz uq Mx ym MB MC GA Di=some r) :
  Calls Tryz.prog 14 #[.agg #[.string ak,.int .i64 au,.int .i64 az,.slice oH fo.length oI,.string aD,.string di,.int .i64 bF,.string ik,.bool gY,.slice oJ dF.length oK,.string dJ],.agg #[.string uO,.int .i64 uP,.int .i64 zI,.slice V4 Gz.length V5,.string uq,.string Mx,.int .i64 ym,.string MB,.bool MC,.slice V6 GA.length V7,.string Di]] w fun e w'=>e = .returned (.bool r)/\Below w.heap.size w w':=by
 have VP:=Tryz.underlying33;have QM:=Tryz.underlying31;have C8:=aa.mk pR;have mO:=aa.mk pU;clear pR pU;have yA:=aa.mk pV;have jN:=aa.mk pW;clear pV pW;have asN:=aa.mk an8;have an6:=aa.mk an9;clear an8 an9;have asO:=aa.mk aoa;have an7:=aa.mk aob;clear aoa aob;have HB:=aa.mk (Below.refl w.heap.size w);have H:=aa.mk h;clear h;unfold kv.f at H;rcases jw H with⟨c3,-,-,H⟩|⟨c3,-,-,H⟩
 ·obtain⟨cB,nE⟩:=kT c3;clear c3;rcases jw H with⟨c4,-,-,H⟩|⟨c4,-,-,H⟩
  ·obtain⟨jr,qy⟩:=kT c4;clear c4;rcases jw H with⟨c5,-,-,H⟩|⟨c5,-,-,H⟩
   ·obtain⟨jV,rO⟩:=kT c5;clear c5;rcases lu H with⟨A6,H⟩|⟨A6,H⟩
    ·rcases lu H with⟨A8,H⟩|⟨A8,H⟩
     ·exact kv.e0
     ·exact kv.e0
    ·exact kv.e0
   ·obtain⟨jV,rO⟩:=kU c5;exact kv.e0
  ·obtain⟨jr,qy⟩:=kU c4;exact kv.e0
 ·obtain⟨cB,nE⟩:=kU c3;exact kv.e0

end Go.Proofs.YtfhllanhldbkkaaGreatDoor.P
