import Derived.Test.YtfhllanhldbkkaaGreatDoorPxspec05b
set_option maxHeartbeats 8000000
set_option maxRecDepth 100000
namespace Go.Proofs.YtfhllanhldbkkaaGreatDoor.P
open Go.RowKit Go.Proofs.YtfhllanhldbkkaaGreatDoorW.aW Go.Proofs.YtfhllanhldbkkaaGreatDoorW.eQ Go.Proofs.YtfhllanhldbkkaaGreatDoorW.fO
attribute [local go_sem] kV kW mE mF jP jQ kX kY dZ E8 E9 Fa Fb oU oV
set_option linter.unusedVariables false
set_option linter.unusedSimpArgs false

mutual
def aU.l0 : Nat->ByteArray->List Int->Int->Option (ByteArray)
 |0,_,_,_=>none
 |k+1,x0,x3,x4=>if x4<(x0.size:Int) then(if 0<=x4 then(if(bt x0 x4)=37 then(aU.j1 k x0 x3 x4 (decide ((wrap64 (x4+2))>=(x0.size:Int)))) else(aU.j1 k x0 x3 x4 true)) else(none)) else(some (strOfNums x3))
def aU.j1 : Nat->ByteArray->List Int->Int->Bool->Option (ByteArray)
 |0,_,_,_,_=>none
 |k+1,x0,x3,x4,x23=>if x23=true then(if 0<=x4 then(if x4<(x0.size:Int) then(if x3.length<140737488355328 then(aU.l0 k x0 (x3 ++ [bt x0 x4]) (wrap64 (x4+1))) else(none)) else(none)) else(none)) else(if 0<=(wrap64 (x4+1)) then(if(wrap64 (x4+1))<=(wrap64 (x4+3)) then(if(wrap64 (x4+3))<=(x0.size:Int) then((dM.f k (x0.extract ((wrap64 (x4+1)):Int).toNat ((wrap64 (x4+3)):Int).toNat)).bind fun akW=>(if akW.2=true then((kC.f k ((akW.1)%256)).bind fun t246=>(if t246=true then(if x3.length<140737488355328 then(aU.l0 k x0 (x3 ++ [(akW.1)%256]) (wrap64 ((wrap64 (x4+2))+1))) else(none)) else(if(wrap64 (x4+1))<(x0.size:Int) then((nC.f (bt x0 (wrap64 (x4+1)))).bind fun acs=>(if 0<=(wrap64 (x4+2)) then(if(wrap64 (x4+2))<(x0.size:Int) then((nC.f (bt x0 (wrap64 (x4+2)))).bind fun acu=>((some (([37,acs,acu]:List Int):List Int)).bind fun acv=>(if x3.length+acv.length<140737488355328 then(aU.l0 k x0 (x3++acv) (wrap64 ((wrap64 (x4+2))+1))) else(none)))) else(none)) else(none))) else(none)))) else(if 0<=x4 then(if x4<(x0.size:Int) then(if x3.length<140737488355328 then(aU.l0 k x0 (x3 ++ [bt x0 x4]) (wrap64 (x4+1))) else(none)) else(none)) else(none)))) else(none)) else(none)) else(none))
end
def aU.f (k:Nat) (a0:ByteArray):Option (ByteArray):=aU.l0 k a0 ([]:List Int) 0
def aU.T8 : Bool×List (List Nat×List Nat):=(true,[([],[]),([],[]),([],[]),([2],[2]),([1,3],[1,3]),([4],[4]),([],[]),([],[]),([7],[7]),([6,8],[6,8]),([9,5],[9]),([5,10],[5,10]),([0,11,10],[0,11]),([12,12,0,1,2,3,4,5,6,7,8,9,10,11,12],[0,12])])
def aU.B8 : List Nat:=[0,0,0,4,14,30,0,0,128,448,1022,2046,4095,8191]
theorem aU.aEh : pX .any (opsOf Tryz.f182 8)=aU.T8:=by kernel_rfl
theorem aU.ayN : jK aU.T8.2 aU.B8=true:=by kernel_rfl
theorem aU.calls (k:Nat) (a0 r:ByteArray) (w:World) (h:aU.f k a0=some r) :
  Calls Tryz.prog 182 #[.string a0] w fun e w'=>e = .returned (.string r)/\Below w.heap.size w w':=by
 have HB:=ae.mk (Below.refl w.heap.size w);have H:=h;clear h;unfold aU.f at H;replace H:=ae.mk H;go_enter Tryz.func182,Tryz.ntmps182;go_wp2;go_loopg [3,4] k (fun kq v3 v4 w'=>∃(jD:List Int) (gJ:Int),v4 = .int .i64 gJ/\ae (aU.l0 kq a0 jD gJ=some r)/\ae (kq<=k)/\ae (Kd.R (Kd.int .u8) 5 w' w.heap.size (fun _=>True) v3 jD)/\ae (Below w.heap.size w w'))
 case atStart=>exact⟨(([]:List Int)),(0),kD,H,⟨Nat.le_refl _⟩,⟨Pe⟩,⟨dL⟩⟩
 case round=>
  clear H;obtain⟨jD,gJ,rfl,HA,mh,jY,HB⟩:=hrel;cases gk with
  |zero=>exact absurd HA.out (by simp[aU.l0])
  |succ k1=>
   have H:=HA.out;clear HA;simp only[aU.l0] at H;replace H:=gI H;rcases H with⟨-,xU,-,H⟩|⟨-,xU,-,H⟩
   ·have HC3:=ae.mk H;clear H;go_upto_region 5 with(fail);go_cut [23] (fun v23 wc=>∃(kq:Nat) (Vx:Bool),v23 = .bool Vx/\ae (aU.j1 kq a0 jD gJ Vx=some r)/\ae (kq<=k1)/\ae (Kd.R (Kd.int .u8) 5 wc w.heap.size (fun _=>True) u3 jD)/\ae (Below w.heap.size w wc))
    case first=>
     have H:=HC3.out;clear HC3;replace H:=gN H;obtain⟨-,yE,-,H⟩:=H;(first|rw[yE]|(simp only[jJ,lY];rw[yE])|skip)
     replace H:=gI H;rcases H with⟨c6,-,-,H⟩|⟨c6,-,-,H⟩
     ·obtain⟨xV,M8⟩:=Cu c6;clear c6;replace H:=ae.mk H;have p5:0<=(gJ:Int):=aX gq;have q5:gJ<(a0.size:Int):=aX gq;have hx5:=dZ a0 gJ;replace p5:=eq_true p5;replace q5:=eq_true q5;go_wp2;go_meet
      case rel=>exact⟨_,(decide ((wrap64 (gJ+2))>=(a0.size:Int))),kD,H,⟨aai⟩,⟨wh⟩,⟨dL⟩⟩
     ·obtain⟨xV,M8⟩:=Di c6;replace H:=ae.mk H;have p5:0<=(gJ:Int):=aX gq;have q5:gJ<(a0.size:Int):=aX gq;have hx5:=dZ a0 gJ;replace p5:=eq_true p5;replace q5:=eq_true q5;go_wp2;go_meet
      case rel=>exact⟨_,(true),kD,H,⟨aai⟩,⟨wh⟩,⟨dL⟩⟩
    case rest=>
     clear HC3;try clear xU
     obtain⟨kq,Vx,rfl,HA,HJ2,jY,HB⟩:=hcut;cases kq with
     |zero=>exact absurd HA.out (by simp[aU.j1])
     |succ Oj=>
      have H:=HA.out;clear HA;simp only[aU.j1] at H;replace H:=gB H;rcases H with⟨rfl,H⟩|⟨rfl,H⟩
      ·replace H:=gN H;obtain⟨-,zS,-,H⟩:=H;replace H:=gN H;obtain⟨-,LH,-,H⟩:=H;replace H:=gN H;obtain⟨c11,-,-,H⟩:=H;have aaM:=ae.mk c11;clear c11;obtain⟨ayO,acw⟩:∃ y_:List Int,y_=(jD ++ [bt a0 gJ]):=⟨_,rfl⟩;replace H:(aU.l0 Oj a0 ayO (wrap64 (gJ+1)))=some r:=by first|(rw[acw];with_reducible exact H)|(have mW:=(aj _ _).symm.trans H;rw[acw];with_reducible exact mW)|(have mW:=(aj _ _).symm.trans H;with_reducible exact mW)|with_reducible exact H|(rw[acw];exact H)|exact H
       have ayP:=ae.mk acw;clear acw;replace H:=ae.mk H;have p10:0<=(gJ:Int):=aX gq;have q10:gJ<(a0.size:Int):=aX gq;have aBr:=dZ a0 gJ;replace p10:=eq_true p10;replace q10:=eq_true q10;go_wp2_with(((with_reducible refine iF (b:=.append) (xs:=#[.tmp 24,.tmp 28]) rfl ?_);(try(refine mH (by rfl) ?_;dsimp only));at_builtin;refine Kd.mG (Kd.int .u8) (w0:=w) w.heap.size rfl (.tmp 24) (.tmp 28) 100 5 (.int .u8 0) 1 rfl Tryz.underlying100 info5 rfl av aa u3 jD (bt a0 gJ) [.int .u8 (bt a0 gJ)] (fun _=>True) (fun _=>False) rfl rfl ?aP (fun _ hk=>hk.elim) ?aF ?aO ?aB ?aS ?aL ?_;(case aP=>exact rfl);(case aB=>exact dL);(case aF=>exact(fun _ _=>trivial));(case aO=>exact SG);(case aS=>exact(bq dL));(case aL=>have:=aaM.out;omega);intro aJF mo ho hb hg hat;rw[<- ayP.out] at ho;have LX:=ae.mk (hb);have LY:=ae.mk (ho);clear HB;clear jY;have HB:=LX;have aHO:=LY;clear LX LY;clear ho hb hg hat));go_roundg Oj
       case measure=>have:=mh.out;have:=HJ2.out;omega
       case rel=>exact⟨(ayO),(wrap64 (gJ+1)),kD,H,⟨ac1⟩,⟨wh⟩,⟨dL⟩⟩
      ·obtain⟨Qm,aak⟩:∃ j_:Int,(wrap64 (gJ+1))=j_:=⟨_,rfl⟩;(first|rw[aak] at H|simp only[aak] at H ⊢)
       have aEi:(IntKind.i64.wrap (gJ+1))=Qm:=(jJ _).trans aak;replace H:=gN H;obtain⟨-,R5,FV,H⟩:=H;replace H:=gN H;obtain⟨c15,Vm,Cj,H⟩:=H;replace H:=gN H;obtain⟨c16,KX,DD,H⟩:=H;replace H:=gD H;obtain⟨⟨t244,t245⟩,ZZ,H⟩:=H;dsimp only at H;replace H:=gB H;rcases H with⟨rfl,H⟩|⟨rfl,H⟩
       ·replace H:=WU H;rcases H with⟨A19,H⟩|⟨A19,H⟩
        ·replace H:=gN H;obtain⟨c21,-,-,H⟩:=H;have ayQ:=ae.mk c21;clear c21;obtain⟨ayR,acx⟩:∃ y_:List Int,y_=(jD ++ [(t244)%256]):=⟨_,rfl⟩;replace H:(aU.l0 Oj a0 ayR (wrap64 ((wrap64 (gJ+2))+1)))=some r:=by first|(rw[acx];with_reducible exact H)|(have mW:=(aj _ _).symm.trans H;rw[acx];with_reducible exact mW)|(have mW:=(aj _ _).symm.trans H;with_reducible exact mW)|with_reducible exact H|(rw[acx];exact H)|exact H
         have ayS:=ae.mk acx;clear acx;replace H:=ae.mk H;go_wp2_with(first|((with_reducible refine lS 211 rfl ?_);refine wC (some 37) rfl rfl Tryz.func211 eB rfl #[.string (a0.extract ((Qm):Int).toNat ((wrap64 (gJ+3)):Int).toNat)] rfl alm ?_;(with_reducible refine(dM.calls Oj (a0.extract ((Qm):Int).toNat ((wrap64 (gJ+3)):Int).toNat) t244 true _ ZZ.out).mono ?_);rintro e w' ⟨rfl,⟨nd,rfl⟩⟩;refine⟨_,rfl,?_⟩)|((with_reducible refine lS 212 rfl ?_);refine MW 65 rfl Tryz.func212 (kC.calls Oj ((t244)%256) true _ A19.out) fun nd=>?_)|((with_reducible refine iF (b:=.append) (xs:=#[.tmp 66,.tmp 69]) rfl ?_);(try(refine mH (by rfl) ?_;dsimp only));at_builtin;refine Kd.mG (Kd.int .u8) (w0:=w) w.heap.size rfl (.tmp 66) (.tmp 69) 100 5 (.int .u8 0) 1 rfl Tryz.underlying100 info5 rfl av aa u3 jD ((t244)%256) [.int .u8 ((t244)%256)] (fun _=>True) (fun _=>False) rfl rfl ?aP (fun _ hk=>hk.elim) ?aF ?aO ?aB ?aS ?aL ?_;(case aP=>exact rfl);(case aB=>exact dL);(case aF=>exact(fun _ _=>trivial));(case aO=>exact SG);(case aS=>exact(bq dL));(case aL=>have:=ayQ.out;omega);intro aJG mV ho hb hg hat;rw[<- ayS.out] at ho;have LZ:=ae.mk (hb);have L6:=ae.mk (ho);clear HB;clear jY;have HB:=LZ;have aHP:=L6;clear LZ L6;clear ho hb hg hat));go_roundg Oj
         case measure=>have:=mh.out;have:=HJ2.out;omega
         case rel=>exact⟨(ayR),(wrap64 ((wrap64 (gJ+2))+1)),kD,H,⟨ac1⟩,⟨wh⟩,⟨dL⟩⟩
        ·replace H:=gN H;obtain⟨-,XX,-,H⟩:=H;replace H:=gD H;obtain⟨acs,A25,H⟩:=H;obtain⟨ZM,Sv⟩:∃ j_:Int,(wrap64 (gJ+2))=j_:=⟨_,rfl⟩;(first|rw[Sv] at H|simp only[Sv] at H ⊢)
         (try rw[Sv] at ZZ)
         (try rw[Sv] at A19)
         (try rw[Sv] at A25)
         have aEj:(IntKind.i64.wrap (gJ+2))=ZM:=(jJ _).trans Sv;replace H:=gN H;obtain⟨-,Sa,-,H⟩:=H;replace H:=gN H;obtain⟨-,ae1,-,H⟩:=H;replace H:=gD H;obtain⟨acu,A30,H⟩:=H;obtain⟨acv,acy⟩:∃ y_:List Int,y_=(([37,acs,acu]:List Int)):=⟨_,rfl⟩;replace H:(if jD.length+acv.length<140737488355328 then(aU.l0 Oj a0 (jD++acv) (wrap64 ((ZM)+1))) else(none))=some r:=by first|(rw[acy];with_reducible exact H)|(have mW:=(aj _ _).symm.trans H;rw[acy];with_reducible exact mW)|(have mW:=(aj _ _).symm.trans H;with_reducible exact mW)|with_reducible exact H|(rw[acy];exact H)|exact H
         have arf:=ae.mk acy;clear acy;replace H:=gN H;obtain⟨c31,-,-,H⟩:=H;have ayT:=ae.mk c31;clear c31;obtain⟨ayU,acz⟩:∃ y_:List Int,y_=(jD++acv):=⟨_,rfl⟩;replace H:(aU.l0 Oj a0 ayU (wrap64 ((ZM)+1)))=some r:=by first|(rw[acz];with_reducible exact H)|(have mW:=(aj _ _).symm.trans H;rw[acz];with_reducible exact mW)|(have mW:=(aj _ _).symm.trans H;with_reducible exact mW)|with_reducible exact H|(rw[acz];exact H)|exact H
         have ayV:=ae.mk acz;clear acz;replace H:=ae.mk H;try go_wp2_with(first|((with_reducible refine lS 211 rfl ?_);refine wC (some 37) rfl rfl Tryz.func211 eB rfl #[.string (a0.extract ((Qm):Int).toNat ((wrap64 (gJ+3)):Int).toNat)] rfl alm ?_;(with_reducible refine(dM.calls Oj (a0.extract ((Qm):Int).toNat ((wrap64 (gJ+3)):Int).toNat) t244 true _ ZZ.out).mono ?_);rintro e w' ⟨rfl,⟨nd,rfl⟩⟩;refine⟨_,rfl,?_⟩)|((with_reducible refine lS 212 rfl ?_);refine MW 65 rfl Tryz.func212 (kC.calls Oj ((t244)%256) false _ A19.out) fun nd=>?_))
         (try(rw[qW wc];generalize hq_:World.drewN wc _=wc;have yJ:ae (Kd.R (Kd.int .u8) 5 wc w.heap.size (fun _=>True) u3 jD):=⟨by rw[<- hq_];exact SG⟩;have xY:ae (Below w.heap.size w wc):=⟨by rw[<- hq_];exact dL⟩;clear jY HB hq_;have jY:=yJ;have HB:=xY;clear yJ xY))
         replace jY:=ae.mk (Kd.bV jY.out);replace HB:=ae.mk (bn HB.out);have p24:0<=((Qm):Int):=aX gq;have q24:(Qm)<(a0.size:Int):=aX gq;have hx24:=dZ a0 (Qm);replace p24:=eq_true p24;replace q24:=eq_true q24;have p29:0<=((ZM):Int):=aX gq;have q29:(ZM)<(a0.size:Int):=aX gq;have hx29:=dZ a0 (ZM);replace p29:=eq_true p29;replace q29:=eq_true q29;refine kJ (n:=14) (S:=fun w'=>True) (ds:=[]) trivial (fun hHeld=>?_);refine dY aU.aEh aU.ayN (fun HT_ HW_=>?_);generalize wc.drew=Og at jY HB hHeld ⊢;repeat(first|refine mr ?_ (hy:=Or.inl ⟨by rfl,by intro w' _;go_simp;with_reducible rfl⟩)|refine ek ?_)
         refine bN 6 (some 46) ?_;refine bN 7 (some 47) ?_;refine bN 8 (some 48) ?_;refine fQ 9 (some 49) (hy:=Or.inl ⟨by rfl,by intro w' _;go_simp;with_reducible rfl⟩) ?_;refine gV (fun K hK=>?_);refine lQ Tryz.func213 eB rfl #[.int .u8 (bt a0 (Qm))] (by rfl) rfl rfl alm ?_;(with_reducible refine(nC.calls (bt a0 (Qm)) acs _ A25.out).mono ?_);rintro e w' ⟨rfl,⟨nd,rfl⟩⟩;refine⟨_,rfl,?_⟩;refine hK.out _ _ trivial (fun hHeld=>?_);clear hK K;refine dI ?_;refine gV (fun K hK=>?_);refine lQ Tryz.func213 eB rfl #[.int .u8 (bt a0 (ZM))] (by rfl) rfl rfl (by(try simp only[List.map_toArray,List.map_cons,List.map_nil]);first|done|(simp only[Sv];rfl)|rfl|(simp only[List.length_drop,List.length_take];rfl)) ?_;(with_reducible refine(nC.calls (bt a0 (ZM)) acu _ A30.out).mono ?_);rintro e w' ⟨rfl,⟨nd,rfl⟩⟩;refine⟨_,rfl,?_⟩;refine hK.out _ _ trivial (fun hHeld=>?_);clear hK K;refine dI ?_;refine Cf (i:=11) (N:=some 51) #[true,true,true,true,true,true,true,true,true,true,true,true,false,false] rfl rfl (wD HT_.out eB) av (fun K hK=>?_);refine Kd.Jy (Kd.int .u8) _ 5 ?hg (N:=51) ?hd (xs:=([37,acs,acu]:List Int)) (inner:=[.int .u8 37,.int .u8 acs,.int .u8 acu]) (ok:=fun _=>True) (okp:=fun _=>True) ?hr ?hp (fun _ hk=>hk) trivial (Below.refl _ _) (Nat.le_refl _) (by simp) ?_;(case hd=>rfl);(case hg=>rfl);(case hr=>first|(go_simp;done)|(go_simp;rfl));(case hp=>exact(iB.one (show Kd.M (Kd.int .u8) _ _ _ 37 [.int .u8 37] from rfl) (iB.one (show Kd.M (Kd.int .u8) _ _ _ acs [.int .u8 acs] from rfl) (iB.one (show Kd.M (Kd.int .u8) _ _ _ acu [.int .u8 acu] from rfl) (iB.none _ _)))));intro aJH GH agM hb hg_ hnew_;clear hg_ hnew_;(first|rw[<- arf.out] at agM|(simp only[Int.reduceToNat] at agM;rw[<- arf.out] at agM))
         have Yw:=ae.mk (Kd.gZ (Kd.oF agM (Kd.vG SG)) (bq dL));replace jY:=ae.mk (Kd.EX SG (Kd.nH agM) hb);replace HB:=iC hb;clear hb agM;obtain⟨alH,alI,adV⟩:=Kd.dE Yw.out;(first|subst adV|(injection adV with I1 Q5 I4;have Q6:=I1.symm;have Q7:=I4.symm;clear I1 Q5 I4;subst Q6;subst Q7))
         refine hK.out _ _ trivial (fun hHeld=>?_);clear hK K;refine tK (some 51) ?_;refine Cf (i:=12) (N:=some 52) #[true,true,true,true,true,true,true,true,true,true,true,true,true,false] rfl rfl (wD HT_.out eB) av (fun K hK=>?_);refine Kd.EY (Kd.int .u8) (w0:=w) w.heap.size (by rfl) (.tmp 40) (.tmp 51) 100 5 (.int .u8 0) 1 rfl Tryz.underlying100 info5 rfl av aa u3 jD acv _ _ _ (fun k_=>some k_≠(.slice alH acv.length alI:Value).ownBlock) (fun _=>False) rfl rfl ?aO ?aR (fun _ _ h=>h) (fun _ h=>h.elim) ?aF ?aB ?aS ?aL ?_;(case aR=>repeat(first|exact(Kd.aJ Yw.out).2.2|(with_reducible refine Kd.oh ?_ _)|(with_reducible refine Kd.om ?_ _)|(with_reducible refine Kd.qX ?_)))
         (case aB=>exact dL)
         (case aF=>exact(fun k_ hk=>Kd.fresh' (Kd.vG (by(with_reducible repeat(first|apply Kd.bR|apply Kd.bP|apply Kd.bV));exact Yw.out)) k_ hk))
         (case aO=>exact(by(with_reducible repeat(first|apply Kd.bR|apply Kd.bP|apply Kd.bV));exact Kd.iR jY.out (fun _ hk=>hk.2)))
         (case aS=>exact(bq dL))
         (case aL=>have:=ayT.out;omega)
         intro aJI LG ho hb hg hat;rw[<- ayV.out] at ho;have yJ:=ae.mk (Kd.Dh (ok:=(fun _=>True)) (by(with_reducible repeat(first|apply Kd.bR|apply Kd.bP|apply Kd.bV));exact Yw.out) hg hat);have xY:=ae.mk (hb);have arh:=ae.mk (ho);clear Yw;clear HB;clear jY;have Yw:=yJ;have HB:=xY;have ayW:=arh;clear yJ xY arh;clear ho hb hg hat;refine hK.out _ _ trivial (fun hHeld=>?_);clear hK K;refine tK (some 52) ?_;repeat(first|refine ek ?_)
         refine lh (gP HT_.out eB) ?_;try go_wp2
         go_roundg Oj
         case measure=>have:=mh.out;have:=HJ2.out;omega
         case rel=>exact⟨(ayU),(wrap64 ((ZM)+1)),(by first|rfl|(simp;done)|(simp only[<- Sv] <;> (first|rfl|simp))|(simp[*];done)),H,⟨ac1⟩,⟨by(with_reducible repeat(first|apply Kd.bR|apply Kd.bP|apply Kd.bV));exact Kd.iR ayW.out (fun _ hk=>trivial)⟩,⟨dL⟩⟩
       ·replace H:=gN H;obtain⟨-,aeU,-,H⟩:=H;replace H:=gN H;obtain⟨-,aHQ,-,H⟩:=H;replace H:=gN H;obtain⟨c40,-,-,H⟩:=H;have abF:=ae.mk c40;clear c40;obtain⟨ayX,acA⟩:∃ y_:List Int,y_=(jD ++ [bt a0 gJ]):=⟨_,rfl⟩;replace H:(aU.l0 Oj a0 ayX Qm)=some r:=by first|(rw[acA];with_reducible exact H)|(have mW:=(aj _ _).symm.trans H;rw[acA];with_reducible exact mW)|(have mW:=(aj _ _).symm.trans H;with_reducible exact mW)|with_reducible exact H|(rw[acA];exact H)|exact H
        have ayY:=ae.mk acA;clear acA;replace H:=ae.mk H;go_wp2_with(first|((with_reducible refine lS 211 rfl ?_);refine wC (some 37) rfl rfl Tryz.func211 eB rfl #[.string (a0.extract ((Qm):Int).toNat ((wrap64 (gJ+3)):Int).toNat)] rfl alm ?_;(with_reducible refine(dM.calls Oj (a0.extract ((Qm):Int).toNat ((wrap64 (gJ+3)):Int).toNat) t244 false _ ZZ.out).mono ?_);rintro e w' ⟨rfl,⟨nd,rfl⟩⟩;refine⟨_,rfl,?_⟩;have p39:0<=(gJ:Int):=aX gq;have q39:gJ<(a0.size:Int):=aX gq;have hx39:=dZ a0 gJ;replace p39:=eq_true p39;replace q39:=eq_true q39)|((with_reducible refine iF (b:=.append) (xs:=#[.tmp 56,.tmp 60]) rfl ?_);(try(refine mH (by rfl) ?_;dsimp only));at_builtin;refine Kd.mG (Kd.int .u8) (w0:=w) w.heap.size rfl (.tmp 56) (.tmp 60) 100 5 (.int .u8 0) 1 rfl Tryz.underlying100 info5 rfl av aa u3 jD (bt a0 gJ) [.int .u8 (bt a0 gJ)] (fun _=>True) (fun _=>False) rfl rfl ?aP (fun _ hk=>hk.elim) ?aF ?aO ?aB ?aS ?aL ?_;(case aP=>exact rfl);(case aB=>exact dL);(case aF=>exact(fun _ _=>trivial));(case aO=>exact SG);(case aS=>exact(bq dL));(case aL=>have:=abF.out;omega);intro aJJ agp ho hb hg hat;rw[<- ayY.out] at ho;have ari:=ae.mk (hb);have arj:=ae.mk (ho);clear HB;clear jY;have HB:=ari;have aHR:=arj;clear ari arj;clear ho hb hg hat));go_roundg Oj
        case measure=>have:=mh.out;have:=HJ2.out;omega
        case rel=>exact⟨(ayX),(Qm),(by first|rfl|(simp;done)|(simp only[<- aak] <;> (first|rfl|simp))|(simp[*];done)),H,⟨ac1⟩,⟨wh⟩,⟨dL⟩⟩
   ·obtain rfl:=gK H;have aHS:=xH (P:=Tryz.prog) Tryz.underlying100 Tryz.underlying5 Tryz.underlying9 (Kd.Ao jY.out);go_wp2;go_ret;exact⟨su,dL⟩
@[reducible,instance] def aU.c:=jM.of 0 Tryz.func182 @aU.calls


def fH.l0 : Nat->ByteArray->Int->List ByteArray->Int->Int->Option (List ByteArray)
 |0,_,_,_,_,_=>none
 |k+1,x0,x1,x5,x6,x7=>if x7<=(x0.size:Int) then(if x7=(x0.size:Int) then(if 0<=x6 then(if x6<=x7 then(if x5.length<8796093022208 then(fH.l0 k x0 x1 (x5 ++ [x0.extract (x6:Int).toNat (x7:Int).toNat]) (wrap64 (x7+1)) (wrap64 (x7+1))) else(none)) else(none)) else(none)) else(if 0<=x7 then(if x7<(x0.size:Int) then(if(bt x0 x7)=x1 then(if 0<=x6 then(if x6<=x7 then(if x5.length<8796093022208 then(fH.l0 k x0 x1 (x5 ++ [x0.extract (x6:Int).toNat (x7:Int).toNat]) (wrap64 (x7+1)) (wrap64 (x7+1))) else(none)) else(none)) else(none)) else(fH.l0 k x0 x1 x5 x6 (wrap64 (x7+1)))) else(none)) else(none))) else(some x5)
def fH.f (k:Nat) (a0:ByteArray) (a1:Int):Option (List ByteArray):=fH.l0 k a0 a1 ([]:List ByteArray) 0 0
theorem fH.calls (k:Nat) (a0:ByteArray) (a1:Int) (r:List ByteArray) (w:World) (h:fH.f k a0 a1=some r) :
  Calls Tryz.prog 181 #[.string a0,.int .u8 a1] w fun e w'=>∃ KW:Value,e = .returned (KW)/\Kd.R Kd.string 9 w' w.heap.size (fun _=>True) KW r/\Below w.heap.size w w':=by
 have HB:=ae.mk (Below.refl w.heap.size w);have H:=h;clear h;unfold fH.f at H;replace H:=ae.mk H;go_enter Tryz.func181,Tryz.ntmps181;go_wp2;go_loopg [5,6,7] k (fun kq v5 v6 v7 w'=>∃(gH:List ByteArray) (lN:Int) (yF:Int),v6 = .int .i64 lN/\v7 = .int .i64 yF/\ae (fH.l0 kq a0 a1 gH lN yF=some r)/\ae (kq<=k)/\ae (Kd.R Kd.string 9 w' w.heap.size (fun _=>True) v5 gH)/\ae (Below w.heap.size w w'))
 case atStart=>exact⟨(([]:List ByteArray)),(0),(0),kD,kD,H,⟨Nat.le_refl _⟩,⟨Pe⟩,⟨dL⟩⟩
 case round=>
  clear H;obtain⟨gH,lN,yF,rfl,rfl,HA,mh,wE,HB⟩:=hrel;cases gk with
  |zero=>exact absurd HA.out (by simp[fH.l0])
  |succ k1=>
   have H:=HA.out;clear HA;simp only[fH.l0] at H;replace H:=gI H;rcases H with⟨-,nS,-,H⟩|⟨-,nS,-,H⟩
   ·replace H:=gI H;rcases H with⟨c4,-,-,H⟩|⟨c4,-,-,H⟩
    ·obtain⟨yE,Kh⟩:=Cu c4;clear c4;replace H:=gN H;obtain⟨-,LW,xW,H⟩:=H;replace H:=gN H;obtain⟨-,M8,xV,H⟩:=H;have Am:=eq_true (aX gq:yF<=(a0.size:Int));replace H:=gN H;obtain⟨c8,-,-,H⟩:=H;have aEk:=ae.mk c8;clear c8;obtain⟨ayZ,acB⟩:∃ y_:List ByteArray,y_=(gH ++ [a0.extract (lN:Int).toNat (yF:Int).toNat]):=⟨_,rfl⟩;replace H:(fH.l0 k1 a0 a1 ayZ (wrap64 (yF+1)) (wrap64 (yF+1)))=some r:=by first|(rw[acB];with_reducible exact H)|(have mW:=(aj _ _).symm.trans H;rw[acB];with_reducible exact mW)|(have mW:=(aj _ _).symm.trans H;with_reducible exact mW)|with_reducible exact H|(rw[acB];exact H)|exact H
     have ay0:=ae.mk acB;clear acB;replace H:=ae.mk H;go_wp2_with(first|((with_reducible refine iF (b:=.append) (xs:=#[.tmp 25,.tmp 30]) rfl ?_);at_builtin;refine Kd.mG Kd.string (w0:=w) w.heap.size rfl (.tmp 25) (.tmp 30) 76 9 (.string ⟨#[]⟩) 16 rfl Tryz.underlying76 Iy rfl av aa u5 gH (a0.extract (lN:Int).toNat (yF:Int).toNat) [.string (a0.extract (lN:Int).toNat (yF:Int).toNat)] (fun _=>True) (fun _=>False) rfl rfl ?aP (fun _ hk=>hk.elim) ?aF ?aO ?aB ?aS ?aL ?_;(case aP=>exact rfl);(case aB=>exact dL);(case aF=>exact(fun _ _=>trivial));(case aO=>exact SK);(case aS=>exact(bq dL));(case aL=>have:=aEk.out;omega);intro aJK w9 ho hb hg hat;rw[<- ay0.out] at ho;have qb:=ae.mk (hb);have qU:=ae.mk (ho);clear HB;clear wE;have HB:=qb;have aHT:=qU;clear qb qU;clear ho hb hg hat));go_roundg k1
     case measure=>have:=mh.out;omega
     case rel=>exact⟨(ayZ),(wrap64 (yF+1)),(wrap64 (yF+1)),kD,kD,H,⟨by have:=mh.out;omega⟩,⟨wh⟩,⟨dL⟩⟩
    ·obtain⟨yE,Kh⟩:=Di c4;replace H:=gN H;obtain⟨-,Cm,-,H⟩:=H;replace H:=gN H;obtain⟨-,EA,-,H⟩:=H;replace H:=gI H;rcases H with⟨c13,-,-,H⟩|⟨c13,-,-,H⟩
     ·obtain⟨zi,GX⟩:=Cu c13;clear c13;replace H:=gN H;obtain⟨-,R5,FV,H⟩:=H;replace H:=gN H;obtain⟨-,Vm,Cj,H⟩:=H;have DD:=eq_true (aX gq:yF<=(a0.size:Int));replace H:=gN H;obtain⟨c17,-,-,H⟩:=H;have aiw:=ae.mk c17;clear c17;obtain⟨ay1,acC⟩:∃ y_:List ByteArray,y_=(gH ++ [a0.extract (lN:Int).toNat (yF:Int).toNat]):=⟨_,rfl⟩;replace H:(fH.l0 k1 a0 a1 ay1 (wrap64 (yF+1)) (wrap64 (yF+1)))=some r:=by first|(rw[acC];with_reducible exact H)|(have mW:=(aj _ _).symm.trans H;rw[acC];with_reducible exact mW)|(have mW:=(aj _ _).symm.trans H;with_reducible exact mW)|with_reducible exact H|(rw[acC];exact H)|exact H
      have ay2:=ae.mk acC;clear acC;replace H:=ae.mk H;have p12:0<=(yF:Int):=aX gq;have q12:yF<(a0.size:Int):=aX gq;have apu:=dZ a0 yF;replace p12:=eq_true p12;replace q12:=eq_true q12;go_wp2_with(first|((with_reducible refine iF (b:=.append) (xs:=#[.tmp 25,.tmp 30]) rfl ?_);at_builtin;refine Kd.mG Kd.string (w0:=w) w.heap.size rfl (.tmp 25) (.tmp 30) 76 9 (.string ⟨#[]⟩) 16 rfl Tryz.underlying76 Iy rfl av aa u5 gH (a0.extract (lN:Int).toNat (yF:Int).toNat) [.string (a0.extract (lN:Int).toNat (yF:Int).toNat)] (fun _=>True) (fun _=>False) rfl rfl ?aP (fun _ hk=>hk.elim) ?aF ?aO ?aB ?aS ?aL ?_;(case aP=>exact rfl);(case aB=>exact dL);(case aF=>exact(fun _ _=>trivial));(case aO=>exact SK);(case aS=>exact(bq dL));(case aL=>have:=aiw.out;omega);intro aJL w18 ho hb hg hat;rw[<- ay2.out] at ho;have qb:=ae.mk (hb);have qU:=ae.mk (ho);clear HB;clear wE;have HB:=qb;have aHU:=qU;clear qb qU;clear ho hb hg hat));go_roundg k1
      case measure=>have:=mh.out;omega
      case rel=>exact⟨(ay1),(wrap64 (yF+1)),(wrap64 (yF+1)),kD,kD,H,⟨by have:=mh.out;omega⟩,⟨wh⟩,⟨dL⟩⟩
     ·obtain⟨zi,GX⟩:=Di c13;replace H:=ae.mk H;have p12:0<=(yF:Int):=aX gq;have q12:yF<(a0.size:Int):=aX gq;have apu:=dZ a0 yF;replace p12:=eq_true p12;replace q12:=eq_true q12;go_wp2;go_roundg k1
      case measure=>have:=mh.out;omega
      case rel=>exact⟨(gH),(lN),(wrap64 (yF+1)),kD,kD,H,⟨by have:=mh.out;omega⟩,⟨wh⟩,⟨dL⟩⟩
   ·obtain rfl:=gK H;go_wp2;go_ret;exact⟨_,su,wh,dL⟩
@[reducible,instance] def fH.c:=jM.of 0 Tryz.func181 @fH.calls

theorem obE {A:Option Addr} {n c m d:Nat}:(Value.slice A n c).ownBlock=(Value.slice A m d).ownBlock:=by cases A <;> rfl
theorem abD {α:Type} {d:Kd α} {e:Nat} {w:World} {base n m c c2:Nat} {A:Option Addr} {v:Value} {xs:List α} (h:d.R e w base (fun k=>some k≠(Value.slice A n c).ownBlock) v xs):d.R e w base (fun k=>some k≠(Value.slice A m c2).ownBlock) v xs:=
 Kd.iR h (fun k hk=>by rw[obE (m:=n) (d:=c)];exact hk)

mutual
def ay.j0 : Nat->ByteArray->Bool->Option (ByteArray)
 |0,_,_=>none
 |k+1,x0,x27=>if x27=true then(some (⟨#[]⟩:af)) else(ay.l0 k x0 0)
def ay.l0 : Nat->ByteArray->Int->Option (ByteArray)
 |0,_,_=>none
 |k+1,x0,x3=>if x3<(x0.size:Int) then(if 0<=x3 then(if(bt x0 x3)=35 then(some (⟨#[]⟩:af)) else(if(bt x0 x3)=63 then(some (⟨#[]⟩:af)) else(ay.l0 k x0 (wrap64 (x3+1))))) else(none)) else((aU.f k x0).bind fun aec=>(if 1<=(aec.size:Int) then((fH.f k (aec.extract 1 aec.size) 47).bind fun zu=>(ay.l1 k zu ([]:List ByteArray) 0)) else(none)))
def ay.l1 : Nat->List ByteArray->List ByteArray->Int->Option (ByteArray)
 |0,_,_,_=>none
 |k+1,x4,x5,x6=>if x6<(x4.length:Int) then(if 0<=x6 then(if(ed ByteArray.empty x4 x6).toList=([46]:aM) then(ay.j3 k x4 x5 x6 true) else(ay.j3 k x4 x5 x6 ((ed ByteArray.empty x4 x6).toList==([46,46]:aM)))) else(none)) else(ay.l2 k x5 (⟨#[]⟩:af) 0)
def ay.j3 : Nat->List ByteArray->List ByteArray->Int->Bool->Option (ByteArray)
 |0,_,_,_,_=>none
 |k+1,x4,x5,x6,x7=>if 0<=x6 then(if x6<(x4.length:Int) then(if(ed ByteArray.empty x4 x6).toList=([46,46]:aM) then(ay.j4 k x4 x5 x6 x7 (decide ((x5.length:Int)>0))) else(ay.j4 k x4 x5 x6 x7 false)) else(none)) else(none)
def ay.j4 : Nat->List ByteArray->List ByteArray->Int->Bool->Bool->Option (ByteArray)
 |0,_,_,_,_,_=>none
 |k+1,x4,x5,x6,x7,x75=>if x75=true then(if 0<=(wrap64 ((x5.length:Int)-1)) then(if(wrap64 ((x5.length:Int)-1))<=(x5.length:Int) then(ay.j5 k x4 (x5.take ((wrap64 ((x5.length:Int)-1)):Int).toNat) x6 x7) else(none)) else(none)) else(ay.j5 k x4 x5 x6 x7)
def ay.j5 : Nat->List ByteArray->List ByteArray->Int->Bool->Option (ByteArray)
 |0,_,_,_,_=>none
 |k+1,x4,x5,x6,x7=>if x7=true then(if(wrap64 (x6+1))=(x4.length:Int) then(if x5.length<8796093022208 then(ay.l1 k x4 (x5 ++ [(⟨#[]⟩:af)]) (wrap64 (x6+1))) else(none)) else(ay.l1 k x4 x5 (wrap64 (x6+1)))) else(if 0<=x6 then(if x6<(x4.length:Int) then(if x5.length<8796093022208 then(ay.l1 k x4 (x5 ++ [ed ByteArray.empty x4 x6]) (wrap64 (x6+1))) else(none)) else(none)) else(none))
def ay.l2 : Nat->List ByteArray->ByteArray->Int->Option (ByteArray)
 |0,_,_,_=>none
 |k+1,x5,x8,x9=>if x9<(x5.length:Int) then(if x8.size+1<=9223372036854775807 then(if 0<=x9 then(if(x8++(⟨#[47]⟩:af)).size+(ed ByteArray.empty x5 x9).size<=9223372036854775807 then(ay.l2 k x5 ((x8++(⟨#[47]⟩:af))++(ed ByteArray.empty x5 x9)) (wrap64 (x9+1))) else(none)) else(none)) else(none)) else(if x8.toList=([]:aM) then(some (⟨#[47]⟩:af)) else(some x8))
end
def ay.f (k:Nat) (a0:ByteArray):Option (ByteArray):=if(a0.size:Int)=0 then(ay.j0 k a0 true) else(if(a0.size:Int)>200 then(ay.j0 k a0 true) else(if 0<(a0.size:Int) then(if(bt a0 0)=47 then((dP.f k a0).bind fun apv=>(ay.j0 k a0 (!apv))) else(ay.j0 k a0 true)) else(none)))
theorem ay.calls (k:Nat) (a0 r:ByteArray) (w:World) (h:ay.f k a0=some r) :
  Calls Tryz.prog 142 #[.string a0] w fun e w'=>e = .returned (.string r)/\Below w.heap.size w w':=by
 have HB:=ae.mk (Below.refl w.heap.size w);have H:=h;clear h;unfold ay.f at H;have vv:=ae.mk H;clear H;go_enter Tryz.func142,Tryz.ntmps142;go_upto_region 1 with(fail);go_cut [27] (fun v27 wc=>∃(kq:Nat) (VN:Bool),v27 = .bool VN/\ae (ay.j0 kq a0 VN=some r)/\ae (kq<=k)/\ae (Below w.heap.size w wc))
 case first=>
  have H:=vv.out;clear vv;replace H:=gI H;rcases H with⟨c3,-,-,H⟩|⟨c3,-,-,H⟩
  ·obtain⟨nS,GI⟩:=Cu c3;clear c3;(first|rw[nS]|(simp only[jJ,lY];rw[nS])|skip)
   replace H:=ae.mk H;go_wp2;go_meet
   case rel=>exact⟨_,(true),kD,H,⟨Ld⟩,⟨dL⟩⟩
  ·obtain⟨nS,GI⟩:=Di c3;(first|rw[nS]|(simp only[jJ,lY];rw[nS])|skip)
   replace H:=gI H;rcases H with⟨c4,-,-,H⟩|⟨c4,-,-,H⟩
   ·have yE:decide (200<(a0.size:Int))=true:=aQ c4;have Kh:decide (200<a0.size)=true:=aQ aa;clear c4;replace H:=ae.mk H;go_wp2;go_meet
    case rel=>exact⟨_,(true),kD,H,⟨Ld⟩,⟨dL⟩⟩
   ·have yE:decide (200<(a0.size:Int))=false:=aT c4;have Kh:decide (200<a0.size)=false:=aT aa;clear c4;replace H:=gN H;obtain⟨c5,xW,-,H⟩:=H;have LW:decide (0<a0.size)=true:=aQ aa;clear c5;replace H:=gI H;rcases H with⟨c7,-,-,H⟩|⟨c7,-,-,H⟩
    ·obtain⟨Am,Zt⟩:=Cu c7;clear c7;replace H:=gD H;obtain⟨apv,A8,H⟩:=H;replace H:=ae.mk H;have p6:0<=(0:Int):=aa;have q6:0<a0.size:=(by have:(0:Int)<(a0.size:Int):=aX gq;omega);have hx6:∀ h:0<a0.size,((a0[0]'h).toNat:Int)=bt a0 0:=dZ a0 0;clear p6;have qi6:(0<(a0.size:Int))=True:=eq_true (aX gq);replace q6:=eq_true q6;go_wp2_with(first|(go_at_call 100;(with_reducible refine(dP.calls k a0 apv _ A8.out).mono ?_);rintro e w' ⟨rfl,⟨nd,rfl⟩⟩));go_meet
     case rel=>exact⟨_,(!apv),kD,H,⟨Ld⟩,⟨dL⟩⟩
    ·obtain⟨Am,Zt⟩:=Di c7;replace H:=ae.mk H;have p6:0<=(0:Int):=aa;have q6:0<a0.size:=(by have:(0:Int)<(a0.size:Int):=aX gq;omega);have hx6:∀ h:0<a0.size,((a0[0]'h).toNat:Int)=bt a0 0:=dZ a0 0;clear p6;have qi6:(0<(a0.size:Int))=True:=eq_true (aX gq);replace q6:=eq_true q6;go_wp2;go_meet
     case rel=>exact⟨_,(true),kD,H,⟨Ld⟩,⟨dL⟩⟩
 case rest=>
  clear vv;obtain⟨kq,VN,rfl,HA,Ch,HB⟩:=hcut;cases kq with
  |zero=>exact absurd HA.out (by simp[ay.j0])
  |succ vC=>
   have H:=HA.out;clear HA;simp only[ay.j0] at H;replace H:=gB H;rcases H with⟨rfl,H⟩|⟨rfl,H⟩
   ·obtain rfl:=gK H;go_wp2;go_ret;exact⟨su,dL⟩
   ·replace H:=ae.mk H;go_wp2;go_loopg [3] vC (fun kq v3 w'=>∃(rA:Int),v3 = .int .i64 rA/\ae (ay.l0 kq a0 rA=some r)/\ae (kq<=vC)/\ae (Below w.heap.size w w'))
    case atStart=>exact⟨(0),kD,H,⟨Nat.le_refl _⟩,⟨dL⟩⟩
    case round=>
     clear H;obtain⟨rA,rfl,HA,Cv,HB⟩:=hrel;cases gk with
     |zero=>exact absurd HA.out (by simp[ay.l0])
     |succ k2=>
      have H:=HA.out;clear HA;simp only[ay.l0] at H;replace H:=gI H;rcases H with⟨-,Cm,-,H⟩|⟨-,Cm,-,H⟩
      ·replace H:=gN H;obtain⟨-,EA,-,H⟩:=H;replace H:=gI H;rcases H with⟨c13,-,-,H⟩|⟨c13,-,-,H⟩
       ·obtain⟨zi,GX⟩:=Cu c13;clear c13;obtain rfl:=gK H;have p12:0<=(rA:Int):=aX gq;have q12:rA<(a0.size:Int):=aX gq;have apu:=dZ a0 rA;replace p12:=eq_true p12;replace q12:=eq_true q12;go_wp2;go_ret;exact⟨su,dL⟩
       ·obtain⟨zi,GX⟩:=Di c13;replace H:=gI H;rcases H with⟨c15,-,-,H⟩|⟨c15,-,-,H⟩
        ·obtain⟨Cj,Vm⟩:=Cu c15;clear c15;obtain rfl:=gK H;have p12:0<=(rA:Int):=aX gq;have q12:rA<(a0.size:Int):=aX gq;have apu:=dZ a0 rA;replace p12:=eq_true p12;replace q12:=eq_true q12;have p14:0<=(rA:Int):=aX gq;have q14:rA<(a0.size:Int):=aX gq;have aEl:=dZ a0 rA;replace p14:=eq_true p14;replace q14:=eq_true q14;go_wp2;go_ret;exact⟨su,dL⟩
        ·obtain⟨Cj,Vm⟩:=Di c15;replace H:=ae.mk H;have p12:0<=(rA:Int):=aX gq;have q12:rA<(a0.size:Int):=aX gq;have apu:=dZ a0 rA;replace p12:=eq_true p12;replace q12:=eq_true q12;have p14:0<=(rA:Int):=aX gq;have q14:rA<(a0.size:Int):=aX gq;have aEl:=dZ a0 rA;replace p14:=eq_true p14;replace q14:=eq_true q14;go_wp2;go_roundg k2
         case measure=>have:=Ch.out;have:=Cv.out;omega
         case rel=>exact⟨(wrap64 (rA+1)),kD,H,⟨aaj⟩,⟨dL⟩⟩
      ·replace H:=gD H;obtain⟨aec,A16,H⟩:=H;replace H:=gI H;rcases H with⟨-,I6,BG,H⟩|⟨c17,-,-,H⟩
       ·replace H:=gD H;obtain⟨zu,Zq,H⟩:=H;replace H:=ae.mk H;go_wp2_with(first|((with_reducible refine lS 182 rfl ?_);refine vI 45 rfl Tryz.func182 (aU.calls k2 a0 aec _ A16.out) fun w19 hb HB=>?_;clear hb)|((with_reducible refine lS 181 rfl ?_);refine WK 47 rfl Tryz.func181 (fH.calls k2 (aec.extract 1 aec.size) 47 zu _ Zq.out) ?_;rintro e w20 ⟨ay3,rfl,ho0,hb⟩;refine⟨_,rfl,?_⟩;have ay4:=ae.mk (Kd.gZ ho0 (bq dL));replace HB:=iC hb;clear hb;(try clear ho0)));go_loopg [5,6] k2 (fun kq v5 v6 w'=>∃(wW:List ByteArray) (yG:Int),v6 = .int .i64 yG/\ae (ay.l1 kq zu wW yG=some r)/\ae (kq<=k2)/\ae (Kd.R Kd.string 9 w' w.heap.size (fun k_=>some k_≠(v5:Value).ownBlock) ay3 zu)/\ae (Kd.R Kd.string 9 w' w.heap.size (fun k_=>some k_≠(ay3:Value).ownBlock) v5 wW)/\ae (Below w.heap.size w w'))
        case atStart=>exact⟨(([]:List ByteArray)),(0),kD,H,⟨Nat.le_refl _⟩,⟨by(with_reducible repeat(first|apply Kd.bR|apply Kd.bP|apply Kd.bV));exact Kd.iR ay4.out (fun _ hk=>(by simp[Value.ownBlock]))⟩,⟨Pe⟩,⟨dL⟩⟩
        case round=>
         clear H;try clear Cm
         try clear c17
         try clear BG
         try clear I6
         obtain⟨wW,yG,rfl,HA,YI,xc,wE,HB⟩:=hrel;cases gk with
         |zero=>exact absurd HA.out (by simp[ay.l1])
         |succ k3=>
          have H:=HA.out;clear HA;simp only[ay.l1] at H;replace H:=gI H;rcases H with⟨-,Ac,-,H⟩|⟨-,Ac,-,H⟩
          ·have at1:=ae.mk H;clear H;obtain⟨aed,acD,aEm⟩:=Kd.dE xc.out;subst aEm;go_upto_region 13 with(fail);go_cut [7] (fun v7 wc=>∃(kq:Nat) (Yx:Bool),v7 = .bool Yx/\ae (ay.j3 kq zu wW yG Yx=some r)/\ae (kq<=k3)/\ae (Kd.R Kd.string 9 wc w.heap.size (fun k_=>some k_≠(u5:Value).ownBlock) (.slice aed zu.length acD) zu)/\ae (Kd.R Kd.string 9 wc w.heap.size (fun k_=>some k_≠((.slice aed zu.length acD):Value).ownBlock) u5 wW)/\ae (Below w.heap.size w wc))
           case first=>
            have H:=at1.out;clear at1;replace H:=gN H;obtain⟨-,GZ,-,H⟩:=H;(first|rw[GZ]|(simp only[jJ,lY];rw[GZ])|skip)
            replace H:=gI H;rcases H with⟨Z4,-,-,H⟩|⟨Z4,-,-,H⟩
            ·obtain⟨Ck,X3⟩:=Cu Z4;clear Z4;replace H:=ae.mk H;have aee:0<=(yG:Int):=aX gq;have aef:yG<(zu.length:Int):=aX gq;obtain⟨ark,e274,apw⟩:=Kd.iM (Kd.aJ xc.out).2.2 yG aee aef;cases e274
             replace aee:=eq_true aee;replace aef:=eq_true aef;go_wp2;go_meet
             case rel=>exact⟨_,(true),kD,H,⟨by have:=Ch.out;have:=Cv.out;have:=YI.out;first|omega|exact Nat.le_refl _⟩,⟨wh⟩,⟨wh⟩,⟨dL⟩⟩
            ·obtain⟨Ck,X3⟩:=Di Z4;replace H:=ae.mk H;have aee:0<=(yG:Int):=aX gq;have aef:yG<(zu.length:Int):=aX gq;obtain⟨ark,e274,apw⟩:=Kd.iM (Kd.aJ xc.out).2.2 yG aee aef;cases e274
             replace aee:=eq_true aee;replace aef:=eq_true aef;have at5:0<=(yG:Int):=aX gq;have at6:yG<(zu.length:Int):=aX gq;obtain⟨ay5,e275,azW⟩:=Kd.iM (Kd.aJ xc.out).2.2 yG at5 at6;obtain rfl:ark=ay5:=(by injection e275);replace at5:=eq_true at5;replace at6:=eq_true at6;go_wp2;go_meet
             case rel=>exact⟨_,(((ed ByteArray.empty zu yG).toList==([46,46]:aM))),kD,H,⟨by have:=Ch.out;have:=Cv.out;have:=YI.out;first|omega|exact Nat.le_refl _⟩,⟨wh⟩,⟨wh⟩,⟨dL⟩⟩
           case rest=>
            clear at1;try clear Cm
            try clear c17
            try clear BG
            try clear I6
            try clear Ac
            obtain⟨kq,Yx,rfl,HA,WZ,xc,wE,HB⟩:=hcut;cases kq with
            |zero=>exact absurd HA.out (by simp[ay.j3])
            |succ aEn=>
             have H:=HA.out;clear HA;simp only[ay.j3] at H;have at7:=ae.mk H;clear H;go_upto_region 14 with(fail);go_cut [75] (fun v75 wc=>∃(kq:Nat) (aeg:Bool),v75 = .bool aeg/\ae (ay.j4 kq zu wW yG Yx aeg=some r)/\ae (kq<=aEn)/\ae (Kd.R Kd.string 9 wc w.heap.size (fun k_=>some k_≠(u5:Value).ownBlock) (.slice aed zu.length acD) zu)/\ae (Kd.R Kd.string 9 wc w.heap.size (fun k_=>some k_≠((.slice aed zu.length acD):Value).ownBlock) u5 wW)/\ae (Below w.heap.size w wc))
             case first=>
              have H:=at7.out;clear at7;replace H:=gN H;obtain⟨-,Sa,-,H⟩:=H;(first|rw[Sa]|(simp only[jJ,lY];rw[Sa])|skip)
              replace H:=gN H;obtain⟨-,ae1,-,H⟩:=H;replace H:=gI H;rcases H with⟨c29,-,-,H⟩|⟨c29,-,-,H⟩
              ·obtain⟨ai5,ai4⟩:=Cu c29;clear c29;replace H:=ae.mk H;have aeh:0<=(yG:Int):=aX gq;have aei:yG<(zu.length:Int):=aX gq;obtain⟨ay6,aua,apx⟩:=Kd.iM (Kd.aJ xc.out).2.2 yG aeh aei;cases aua
               replace aeh:=eq_true aeh;replace aei:=eq_true aei;obtain⟨WS,TR,agn⟩:=Kd.dE wE.out;subst agn;go_wp2;go_meet
               case rel=>exact⟨_,(decide ((wW.length:Int)>0)),kD,H,⟨by have:=Ch.out;have:=Cv.out;have:=YI.out;have:=WZ.out;first|omega|exact Nat.le_refl _⟩,⟨wh⟩,⟨wh⟩,⟨dL⟩⟩
              ·obtain⟨ai5,ai4⟩:=Di c29;replace H:=ae.mk H;have aeh:0<=(yG:Int):=aX gq;have aei:yG<(zu.length:Int):=aX gq;obtain⟨ay6,aua,apx⟩:=Kd.iM (Kd.aJ xc.out).2.2 yG aeh aei;cases aua
               replace aeh:=eq_true aeh;replace aei:=eq_true aei;go_wp2;go_meet
               case rel=>exact⟨_,(false),kD,H,⟨by have:=Ch.out;have:=Cv.out;have:=YI.out;have:=WZ.out;first|omega|exact Nat.le_refl _⟩,⟨wh⟩,⟨wh⟩,⟨dL⟩⟩
             case rest=>
              clear at7;try clear Cm
              try clear c17
              try clear BG
              try clear I6
              try clear Ac
              obtain⟨kq,aeg,rfl,HA,acE,xc,wE,HB⟩:=hcut;cases kq with
              |zero=>exact absurd HA.out (by simp[ay.j4])
              |succ ay7=>
               have H:=HA.out;clear HA;simp only[ay.j4] at H;have aub:=ae.mk H;clear H;go_upto_if 75 with(fail);go_cut [5] (fun v5 wc=>∃(kq:Nat) (Sw:List ByteArray),ae (ay.j5 kq zu Sw yG Yx=some r)/\ae (kq<=ay7)/\ae (Kd.R Kd.string 9 wc w.heap.size (fun k_=>some k_≠(v5:Value).ownBlock) (.slice aed zu.length acD) zu)/\ae (Kd.R Kd.string 9 wc w.heap.size (fun k_=>some k_≠((.slice aed zu.length acD):Value).ownBlock) v5 Sw)/\ae (Below w.heap.size w wc))
               case first=>
                have H:=aub.out;clear aub;replace H:=gB H;rcases H with⟨rfl,H⟩|⟨rfl,H⟩
                ·obtain⟨agN,akX⟩:∃ j_:Int,(wrap64 ((wW.length:Int)-1))=j_:=⟨_,rfl⟩;(first|rw[akX] at H|simp only[akX] at H ⊢)
                 have aEo:(IntKind.i64.wrap ((wW.length:Int)-1))=agN:=(jJ _).trans akX;replace H:=gN H;obtain⟨-,ai6,ai7,H⟩:=H;replace H:=gN H;obtain⟨-,aqI,aqJ,H⟩:=H;obtain⟨auc,acF⟩:∃ y_:List ByteArray,y_=(wW.take ((agN):Int).toNat):=⟨_,rfl⟩;replace H:(ay.j5 ay7 zu auc yG Yx)=some r:=by first|(rw[acF];with_reducible exact H)|(have mW:=(aj _ _).symm.trans H;rw[acF];with_reducible exact mW)|(have mW:=(aj _ _).symm.trans H;with_reducible exact mW)|with_reducible exact H|(rw[acF];exact H)|exact H
                 have arl:=ae.mk acF;clear acF;replace H:=ae.mk H;obtain⟨alH,alI,adV⟩:=Kd.dE wE.out;subst adV;have q37:((agN):Int)<=((wW.length:Int):Int):=aX gq;obtain⟨aJM,arn,_,ay8,_⟩:=info_parts Iy;have aud:=ag3 (P:=Tryz.prog) 76 9 .i64 Tryz.underlying76 arn alH wW.length alI (agN) (aX gq) q37 (Kd.aJ wE.out).2.1;have apy:=Kd.ag5 (m:=((agN):Int).toNat) wE.out aa;have ay9:auc.length=((agN):Int).toNat:=(by rw[arl.out,List.length_take];omega);rw[<- arl.out] at apy;rw[<- ay9] at apy aud;clear ay9 arn ay8 wE;have aHV:=ae.mk apy;clear apy;replace q37:=eq_true q37;go_wp2;go_meet
                 case rel=>exact⟨_,(auc),H,⟨by have:=Ch.out;have:=Cv.out;have:=YI.out;have:=WZ.out;have:=acE.out;first|omega|exact Nat.le_refl _⟩,⟨by first|exact wh|exact abD (ae.out (by assumption))⟩,⟨by first|exact wh|exact abD (ae.out (by assumption))⟩,⟨dL⟩⟩
                ·replace H:=ae.mk H;go_wp2;go_meet
                 case rel=>exact⟨_,(wW),H,⟨by have:=Ch.out;have:=Cv.out;have:=YI.out;have:=WZ.out;have:=acE.out;first|omega|exact Nat.le_refl _⟩,⟨by first|exact wh|exact abD (ae.out (by assumption))⟩,⟨by first|exact wh|exact abD (ae.out (by assumption))⟩,⟨dL⟩⟩
               case rest=>
                clear aub;try clear Cm
                try clear c17
                try clear BG
                try clear I6
                try clear Ac
                obtain⟨kq,Sw,HA,agO,xc,wE,HB⟩:=hcut;cases kq with
                |zero=>exact absurd HA.out (by simp[ay.j5])
                |succ akY=>
                 have H:=HA.out;clear HA;simp only[ay.j5] at H;replace H:=gB H;rcases H with⟨rfl,H⟩|⟨rfl,H⟩
                 ·replace H:=gI H;rcases H with⟨c39,-,-,H⟩|⟨c39,-,-,H⟩
                  ·obtain⟨abP,abQ⟩:=Cu c39;clear c39;replace H:=gN H;obtain⟨c40,-,-,H⟩:=H;have abF:=ae.mk c40;clear c40;obtain⟨aza,acG⟩:∃ y_:List ByteArray,y_=(Sw ++ [(⟨#[]⟩:af)]):=⟨_,rfl⟩;replace H:(ay.l1 akY zu aza (wrap64 (yG+1)))=some r:=by first|(rw[acG];with_reducible exact H)|(have mW:=(aj _ _).symm.trans H;rw[acG];with_reducible exact mW)|(have mW:=(aj _ _).symm.trans H;with_reducible exact mW)|with_reducible exact H|(rw[acG];exact H)|exact H
                   have azb:=ae.mk acG;clear acG;replace H:=ae.mk H;go_wp2_with(first|((with_reducible refine iF (b:=.append) (xs:=#[.tmp 95,.tmp 96]) rfl ?_);(try(refine mH (by rfl) ?_;dsimp only));at_builtin;refine Kd.mG Kd.string (w0:=w) w.heap.size rfl (.tmp 95) (.tmp 96) 76 9 (.string ⟨#[]⟩) 16 rfl Tryz.underlying76 Iy rfl av aa u5 Sw (⟨#[]⟩:af) [.string (⟨#[]⟩:af)] (fun k_=>some k_≠(.slice aed zu.length acD:Value).ownBlock) (fun _=>False) rfl rfl ?aP (fun _ hk=>hk.elim) ?aF ?aO ?aB ?aS ?aL ?_;(case aP=>exact rfl);(case aB=>exact dL);(case aF=>exact(fun k_ hk=>Kd.fresh' (Kd.vG WR) k_ hk));(case aO=>exact SK);(case aS=>exact(bq dL));(case aL=>have:=abF.out;omega);intro aJN w41 ho hb hg hat;rw[<- azb.out] at ho;have qb:=ae.mk (Kd.Dh (ok:=(fun _=>True)) ahi hg hat);have qU:=ae.mk (hb);have I5:=ae.mk (ho);clear xc;clear HB;clear wE;have xc:=qb;have HB:=qU;have aHW:=I5;clear qb qU I5;clear ho hb hg hat));go_roundg akY
                   case measure=>have:=Ch.out;have:=Cv.out;have:=YI.out;have:=WZ.out;have:=acE.out;have:=agO.out;omega
                   case rel=>exact⟨(aza),(wrap64 (yG+1)),kD,H,⟨by have:=Ch.out;have:=Cv.out;have:=YI.out;have:=WZ.out;have:=acE.out;have:=agO.out;omega⟩,⟨by(with_reducible repeat(first|apply Kd.bR|apply Kd.bP|apply Kd.bV));exact Kd.iR xc.out (fun _ hk=>hk.2)⟩,⟨wh⟩,⟨dL⟩⟩
                  ·obtain⟨abP,abQ⟩:=Di c39;replace H:=ae.mk H;go_wp2;go_roundg akY
                   case measure=>have:=Ch.out;have:=Cv.out;have:=YI.out;have:=WZ.out;have:=acE.out;have:=agO.out;omega
                   case rel=>exact⟨(Sw),(wrap64 (yG+1)),kD,H,⟨by have:=Ch.out;have:=Cv.out;have:=YI.out;have:=WZ.out;have:=acE.out;have:=agO.out;omega⟩,⟨wh⟩,⟨wh⟩,⟨dL⟩⟩
                 ·replace H:=gN H;obtain⟨-,aqA,-,H⟩:=H;replace H:=gN H;obtain⟨-,aq9,-,H⟩:=H;replace H:=gN H;obtain⟨c44,-,-,H⟩:=H;have azc:=ae.mk c44;clear c44;obtain⟨azd,acH⟩:∃ y_:List ByteArray,y_=(Sw ++ [ed ByteArray.empty zu yG]):=⟨_,rfl⟩;replace H:(ay.l1 akY zu azd (wrap64 (yG+1)))=some r:=by first|(rw[acH];with_reducible exact H)|(have mW:=(aj _ _).symm.trans H;rw[acH];with_reducible exact mW)|(have mW:=(aj _ _).symm.trans H;with_reducible exact mW)|with_reducible exact H|(rw[acH];exact H)|exact H
                  have aze:=ae.mk acH;clear acH;replace H:=ae.mk H;have aue:0<=(yG:Int):=aX gq;have auf:yG<(zu.length:Int):=aX gq;obtain⟨azf,e283,azX⟩:=Kd.iM (Kd.aJ xc.out).2.2 yG aue auf;cases e283
                  replace aue:=eq_true aue;replace auf:=eq_true auf;go_wp2_with(first|((with_reducible refine iF (b:=.append) (xs:=#[.tmp 83,.tmp 88]) rfl ?_);(try(refine mH (by rfl) ?_;dsimp only));at_builtin;refine Kd.mG Kd.string (w0:=w) w.heap.size rfl (.tmp 83) (.tmp 88) 76 9 (.string ⟨#[]⟩) 16 rfl Tryz.underlying76 Iy rfl av aa u5 Sw (ed ByteArray.empty zu yG) [.string (ed ByteArray.empty zu yG)] (fun k_=>some k_≠(.slice (some azf) zu.length acD:Value).ownBlock) (fun _=>False) rfl rfl ?aP (fun _ hk=>hk.elim) ?aF ?aO ?aB ?aS ?aL ?_;(case aP=>exact rfl);(case aB=>exact dL);(case aF=>exact(fun k_ hk=>Kd.fresh' (Kd.vG WR) k_ hk));(case aO=>exact SK);(case aS=>exact(bq dL));(case aL=>have:=azc.out;omega);intro aJO w45 ho hb hg hat;rw[<- aze.out] at ho;have qb:=ae.mk (Kd.Dh (ok:=(fun _=>True)) ahi hg hat);have qU:=ae.mk (hb);have I5:=ae.mk (ho);clear xc;clear HB;clear wE;have xc:=qb;have HB:=qU;have aHX:=I5;clear qb qU I5;clear ho hb hg hat));go_roundg akY
                  case measure=>have:=Ch.out;have:=Cv.out;have:=YI.out;have:=WZ.out;have:=acE.out;have:=agO.out;omega
                  case rel=>exact⟨(azd),(wrap64 (yG+1)),kD,H,⟨by have:=Ch.out;have:=Cv.out;have:=YI.out;have:=WZ.out;have:=acE.out;have:=agO.out;omega⟩,⟨by(with_reducible repeat(first|apply Kd.bR|apply Kd.bP|apply Kd.bV));exact Kd.iR xc.out (fun _ hk=>hk.2)⟩,⟨wh⟩,⟨dL⟩⟩
          ·replace H:=ae.mk H;obtain⟨aEp,aEq,apz⟩:=Kd.dE xc.out;subst apz;go_wp2;go_loopg [8,9] k3 (fun kq v8 v9 w'=>∃(apA:ByteArray) (acI:Int),v8 = .string apA/\v9 = .int .i64 acI/\ae (ay.l2 kq wW apA acI=some r)/\ae (kq<=k3)/\ae (Kd.R Kd.string 9 w' w.heap.size (fun _=>True) u5 wW)/\ae (Below w.heap.size w w'))
           case atStart=>exact⟨((⟨#[]⟩:af)),(0),kD,kD,H,⟨Nat.le_refl _⟩,⟨by(with_reducible repeat(first|apply Kd.bR|apply Kd.bP|apply Kd.bV));exact Kd.iR wE.out (fun _ hk=>trivial)⟩,⟨dL⟩⟩
           case round=>
            clear H;try clear Cm
            try clear c17
            try clear BG
            try clear I6
            try clear Ac
            obtain⟨apA,acI,rfl,rfl,HA,HK4,wE,HB⟩:=hrel;cases gk with
            |zero=>exact absurd HA.out (by simp[ay.l2])
            |succ k4=>
             have H:=HA.out;clear HA;simp only[ay.l2] at H;replace H:=gI H;rcases H with⟨-,Sg,-,H⟩|⟨-,Sg,-,H⟩
             ·replace H:=gN H;obtain⟨c48,aHY,aHZ,H⟩:=H;try have aH0:=eq_false (Nat.not_lt.2 c48)
              replace H:=gN H;obtain⟨-,aH1,-,H⟩:=H;replace H:=gN H;obtain⟨c50,aqV,aqW,H⟩:=H;try have aH2:=eq_false (Nat.not_lt.2 c50)
              try(have akZ:=c50;simp only[ByteArray.size_append,yP,List.length_cons,List.length_nil,Nat.zero_add,Nat.reduceAdd] at akZ;replace akZ:=eq_false (Nat.not_lt.2 akZ))
              replace H:=ae.mk H;obtain⟨aJP,aJQ,aEr⟩:=Kd.dE wE.out;subst aEr;have aug:0<=(acI:Int):=aX gq;have auh:acI<(wW.length:Int):=aX gq;obtain⟨aH3,e287,azY⟩:=Kd.iM (Kd.aJ wE.out).2.2 acI aug auh;cases e287
              replace aug:=eq_true aug;replace auh:=eq_true auh;go_wp2;go_roundg k4
              case measure=>have:=Ch.out;have:=Cv.out;have:=YI.out;have:=HK4.out;omega
              case rel=>exact⟨((apA++(⟨#[47]⟩:af))++(ed ByteArray.empty wW acI)),(wrap64 (acI+1)),kD,kD,H,⟨by have:=Ch.out;have:=Cv.out;have:=YI.out;have:=HK4.out;omega⟩,⟨wh⟩,⟨dL⟩⟩
             ·replace H:=gI H;rcases H with⟨c52,-,-,H⟩|⟨c52,-,-,H⟩
              ·obtain⟨aaC,akF⟩:=Cu c52;clear c52;obtain rfl:=gK H;obtain⟨aJR,aJS,aEs⟩:=Kd.dE wE.out;subst aEs;go_wp2;go_ret;exact⟨su,dL⟩
              ·obtain⟨aaC,akF⟩:=Di c52;obtain rfl:=gK H;obtain⟨axa,axb,alQ⟩:=Kd.dE wE.out;subst alQ;go_wp2;go_ret;exact⟨su,dL⟩
       ·exact absurd H (by simp)
@[reducible,instance] def ay.c:=jM.of 0 Tryz.func142 @ay.calls

end Go.Proofs.YtfhllanhldbkkaaGreatDoor.P
