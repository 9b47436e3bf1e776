import Derived.Test.YtfhllanhldbkkaaGreatDoorPxspec02j
namespace Go.Proofs.YtfhllanhldbkkaaGreatDoor.P
set_option maxHeartbeats 8000000
set_option maxRecDepth 100000
open Go.RowKit Go.Proofs.YtfhllanhldbkkaaGreatDoorW.bf Go.Proofs.YtfhllanhldbkkaaGreatDoorW.iK Go.Proofs.YtfhllanhldbkkaaGreatDoorW.kG
attribute [local go_sem] rE rF uF uG pE pF rG rH   -- for this text's walks alone
set_option linter.unusedVariables false
set_option linter.unusedSimpArgs false

mutual
def aW.l0 : Nat->ByteArray->List Int->Int->Option (ByteArray)
 |0,_,_,_=>none
 |k+1,x0,x3,x4=>if x4<(x0.size:Int) then(if 0<=x4 then(if(bt x0 x4)=37 then(aW.j1 k x0 x3 x4 (decide ((wrap64 (x4+2))>=(x0.size:Int)))) else(aW.j1 k x0 x3 x4 true)) else(none)) else(some (strOfNums x3))
def aW.j1 : Nat->ByteArray->List Int->Int->Bool->Option (ByteArray)
 |0,_,_,_,_=>none
 |k+1,x0,x3,x4,x23=>if x23=true then(if 0<=x4 then(if x4<(x0.size:Int) then(if x3.length<140737488355328 then(aW.l0 k x0 (x3 ++ [bt x0 x4]) (wrap64 (x4+1))) else(none)) else(none)) else(none)) else(if 0<=(wrap64 (x4+1)) then(if(wrap64 (x4+1))<=(wrap64 (x4+3)) then(if(wrap64 (x4+3))<=(x0.size:Int) then((dN.f k (x0.extract ((wrap64 (x4+1)):Int).toNat ((wrap64 (x4+3)):Int).toNat)).bind fun ai1=>(if ai1.2=true then((iZ.f k ((ai1.1)%256)).bind fun t246=>(if t246=true then(if x3.length<140737488355328 then(aW.l0 k x0 (x3 ++ [(ai1.1)%256]) (wrap64 ((wrap64 (x4+2))+1))) else(none)) else(if(wrap64 (x4+1))<(x0.size:Int) then((nX.f (bt x0 (wrap64 (x4+1)))).bind fun Yt=>(if 0<=(wrap64 (x4+2)) then(if(wrap64 (x4+2))<(x0.size:Int) then((nX.f (bt x0 (wrap64 (x4+2)))).bind fun Yu=>((some (([37,Yt,Yu]:List Int):List Int)).bind fun Yv=>(if x3.length+Yv.length<140737488355328 then(aW.l0 k x0 (x3++Yv) (wrap64 ((wrap64 (x4+2))+1))) else(none)))) else(none)) else(none))) else(none)))) else(if 0<=x4 then(if x4<(x0.size:Int) then(if x3.length<140737488355328 then(aW.l0 k x0 (x3 ++ [bt x0 x4]) (wrap64 (x4+1))) else(none)) else(none)) else(none)))) else(none)) else(none)) else(none))
end
def aW.f (k:Nat) (a0:ByteArray):Option (ByteArray):=aW.l0 k a0 ([]:List Int) 0
def aW.T8 : Bool×List (List Nat×List Nat):=(true,[([],[]),([],[]),([],[]),([2],[2]),([1,3],[1,3]),([4],[4]),([],[]),([],[]),([7],[7]),([6,8],[6,8]),([9,5],[9]),([5,10],[5,10]),([0,11,10],[0,11]),([12,12,0,1,2,3,4,5,6,7,8,9,10,11,12],[0,12])])
def aW.B8 : List Nat:=[0,0,0,4,14,30,0,0,128,448,1022,2046,4095,8191]
theorem aW.aBf : nL .any (opsOf Tryz.f182 8)=aW.T8:=by kernel_rfl
theorem aW.awK : jf aW.T8.2 aW.B8=true:=by kernel_rfl
theorem aW.calls (k:Nat) (a0 r:ByteArray) (w:World) (h:aW.f k a0=some r) :
  Calls Tryz.prog 182 #[.string a0] w fun e w'=>e = .returned (.string r)/\Below w.heap.size w w':=by
 have HB:=aa.mk (Below.refl w.heap.size w);have H:=h;clear h;unfold aW.f at H;replace H:=aa.mk H;go_enter Tryz.func182,Tryz.ntmps182;go_wp2;go_loopg [3,4] k (fun kq v3 v4 w'=>∃(dD:List Int) (dH:Int),v4 = .int .i64 dH/\aa (aW.l0 kq a0 dD dH=some r)/\aa (kq<=k)/\aa (Kd.R (Kd.int .u8) 5 w' w.heap.size (fun _=>True) v3 dD)/\aa (Below w.heap.size w w'))
 case atStart=>exact⟨(([]:List Int)),(0),bR,H,⟨Nat.le_refl _⟩,⟨Hz⟩,⟨aX⟩⟩
 case round=>
  clear H;obtain⟨dD,dH,rfl,HA,ig,iV,HB⟩:=hrel;cases gk with
  |zero=>exact absurd HA.out (by simp[aW.l0])
  |succ k1=>
   have H:=HA.out;clear HA;simp only[aW.l0] at H;replace H:=gI H;rcases H with⟨-,jc,-,H⟩|⟨-,jc,-,H⟩
   ·have ZT:=aa.mk H;clear H;go_upto_region 5 with(fail);go_cut [23] (fun v23 wc=>∃(kq:Nat) (yF:Bool),v23 = .bool yF/\aa (aW.j1 kq a0 dD dH yF=some r)/\aa (kq<=k1)/\aa (Kd.R (Kd.int .u8) 5 wc w.heap.size (fun _=>True) u3 dD)/\aa (Below w.heap.size w wc))
    case first=>
     have H:=ZT.out;clear ZT;replace H:=gN H;obtain⟨-,jr,-,H⟩:=H;(first|rw[jr]|(simp only[dU,fK];rw[jr])|skip)
     replace H:=gI H;rcases H with⟨c6,-,-,H⟩|⟨c6,-,-,H⟩
     ·obtain⟨jy,pq⟩:=kT c6;clear c6;replace H:=aa.mk H;have p5:0<=(dH:Int):=ay bM;have q5:dH<(a0.size:Int):=ay bM;have hx5:=bO a0 dH;replace p5:=eq_true p5;replace q5:=eq_true q5;go_wp2;go_meet
      case rel=>exact⟨_,(decide ((wrap64 (dH+2))>=(a0.size:Int))),bR,H,⟨Md⟩,⟨qE⟩,⟨aX⟩⟩
     ·obtain⟨jy,pq⟩:=kU c6;replace H:=aa.mk H;have p5:0<=(dH:Int):=ay bM;have q5:dH<(a0.size:Int):=ay bM;have hx5:=bO a0 dH;replace p5:=eq_true p5;replace q5:=eq_true q5;go_wp2;go_meet
      case rel=>exact⟨_,(true),bR,H,⟨Md⟩,⟨qE⟩,⟨aX⟩⟩
    case rest=>
     clear ZT;try clear jc
     obtain⟨kq,yF,rfl,HA,HJ2,iV,HB⟩:=hcut;cases kq with
     |zero=>exact absurd HA.out (by simp[aW.j1])
     |succ GD=>
      have H:=HA.out;clear HA;simp only[aW.j1] at H;replace H:=gB H;rcases H with⟨rfl,H⟩|⟨rfl,H⟩
      ·replace H:=gN H;obtain⟨-,mU,-,H⟩:=H;replace H:=gN H;obtain⟨-,pg,-,H⟩:=H;replace H:=gN H;obtain⟨c11,-,-,H⟩:=H;have Xl:=aa.mk c11;clear c11;obtain⟨awL,Yw⟩:∃ y_:List Int,y_=(dD ++ [bt a0 dH]):=⟨_,rfl⟩;replace H:(aW.l0 GD a0 awL (wrap64 (dH+1)))=some r:=by first|(rw[Yw];with_reducible exact H)|(have kP:=(ax _ _).symm.trans H;rw[Yw];with_reducible exact kP)|(have kP:=(ax _ _).symm.trans H;with_reducible exact kP)|with_reducible exact H|(rw[Yw];exact H)|exact H
       have awM:=aa.mk Yw;clear Yw;replace H:=aa.mk H;have p10:0<=(dH:Int):=ay bM;have q10:dH<(a0.size:Int):=ay bM;have auB:=bO a0 dH;replace p10:=eq_true p10;replace q10:=eq_true q10;go_wp2_with(((with_reducible refine fO (b:=.append) (xs:=#[.tmp 24,.tmp 28]) rfl ?_);(try(refine kK (by rfl) ?_;dsimp only));at_builtin;refine Kd.kJ (Kd.int .u8) (w0:=w) w.heap.size rfl (.tmp 24) (.tmp 28) 100 5 (.int .u8 0) 1 rfl Tryz.underlying100 info5 rfl aA ae u3 dD (bt a0 dH) [.int .u8 (bt a0 dH)] (fun _=>True) (fun _=>False) rfl rfl ?aP (fun _ hk=>hk.elim) ?aF ?aO ?aB ?aS ?aL ?_;(case aP=>exact rfl);(case aB=>exact aX);(case aF=>exact(fun _ _=>trivial));(case aO=>exact Ma);(case aS=>exact(aN aX));(case aL=>have:=Xl.out;omega);intro aGc gG ho hb hg hat;rw[<- awM.out] at ho;have Ea:=aa.mk (hb);have Eb:=aa.mk (ho);clear HB;clear iV;have HB:=Ea;have aEB:=Eb;clear Ea Eb;clear ho hb hg hat));go_roundg GD
       case measure=>have:=ig.out;have:=HJ2.out;omega
       case rel=>exact⟨(awL),(wrap64 (dH+1)),bR,H,⟨Zg⟩,⟨qE⟩,⟨aX⟩⟩
      ·obtain⟨JD,Vv⟩:∃ j_:Int,(wrap64 (dH+1))=j_:=⟨_,rfl⟩;(first|rw[Vv] at H|simp only[Vv] at H ⊢)
       have aBg:(IntKind.i64.wrap (dH+1))=JD:=(dU _).trans Vv;replace H:=gN H;obtain⟨-,Lm,wu,H⟩:=H;replace H:=gN H;obtain⟨c15,Dh,sQ,H⟩:=H;replace H:=gN H;obtain⟨c16,Bu,sS,H⟩:=H;replace H:=gD H;obtain⟨⟨t244,t245⟩,WV,H⟩:=H;dsimp only at H;replace H:=gB H;rcases H with⟨rfl,H⟩|⟨rfl,H⟩
       ·replace H:=xE H;rcases H with⟨A19,H⟩|⟨A19,H⟩
        ·replace H:=gN H;obtain⟨c21,-,-,H⟩:=H;have awN:=aa.mk c21;clear c21;obtain⟨awO,Yx⟩:∃ y_:List Int,y_=(dD ++ [(t244)%256]):=⟨_,rfl⟩;replace H:(aW.l0 GD a0 awO (wrap64 ((wrap64 (dH+2))+1)))=some r:=by first|(rw[Yx];with_reducible exact H)|(have kP:=(ax _ _).symm.trans H;rw[Yx];with_reducible exact kP)|(have kP:=(ax _ _).symm.trans H;with_reducible exact kP)|with_reducible exact H|(rw[Yx];exact H)|exact H
         have awP:=aa.mk Yx;clear Yx;replace H:=aa.mk H;go_wp2_with(first|((with_reducible refine cZ 211 rfl ?_);refine nU (some 37) rfl rfl Tryz.func211 dK rfl #[.string (a0.extract ((JD):Int).toNat ((wrap64 (dH+3)):Int).toNat)] rfl ajL ?_;(with_reducible refine(dN.calls GD (a0.extract ((JD):Int).toNat ((wrap64 (dH+3)):Int).toNat) t244 true _ WV.out).mono ?_);rintro e w' ⟨rfl,⟨nd,rfl⟩⟩;refine⟨_,rfl,?_⟩)|((with_reducible refine cZ 212 rfl ?_);refine mM 65 rfl Tryz.func212 (iZ.calls GD ((t244)%256) true _ A19.out) fun nd=>?_)|((with_reducible refine fO (b:=.append) (xs:=#[.tmp 66,.tmp 69]) rfl ?_);(try(refine kK (by rfl) ?_;dsimp only));at_builtin;refine Kd.kJ (Kd.int .u8) (w0:=w) w.heap.size rfl (.tmp 66) (.tmp 69) 100 5 (.int .u8 0) 1 rfl Tryz.underlying100 info5 rfl aA ae u3 dD ((t244)%256) [.int .u8 ((t244)%256)] (fun _=>True) (fun _=>False) rfl rfl ?aP (fun _ hk=>hk.elim) ?aF ?aO ?aB ?aS ?aL ?_;(case aP=>exact rfl);(case aB=>exact aX);(case aF=>exact(fun _ _=>trivial));(case aO=>exact Ma);(case aS=>exact(aN aX));(case aL=>have:=awN.out;omega);intro aGd jH ho hb hg hat;rw[<- awP.out] at ho;have Ee:=aa.mk (hb);have Ef:=aa.mk (ho);clear HB;clear iV;have HB:=Ee;have aEC:=Ef;clear Ee Ef;clear ho hb hg hat));go_roundg GD
         case measure=>have:=ig.out;have:=HJ2.out;omega
         case rel=>exact⟨(awO),(wrap64 ((wrap64 (dH+2))+1)),bR,H,⟨Zg⟩,⟨qE⟩,⟨aX⟩⟩
        ·replace H:=gN H;obtain⟨-,Le,-,H⟩:=H;replace H:=gD H;obtain⟨Yt,UD,H⟩:=H;obtain⟨UX,LP⟩:∃ j_:Int,(wrap64 (dH+2))=j_:=⟨_,rfl⟩;(first|rw[LP] at H|simp only[LP] at H ⊢)
         (try rw[LP] at WV)
         (try rw[LP] at A19)
         (try rw[LP] at UD)
         have aBh:(IntKind.i64.wrap (dH+2))=UX:=(dU _).trans LP;replace H:=gN H;obtain⟨-,IW,-,H⟩:=H;replace H:=gN H;obtain⟨-,Ov,-,H⟩:=H;replace H:=gD H;obtain⟨Yu,ZP,H⟩:=H;obtain⟨Yv,Yy⟩:∃ y_:List Int,y_=(([37,Yt,Yu]:List Int)):=⟨_,rfl⟩;replace H:(if dD.length+Yv.length<140737488355328 then(aW.l0 GD a0 (dD++Yv) (wrap64 ((UX)+1))) else(none))=some r:=by first|(rw[Yy];with_reducible exact H)|(have kP:=(ax _ _).symm.trans H;rw[Yy];with_reducible exact kP)|(have kP:=(ax _ _).symm.trans H;with_reducible exact kP)|with_reducible exact H|(rw[Yy];exact H)|exact H
         have apc:=aa.mk Yy;clear Yy;replace H:=gN H;obtain⟨c31,-,-,H⟩:=H;have awQ:=aa.mk c31;clear c31;obtain⟨awR,Yz⟩:∃ y_:List Int,y_=(dD++Yv):=⟨_,rfl⟩;replace H:(aW.l0 GD a0 awR (wrap64 ((UX)+1)))=some r:=by first|(rw[Yz];with_reducible exact H)|(have kP:=(ax _ _).symm.trans H;rw[Yz];with_reducible exact kP)|(have kP:=(ax _ _).symm.trans H;with_reducible exact kP)|with_reducible exact H|(rw[Yz];exact H)|exact H
         have awS:=aa.mk Yz;clear Yz;replace H:=aa.mk H;try go_wp2_with(first|((with_reducible refine cZ 211 rfl ?_);refine nU (some 37) rfl rfl Tryz.func211 dK rfl #[.string (a0.extract ((JD):Int).toNat ((wrap64 (dH+3)):Int).toNat)] rfl ajL ?_;(with_reducible refine(dN.calls GD (a0.extract ((JD):Int).toNat ((wrap64 (dH+3)):Int).toNat) t244 true _ WV.out).mono ?_);rintro e w' ⟨rfl,⟨nd,rfl⟩⟩;refine⟨_,rfl,?_⟩)|((with_reducible refine cZ 212 rfl ?_);refine mM 65 rfl Tryz.func212 (iZ.calls GD ((t244)%256) false _ A19.out) fun nd=>?_))
         (try(rw[ko wc];generalize hq_:World.drewN wc _=wc;have yJ:aa (Kd.R (Kd.int .u8) 5 wc w.heap.size (fun _=>True) u3 dD):=⟨by rw[<- hq_];exact Ma⟩;have xP:aa (Below w.heap.size w wc):=⟨by rw[<- hq_];exact aX⟩;clear iV HB hq_;have iV:=yJ;have HB:=xP;clear yJ xP))
         replace iV:=aa.mk (Kd.dB iV.out);replace HB:=aa.mk (bE HB.out);have p24:0<=((JD):Int):=ay bM;have q24:(JD)<(a0.size:Int):=ay bM;have hx24:=bO a0 (JD);replace p24:=eq_true p24;replace q24:=eq_true q24;have p29:0<=((UX):Int):=ay bM;have q29:(UX)<(a0.size:Int):=ay bM;have hx29:=bO a0 (UX);replace p29:=eq_true p29;replace q29:=eq_true q29;refine jP (n:=14) (S:=fun w'=>True) (ds:=[]) trivial (fun hHeld=>?_);refine dw aW.aBf aW.awK (fun HT_ HW_=>?_);generalize wc.drew=wS at iV HB hHeld ⊢;repeat(first|refine lC ?_ (hy:=Or.inl ⟨by rfl,by intro w' _;go_simp;with_reducible rfl⟩)|refine dA ?_)
         refine bq 6 (some 46) ?_;refine bq 7 (some 47) ?_;refine bq 8 (some 48) ?_;refine fB 9 (some 49) (hy:=Or.inl ⟨by rfl,by intro w' _;go_simp;with_reducible rfl⟩) ?_;refine fG (fun K hK=>?_);refine jZ Tryz.func213 dK rfl #[.int .u8 (bt a0 (JD))] (by rfl) rfl rfl ajL ?_;(with_reducible refine(nX.calls (bt a0 (JD)) Yt _ UD.out).mono ?_);rintro e w' ⟨rfl,⟨nd,rfl⟩⟩;refine⟨_,rfl,?_⟩;refine hK.out _ _ trivial (fun hHeld=>?_);clear hK K;refine bY ?_;refine fG (fun K hK=>?_);refine jZ Tryz.func213 dK rfl #[.int .u8 (bt a0 (UX))] (by rfl) rfl rfl (by(try simp only[List.map_toArray,List.map_cons,List.map_nil]);first|done|(simp only[LP];rfl)|rfl|(simp only[List.length_drop,List.length_take];rfl)) ?_;(with_reducible refine(nX.calls (bt a0 (UX)) Yu _ ZP.out).mono ?_);rintro e w' ⟨rfl,⟨nd,rfl⟩⟩;refine⟨_,rfl,?_⟩;refine hK.out _ _ trivial (fun hHeld=>?_);clear hK K;refine bY ?_;refine Fh (i:=11) (N:=some 51) #[true,true,true,true,true,true,true,true,true,true,true,true,false,false] rfl rfl (vJ HT_.out dK) aA (fun K hK=>?_);refine Kd.Cc (Kd.int .u8) _ 5 ?hg (N:=51) ?hd (xs:=([37,Yt,Yu]:List Int)) (inner:=[.int .u8 37,.int .u8 Yt,.int .u8 Yu]) (ok:=fun _=>True) (okp:=fun _=>True) ?hr ?hp (fun _ hk=>hk) trivial (Below.refl _ _) (Nat.le_refl _) (by simp) ?_;(case hd=>rfl);(case hg=>rfl);(case hr=>first|(go_simp;done)|(go_simp;rfl));(case hp=>exact(fI.one (show Kd.M (Kd.int .u8) _ _ _ 37 [.int .u8 37] from rfl) (fI.one (show Kd.M (Kd.int .u8) _ _ _ Yt [.int .u8 Yt] from rfl) (fI.one (show Kd.M (Kd.int .u8) _ _ _ Yu [.int .u8 Yu] from rfl) (fI.none _ _)))));intro aGe uo aeo hb hg_ hnew_;clear hg_ hnew_;(first|rw[<- apc.out] at aeo|(simp only[Int.reduceToNat] at aeo;rw[<- apc.out] at aeo))
         have Td:=aa.mk (Kd.gu (Kd.rq aeo (Kd.vI Ma)) (aN aX));replace iV:=aa.mk (Kd.zh Ma (Kd.qo aeo) hb);replace HB:=fw hb;clear hb aeo;obtain⟨akG,akH,aaA⟩:=Kd.eD Td.out;(first|subst aaA|(injection aaA with IC Uu IE;have Uv:=IC.symm;have Uw:=IE.symm;clear IC Uu IE;subst Uv;subst Uw))
         refine hK.out _ _ trivial (fun hHeld=>?_);clear hK K;refine zk (some 51) ?_;refine Fh (i:=12) (N:=some 52) #[true,true,true,true,true,true,true,true,true,true,true,true,true,false] rfl rfl (vJ HT_.out dK) aA (fun K hK=>?_);refine Kd.zi (Kd.int .u8) (w0:=w) w.heap.size (by rfl) (.tmp 40) (.tmp 51) 100 5 (.int .u8 0) 1 rfl Tryz.underlying100 info5 rfl aA ae u3 dD Yv _ _ _ (fun k_=>some k_≠(.slice akG Yv.length akH:Value).ownBlock) (fun _=>False) rfl rfl ?aO ?aR (fun _ _ h=>h) (fun _ h=>h.elim) ?aF ?aB ?aS ?aL ?_;(case aR=>repeat(first|exact(Kd.aH Td.out).2.2|(with_reducible refine Kd.lK ?_ _)|(with_reducible refine Kd.lL ?_ _)|(with_reducible refine Kd.nM ?_)))
         (case aB=>exact aX)
         (case aF=>exact(fun k_ hk=>Kd.fresh' (Kd.vI (by(with_reducible repeat(first|apply Kd.cK|apply Kd.cz|apply Kd.dB));exact Td.out)) k_ hk))
         (case aO=>exact(by(with_reducible repeat(first|apply Kd.cK|apply Kd.cz|apply Kd.dB));exact Kd.kg iV.out (fun _ hk=>hk.2)))
         (case aS=>exact(aN aX))
         (case aL=>have:=awQ.out;omega)
         intro aGf Af ho hb hg hat;rw[<- awS.out] at ho;have yJ:=aa.mk (Kd.xD (ok:=(fun _=>True)) (by(with_reducible repeat(first|apply Kd.cK|apply Kd.cz|apply Kd.dB));exact Td.out) hg hat);have xP:=aa.mk (hb);have apd:=aa.mk (ho);clear Td;clear HB;clear iV;have Td:=yJ;have HB:=xP;have awT:=apd;clear yJ xP apd;clear ho hb hg hat;refine hK.out _ _ trivial (fun hHeld=>?_);clear hK K;refine zk (some 52) ?_;repeat(first|refine dA ?_)
         refine kI (fP HT_.out dK) ?_;try go_wp2
         go_roundg GD
         case measure=>have:=ig.out;have:=HJ2.out;omega
         case rel=>exact⟨(awR),(wrap64 ((UX)+1)),(by first|rfl|(simp;done)|(simp only[<- LP] <;> (first|rfl|simp))|(simp[*];done)),H,⟨Zg⟩,⟨by(with_reducible repeat(first|apply Kd.cK|apply Kd.cz|apply Kd.dB));exact Kd.kg awT.out (fun _ hk=>trivial)⟩,⟨aX⟩⟩
       ·replace H:=gN H;obtain⟨-,Xk,-,H⟩:=H;replace H:=gN H;obtain⟨-,aED,-,H⟩:=H;replace H:=gN H;obtain⟨c40,-,-,H⟩:=H;have WG:=aa.mk c40;clear c40;obtain⟨awU,YA⟩:∃ y_:List Int,y_=(dD ++ [bt a0 dH]):=⟨_,rfl⟩;replace H:(aW.l0 GD a0 awU JD)=some r:=by first|(rw[YA];with_reducible exact H)|(have kP:=(ax _ _).symm.trans H;rw[YA];with_reducible exact kP)|(have kP:=(ax _ _).symm.trans H;with_reducible exact kP)|with_reducible exact H|(rw[YA];exact H)|exact H
        have awV:=aa.mk YA;clear YA;replace H:=aa.mk H;go_wp2_with(first|((with_reducible refine cZ 211 rfl ?_);refine nU (some 37) rfl rfl Tryz.func211 dK rfl #[.string (a0.extract ((JD):Int).toNat ((wrap64 (dH+3)):Int).toNat)] rfl ajL ?_;(with_reducible refine(dN.calls GD (a0.extract ((JD):Int).toNat ((wrap64 (dH+3)):Int).toNat) t244 false _ WV.out).mono ?_);rintro e w' ⟨rfl,⟨nd,rfl⟩⟩;refine⟨_,rfl,?_⟩;have p39:0<=(dH:Int):=ay bM;have q39:dH<(a0.size:Int):=ay bM;have hx39:=bO a0 dH;replace p39:=eq_true p39;replace q39:=eq_true q39)|((with_reducible refine fO (b:=.append) (xs:=#[.tmp 56,.tmp 60]) rfl ?_);(try(refine kK (by rfl) ?_;dsimp only));at_builtin;refine Kd.kJ (Kd.int .u8) (w0:=w) w.heap.size rfl (.tmp 56) (.tmp 60) 100 5 (.int .u8 0) 1 rfl Tryz.underlying100 info5 rfl aA ae u3 dD (bt a0 dH) [.int .u8 (bt a0 dH)] (fun _=>True) (fun _=>False) rfl rfl ?aP (fun _ hk=>hk.elim) ?aF ?aO ?aB ?aS ?aL ?_;(case aP=>exact rfl);(case aB=>exact aX);(case aF=>exact(fun _ _=>trivial));(case aO=>exact Ma);(case aS=>exact(aN aX));(case aL=>have:=WG.out;omega);intro aGg Kb ho hb hg hat;rw[<- awV.out] at ho;have ape:=aa.mk (hb);have apf:=aa.mk (ho);clear HB;clear iV;have HB:=ape;have aEE:=apf;clear ape apf;clear ho hb hg hat));go_roundg GD
        case measure=>have:=ig.out;have:=HJ2.out;omega
        case rel=>exact⟨(awU),(JD),(by first|rfl|(simp;done)|(simp only[<- Vv] <;> (first|rfl|simp))|(simp[*];done)),H,⟨Zg⟩,⟨qE⟩,⟨aX⟩⟩
   ·obtain rfl:=aI H;have aEF:=sJ (P:=Tryz.prog) Tryz.underlying100 Tryz.underlying5 Tryz.underlying9 (Kd.vH iV.out);go_wp2;go_ret;exact⟨jv,aX⟩


def gJ.l0 : Nat->ByteArray->Int->List ByteArray->Int->Int->Option (List ByteArray)
 |0,_,_,_,_,_=>none
 |k+1,x0,x1,x5,x6,x7=>if x7<=(x0.size:Int) then(if x7=(x0.size:Int) then(if 0<=x6 then(if x6<=x7 then(if x5.length<8796093022208 then(gJ.l0 k x0 x1 (x5 ++ [x0.extract (x6:Int).toNat (x7:Int).toNat]) (wrap64 (x7+1)) (wrap64 (x7+1))) else(none)) else(none)) else(none)) else(if 0<=x7 then(if x7<(x0.size:Int) then(if(bt x0 x7)=x1 then(if 0<=x6 then(if x6<=x7 then(if x5.length<8796093022208 then(gJ.l0 k x0 x1 (x5 ++ [x0.extract (x6:Int).toNat (x7:Int).toNat]) (wrap64 (x7+1)) (wrap64 (x7+1))) else(none)) else(none)) else(none)) else(gJ.l0 k x0 x1 x5 x6 (wrap64 (x7+1)))) else(none)) else(none))) else(some x5)
def gJ.f (k:Nat) (a0:ByteArray) (a1:Int):Option (List ByteArray):=gJ.l0 k a0 a1 ([]:List ByteArray) 0 0
theorem gJ.calls (k:Nat) (a0:ByteArray) (a1:Int) (r:List ByteArray) (w:World) (h:gJ.f k a0 a1=some r) :
  Calls Tryz.prog 181 #[.string a0,.int .u8 a1] w fun e w'=>∃ Df:Value,e = .returned (Df)/\Kd.R Kd.string 9 w' w.heap.size (fun _=>True) Df r/\Below w.heap.size w w':=by
 have HB:=aa.mk (Below.refl w.heap.size w);have H:=h;clear h;unfold gJ.f at H;replace H:=aa.mk H;go_enter Tryz.func181,Tryz.ntmps181;go_wp2;go_loopg [5,6,7] k (fun kq v5 v6 v7 w'=>∃(bu:List ByteArray) (jl:Int) (nI:Int),v6 = .int .i64 jl/\v7 = .int .i64 nI/\aa (gJ.l0 kq a0 a1 bu jl nI=some r)/\aa (kq<=k)/\aa (Kd.R Kd.string 9 w' w.heap.size (fun _=>True) v5 bu)/\aa (Below w.heap.size w w'))
 case atStart=>exact⟨(([]:List ByteArray)),(0),(0),bR,bR,H,⟨Nat.le_refl _⟩,⟨Hz⟩,⟨aX⟩⟩
 case round=>
  clear H;obtain⟨bu,jl,nI,rfl,rfl,HA,ig,ow,HB⟩:=hrel;cases gk with
  |zero=>exact absurd HA.out (by simp[gJ.l0])
  |succ k1=>
   have H:=HA.out;clear HA;simp only[gJ.l0] at H;replace H:=gI H;rcases H with⟨-,cB,-,H⟩|⟨-,cB,-,H⟩
   ·replace H:=gI H;rcases H with⟨c4,-,-,H⟩|⟨c4,-,-,H⟩
    ·obtain⟨jr,qy⟩:=kT c4;clear c4;replace H:=gN H;obtain⟨-,rO,jV,H⟩:=H;replace H:=gN H;obtain⟨-,pq,jy,H⟩:=H;have nR:=eq_true (ay bM:nI<=(a0.size:Int));replace H:=gN H;obtain⟨c8,-,-,H⟩:=H;have aBi:=aa.mk c8;clear c8;obtain⟨awW,YB⟩:∃ y_:List ByteArray,y_=(bu ++ [a0.extract (jl:Int).toNat (nI:Int).toNat]):=⟨_,rfl⟩;replace H:(gJ.l0 k1 a0 a1 awW (wrap64 (nI+1)) (wrap64 (nI+1)))=some r:=by first|(rw[YB];with_reducible exact H)|(have kP:=(ax _ _).symm.trans H;rw[YB];with_reducible exact kP)|(have kP:=(ax _ _).symm.trans H;with_reducible exact kP)|with_reducible exact H|(rw[YB];exact H)|exact H
     have awX:=aa.mk YB;clear YB;replace H:=aa.mk H;go_wp2_with(first|((with_reducible refine fO (b:=.append) (xs:=#[.tmp 25,.tmp 30]) rfl ?_);at_builtin;refine Kd.kJ Kd.string (w0:=w) w.heap.size rfl (.tmp 25) (.tmp 30) 76 9 (.string ⟨#[]⟩) 16 rfl Tryz.underlying76 Bg rfl aA ae u5 bu (a0.extract (jl:Int).toNat (nI:Int).toNat) [.string (a0.extract (jl:Int).toNat (nI:Int).toNat)] (fun _=>True) (fun _=>False) rfl rfl ?aP (fun _ hk=>hk.elim) ?aF ?aO ?aB ?aS ?aL ?_;(case aP=>exact rfl);(case aB=>exact aX);(case aF=>exact(fun _ _=>trivial));(case aO=>exact Mc);(case aS=>exact(aN aX));(case aL=>have:=aBi.out;omega);intro aGh w9 ho hb hg hat;rw[<- awX.out] at ho;have kR:=aa.mk (hb);have lF:=aa.mk (ho);clear HB;clear ow;have HB:=kR;have aEG:=lF;clear kR lF;clear ho hb hg hat));go_roundg k1
     case measure=>have:=ig.out;omega
     case rel=>exact⟨(awW),(wrap64 (nI+1)),(wrap64 (nI+1)),bR,bR,H,⟨by have:=ig.out;omega⟩,⟨qE⟩,⟨aX⟩⟩
    ·obtain⟨jr,qy⟩:=kU c4;replace H:=gN H;obtain⟨-,pX,-,H⟩:=H;replace H:=gN H;obtain⟨-,oV,-,H⟩:=H;replace H:=gI H;rcases H with⟨c13,-,-,H⟩|⟨c13,-,-,H⟩
     ·obtain⟨qG,wo⟩:=kT c13;clear c13;replace H:=gN H;obtain⟨-,Lm,wu,H⟩:=H;replace H:=gN H;obtain⟨-,Dh,sQ,H⟩:=H;have sS:=eq_true (ay bM:nI<=(a0.size:Int));replace H:=gN H;obtain⟨c17,-,-,H⟩:=H;have agZ:=aa.mk c17;clear c17;obtain⟨awY,YC⟩:∃ y_:List ByteArray,y_=(bu ++ [a0.extract (jl:Int).toNat (nI:Int).toNat]):=⟨_,rfl⟩;replace H:(gJ.l0 k1 a0 a1 awY (wrap64 (nI+1)) (wrap64 (nI+1)))=some r:=by first|(rw[YC];with_reducible exact H)|(have kP:=(ax _ _).symm.trans H;rw[YC];with_reducible exact kP)|(have kP:=(ax _ _).symm.trans H;with_reducible exact kP)|with_reducible exact H|(rw[YC];exact H)|exact H
      have awZ:=aa.mk YC;clear YC;replace H:=aa.mk H;have SF:0<=(nI:Int):=ay bM;have SG:nI<(a0.size:Int):=ay bM;have aej:=bO a0 nI;replace SF:=eq_true SF;replace SG:=eq_true SG;go_wp2_with(first|((with_reducible refine fO (b:=.append) (xs:=#[.tmp 25,.tmp 30]) rfl ?_);at_builtin;refine Kd.kJ Kd.string (w0:=w) w.heap.size rfl (.tmp 25) (.tmp 30) 76 9 (.string ⟨#[]⟩) 16 rfl Tryz.underlying76 Bg rfl aA ae u5 bu (a0.extract (jl:Int).toNat (nI:Int).toNat) [.string (a0.extract (jl:Int).toNat (nI:Int).toNat)] (fun _=>True) (fun _=>False) rfl rfl ?aP (fun _ hk=>hk.elim) ?aF ?aO ?aB ?aS ?aL ?_;(case aP=>exact rfl);(case aB=>exact aX);(case aF=>exact(fun _ _=>trivial));(case aO=>exact Mc);(case aS=>exact(aN aX));(case aL=>have:=agZ.out;omega);intro aGi w18 ho hb hg hat;rw[<- awZ.out] at ho;have kR:=aa.mk (hb);have lF:=aa.mk (ho);clear HB;clear ow;have HB:=kR;have aEH:=lF;clear kR lF;clear ho hb hg hat));go_roundg k1
      case measure=>have:=ig.out;omega
      case rel=>exact⟨(awY),(wrap64 (nI+1)),(wrap64 (nI+1)),bR,bR,H,⟨by have:=ig.out;omega⟩,⟨qE⟩,⟨aX⟩⟩
     ·obtain⟨qG,wo⟩:=kU c13;replace H:=aa.mk H;have SF:0<=(nI:Int):=ay bM;have SG:nI<(a0.size:Int):=ay bM;have aej:=bO a0 nI;replace SF:=eq_true SF;replace SG:=eq_true SG;go_wp2;go_roundg k1
      case measure=>have:=ig.out;omega
      case rel=>exact⟨(bu),(jl),(wrap64 (nI+1)),bR,bR,H,⟨by have:=ig.out;omega⟩,⟨qE⟩,⟨aX⟩⟩
   ·obtain rfl:=aI H;go_wp2;go_ret;exact⟨_,jv,qE,aX⟩

theorem obE {A:Option Addr} {n c m d:Nat}:(Value.slice A n c).ownBlock=(Value.slice A m d).ownBlock:=by cases A <;> rfl
theorem WC {α:Type} {d:Kd α} {e:Nat} {w:World} {base n m c c2:Nat} {A:Option Addr} {v:Value} {xs:List α} (h:d.R e w base (fun k=>some k≠(Value.slice A n c).ownBlock) v xs):d.R e w base (fun k=>some k≠(Value.slice A m c2).ownBlock) v xs:=
 Kd.kg h (fun k hk=>by rw[obE (m:=n) (d:=c)];exact hk)

mutual
def av.j0 : Nat->ByteArray->Bool->Option (ByteArray)
 |0,_,_=>none
 |k+1,x0,x27=>if x27=true then(some (⟨#[]⟩:af)) else(av.l0 k x0 0)
def av.l0 : Nat->ByteArray->Int->Option (ByteArray)
 |0,_,_=>none
 |k+1,x0,x3=>if x3<(x0.size:Int) then(if 0<=x3 then(if(bt x0 x3)=35 then(some (⟨#[]⟩:af)) else(if(bt x0 x3)=63 then(some (⟨#[]⟩:af)) else(av.l0 k x0 (wrap64 (x3+1))))) else(none)) else((aW.f k x0).bind fun aaV=>(if 1<=(aaV.size:Int) then((gJ.f k (aaV.extract 1 aaV.size) 47).bind fun uD=>(av.l1 k uD ([]:List ByteArray) 0)) else(none)))
def av.l1 : Nat->List ByteArray->List ByteArray->Int->Option (ByteArray)
 |0,_,_,_=>none
 |k+1,x4,x5,x6=>if x6<(x4.length:Int) then(if 0<=x6 then(if(dh ByteArray.empty x4 x6).toList=([46]:aQ) then(av.j3 k x4 x5 x6 true) else(av.j3 k x4 x5 x6 ((dh ByteArray.empty x4 x6).toList==([46,46]:aQ)))) else(none)) else(av.l2 k x5 (⟨#[]⟩:af) 0)
def av.j3 : Nat->List ByteArray->List ByteArray->Int->Bool->Option (ByteArray)
 |0,_,_,_,_=>none
 |k+1,x4,x5,x6,x7=>if 0<=x6 then(if x6<(x4.length:Int) then(if(dh ByteArray.empty x4 x6).toList=([46,46]:aQ) then(av.j4 k x4 x5 x6 x7 (decide ((x5.length:Int)>0))) else(av.j4 k x4 x5 x6 x7 false)) else(none)) else(none)
def av.j4 : Nat->List ByteArray->List ByteArray->Int->Bool->Bool->Option (ByteArray)
 |0,_,_,_,_,_=>none
 |k+1,x4,x5,x6,x7,x75=>if x75=true then(if 0<=(wrap64 ((x5.length:Int)-1)) then(if(wrap64 ((x5.length:Int)-1))<=(x5.length:Int) then(av.j5 k x4 (x5.take ((wrap64 ((x5.length:Int)-1)):Int).toNat) x6 x7) else(none)) else(none)) else(av.j5 k x4 x5 x6 x7)
def av.j5 : Nat->List ByteArray->List ByteArray->Int->Bool->Option (ByteArray)
 |0,_,_,_,_=>none
 |k+1,x4,x5,x6,x7=>if x7=true then(if(wrap64 (x6+1))=(x4.length:Int) then(if x5.length<8796093022208 then(av.l1 k x4 (x5 ++ [(⟨#[]⟩:af)]) (wrap64 (x6+1))) else(none)) else(av.l1 k x4 x5 (wrap64 (x6+1)))) else(if 0<=x6 then(if x6<(x4.length:Int) then(if x5.length<8796093022208 then(av.l1 k x4 (x5 ++ [dh ByteArray.empty x4 x6]) (wrap64 (x6+1))) else(none)) else(none)) else(none))
def av.l2 : Nat->List ByteArray->ByteArray->Int->Option (ByteArray)
 |0,_,_,_=>none
 |k+1,x5,x8,x9=>if x9<(x5.length:Int) then(if x8.size+1<=9223372036854775807 then(if 0<=x9 then(if(x8++(⟨#[47]⟩:af)).size+(dh ByteArray.empty x5 x9).size<=9223372036854775807 then(av.l2 k x5 ((x8++(⟨#[47]⟩:af))++(dh ByteArray.empty x5 x9)) (wrap64 (x9+1))) else(none)) else(none)) else(none)) else(if x8.toList=([]:aQ) then(some (⟨#[47]⟩:af)) else(some x8))
end
def av.f (k:Nat) (a0:ByteArray):Option (ByteArray):=if(a0.size:Int)=0 then(av.j0 k a0 true) else(if(a0.size:Int)>200 then(av.j0 k a0 true) else(if 0<(a0.size:Int) then(if(bt a0 0)=47 then((df.f k a0).bind fun am7=>(av.j0 k a0 (!am7))) else(av.j0 k a0 true)) else(none)))
theorem av.calls (k:Nat) (a0 r:ByteArray) (w:World) (h:av.f k a0=some r) :
  Calls Tryz.prog 142 #[.string a0] w fun e w'=>e = .returned (.string r)/\Below w.heap.size w w':=by
 have HB:=aa.mk (Below.refl w.heap.size w);have H:=h;clear h;unfold av.f at H;have qz:=aa.mk H;clear H;go_enter Tryz.func142,Tryz.ntmps142;go_upto_region 1 with(fail);go_cut [27] (fun v27 wc=>∃(kq:Nat) (Pv:Bool),v27 = .bool Pv/\aa (av.j0 kq a0 Pv=some r)/\aa (kq<=k)/\aa (Below w.heap.size w wc))
 case first=>
  have H:=qz.out;clear qz;replace H:=gI H;rcases H with⟨c3,-,-,H⟩|⟨c3,-,-,H⟩
  ·obtain⟨cB,nE⟩:=kT c3;clear c3;(first|rw[cB]|(simp only[dU,fK];rw[cB])|skip)
   replace H:=aa.mk H;go_wp2;go_meet
   case rel=>exact⟨_,(true),bR,H,⟨tT⟩,⟨aX⟩⟩
  ·obtain⟨cB,nE⟩:=kU c3;(first|rw[cB]|(simp only[dU,fK];rw[cB])|skip)
   replace H:=gI H;rcases H with⟨c4,-,-,H⟩|⟨c4,-,-,H⟩
   ·have jr:decide (200<(a0.size:Int))=true:=bK c4;have qy:decide (200<a0.size)=true:=bK ae;clear c4;replace H:=aa.mk H;go_wp2;go_meet
    case rel=>exact⟨_,(true),bR,H,⟨tT⟩,⟨aX⟩⟩
   ·have jr:decide (200<(a0.size:Int))=false:=bQ c4;have qy:decide (200<a0.size)=false:=bQ ae;clear c4;replace H:=gN H;obtain⟨c5,jV,-,H⟩:=H;have rO:decide (0<a0.size)=true:=bK ae;clear c5;replace H:=gI H;rcases H with⟨c7,-,-,H⟩|⟨c7,-,-,H⟩
    ·obtain⟨nR,Ag⟩:=kT c7;clear c7;replace H:=gD H;obtain⟨am7,A8,H⟩:=H;replace H:=aa.mk H;have p6:0<=(0:Int):=ae;have q6:0<a0.size:=(by have:(0:Int)<(a0.size:Int):=ay bM;omega);have hx6:∀ h:0<a0.size,((a0[0]'h).toNat:Int)=bt a0 0:=bO a0 0;clear p6;have qi6:(0<(a0.size:Int))=True:=eq_true (ay bM);replace q6:=eq_true q6;go_wp2_with(first|(go_at_call 100;(with_reducible refine(df.calls k a0 am7 _ A8.out).mono ?_);rintro e w' ⟨rfl,⟨nd,rfl⟩⟩));go_meet
     case rel=>exact⟨_,(!am7),bR,H,⟨tT⟩,⟨aX⟩⟩
    ·obtain⟨nR,Ag⟩:=kU c7;replace H:=aa.mk H;have p6:0<=(0:Int):=ae;have q6:0<a0.size:=(by have:(0:Int)<(a0.size:Int):=ay bM;omega);have hx6:∀ h:0<a0.size,((a0[0]'h).toNat:Int)=bt a0 0:=bO a0 0;clear p6;have qi6:(0<(a0.size:Int))=True:=eq_true (ay bM);replace q6:=eq_true q6;go_wp2;go_meet
     case rel=>exact⟨_,(true),bR,H,⟨tT⟩,⟨aX⟩⟩
 case rest=>
  clear qz;obtain⟨kq,Pv,rfl,HA,tC,HB⟩:=hcut;cases kq with
  |zero=>exact absurd HA.out (by simp[av.j0])
  |succ oz=>
   have H:=HA.out;clear HA;simp only[av.j0] at H;replace H:=gB H;rcases H with⟨rfl,H⟩|⟨rfl,H⟩
   ·obtain rfl:=aI H;go_wp2;go_ret;exact⟨jv,aX⟩
   ·replace H:=aa.mk H;go_wp2;go_loopg [3] oz (fun kq v3 w'=>∃(lZ:Int),v3 = .int .i64 lZ/\aa (av.l0 kq a0 lZ=some r)/\aa (kq<=oz)/\aa (Below w.heap.size w w'))
    case atStart=>exact⟨(0),bR,H,⟨Nat.le_refl _⟩,⟨aX⟩⟩
    case round=>
     clear H;obtain⟨lZ,rfl,HA,tO,HB⟩:=hrel;cases gk with
     |zero=>exact absurd HA.out (by simp[av.l0])
     |succ k2=>
      have H:=HA.out;clear HA;simp only[av.l0] at H;replace H:=gI H;rcases H with⟨-,pX,-,H⟩|⟨-,pX,-,H⟩
      ·replace H:=gN H;obtain⟨-,oV,-,H⟩:=H;replace H:=gI H;rcases H with⟨c13,-,-,H⟩|⟨c13,-,-,H⟩
       ·obtain⟨qG,wo⟩:=kT c13;clear c13;obtain rfl:=aI H;have SF:0<=(lZ:Int):=ay bM;have SG:lZ<(a0.size:Int):=ay bM;have aej:=bO a0 lZ;replace SF:=eq_true SF;replace SG:=eq_true SG;go_wp2;go_ret;exact⟨jv,aX⟩
       ·obtain⟨qG,wo⟩:=kU c13;replace H:=gI H;rcases H with⟨c15,-,-,H⟩|⟨c15,-,-,H⟩
        ·obtain⟨sQ,Dh⟩:=kT c15;clear c15;obtain rfl:=aI H;have SF:0<=(lZ:Int):=ay bM;have SG:lZ<(a0.size:Int):=ay bM;have aej:=bO a0 lZ;replace SF:=eq_true SF;replace SG:=eq_true SG;have p14:0<=(lZ:Int):=ay bM;have q14:lZ<(a0.size:Int):=ay bM;have aBj:=bO a0 lZ;replace p14:=eq_true p14;replace q14:=eq_true q14;go_wp2;go_ret;exact⟨jv,aX⟩
        ·obtain⟨sQ,Dh⟩:=kU c15;replace H:=aa.mk H;have SF:0<=(lZ:Int):=ay bM;have SG:lZ<(a0.size:Int):=ay bM;have aej:=bO a0 lZ;replace SF:=eq_true SF;replace SG:=eq_true SG;have p14:0<=(lZ:Int):=ay bM;have q14:lZ<(a0.size:Int):=ay bM;have aBj:=bO a0 lZ;replace p14:=eq_true p14;replace q14:=eq_true q14;go_wp2;go_roundg k2
         case measure=>have:=tC.out;have:=tO.out;omega
         case rel=>exact⟨(wrap64 (lZ+1)),bR,H,⟨Fj⟩,⟨aX⟩⟩
      ·replace H:=gD H;obtain⟨aaV,ZN,H⟩:=H;replace H:=gI H;rcases H with⟨-,Az,sP,H⟩|⟨c17,-,-,H⟩
       ·replace H:=gD H;obtain⟨uD,ZV,H⟩:=H;replace H:=aa.mk H;go_wp2_with(first|((with_reducible refine cZ 182 rfl ?_);refine iW 45 rfl Tryz.func182 (aW.calls k2 a0 aaV _ ZN.out) fun w19 hb HB=>?_;clear hb)|((with_reducible refine cZ 181 rfl ?_);refine NL 47 rfl Tryz.func181 (gJ.calls k2 (aaV.extract 1 aaV.size) 47 uD _ ZV.out) ?_;rintro e w20 ⟨aw0,rfl,ho0,hb⟩;refine⟨_,rfl,?_⟩;have aw1:=aa.mk (Kd.gu ho0 (aN aX));replace HB:=fw hb;clear hb;(try clear ho0)));go_loopg [5,6] k2 (fun kq v5 v6 w'=>∃(rD:List ByteArray) (tL:Int),v6 = .int .i64 tL/\aa (av.l1 kq uD rD tL=some r)/\aa (kq<=k2)/\aa (Kd.R Kd.string 9 w' w.heap.size (fun k_=>some k_≠(v5:Value).ownBlock) aw0 uD)/\aa (Kd.R Kd.string 9 w' w.heap.size (fun k_=>some k_≠(aw0:Value).ownBlock) v5 rD)/\aa (Below w.heap.size w w'))
        case atStart=>exact⟨(([]:List ByteArray)),(0),bR,H,⟨Nat.le_refl _⟩,⟨by(with_reducible repeat(first|apply Kd.cK|apply Kd.cz|apply Kd.dB));exact Kd.kg aw1.out (fun _ hk=>(by simp[Value.ownBlock]))⟩,⟨Hz⟩,⟨aX⟩⟩
        case round=>
         clear H;try clear pX
         try clear c17
         try clear sP
         try clear Az
         obtain⟨rD,tL,rfl,HA,TJ,rJ,ow,HB⟩:=hrel;cases gk with
         |zero=>exact absurd HA.out (by simp[av.l1])
         |succ k3=>
          have H:=HA.out;clear HA;simp only[av.l1] at H;replace H:=gI H;rcases H with⟨-,uw,-,H⟩|⟨-,uw,-,H⟩
          ·have ar0:=aa.mk H;clear H;obtain⟨aaW,YD,aBk⟩:=Kd.eD rJ.out;subst aBk;go_upto_region 13 with(fail);go_cut [7] (fun v7 wc=>∃(kq:Nat) (Te:Bool),v7 = .bool Te/\aa (av.j3 kq uD rD tL Te=some r)/\aa (kq<=k3)/\aa (Kd.R Kd.string 9 wc w.heap.size (fun k_=>some k_≠(u5:Value).ownBlock) (.slice aaW uD.length YD) uD)/\aa (Kd.R Kd.string 9 wc w.heap.size (fun k_=>some k_≠((.slice aaW uD.length YD):Value).ownBlock) u5 rD)/\aa (Below w.heap.size w wc))
           case first=>
            have H:=ar0.out;clear ar0;replace H:=gN H;obtain⟨-,yI,-,H⟩:=H;(first|rw[yI]|(simp only[dU,fK];rw[yI])|skip)
            replace H:=gI H;rcases H with⟨SA,-,-,H⟩|⟨SA,-,-,H⟩
            ·obtain⟨wz,O7⟩:=kT SA;clear SA;replace H:=aa.mk H;have aaX:0<=(tL:Int):=ay bM;have aaY:tL<(uD.length:Int):=ay bM;obtain⟨apg,e274,am8⟩:=Kd.eG (Kd.aH rJ.out).2.2 tL aaX aaY;cases e274
             replace aaX:=eq_true aaX;replace aaY:=eq_true aaY;go_wp2;go_meet
             case rel=>exact⟨_,(true),bR,H,⟨by have:=tC.out;have:=tO.out;have:=TJ.out;first|omega|exact Nat.le_refl _⟩,⟨qE⟩,⟨qE⟩,⟨aX⟩⟩
            ·obtain⟨wz,O7⟩:=kU SA;replace H:=aa.mk H;have aaX:0<=(tL:Int):=ay bM;have aaY:tL<(uD.length:Int):=ay bM;obtain⟨apg,e274,am8⟩:=Kd.eG (Kd.aH rJ.out).2.2 tL aaX aaY;cases e274
             replace aaX:=eq_true aaX;replace aaY:=eq_true aaY;have ar1:0<=(tL:Int):=ay bM;have ar2:tL<(uD.length:Int):=ay bM;obtain⟨aw2,e275,axC⟩:=Kd.eG (Kd.aH rJ.out).2.2 tL ar1 ar2;obtain rfl:apg=aw2:=(by injection e275);replace ar1:=eq_true ar1;replace ar2:=eq_true ar2;go_wp2;go_meet
             case rel=>exact⟨_,(((dh ByteArray.empty uD tL).toList==([46,46]:aQ))),bR,H,⟨by have:=tC.out;have:=tO.out;have:=TJ.out;first|omega|exact Nat.le_refl _⟩,⟨qE⟩,⟨qE⟩,⟨aX⟩⟩
           case rest=>
            clear ar0;try clear pX
            try clear c17
            try clear sP
            try clear Az
            try clear uw
            obtain⟨kq,Te,rfl,HA,QU,rJ,ow,HB⟩:=hcut;cases kq with
            |zero=>exact absurd HA.out (by simp[av.j3])
            |succ aBl=>
             have H:=HA.out;clear HA;simp only[av.j3] at H;have ar3:=aa.mk H;clear H;go_upto_region 14 with(fail);go_cut [75] (fun v75 wc=>∃(kq:Nat) (aaZ:Bool),v75 = .bool aaZ/\aa (av.j4 kq uD rD tL Te aaZ=some r)/\aa (kq<=aBl)/\aa (Kd.R Kd.string 9 wc w.heap.size (fun k_=>some k_≠(u5:Value).ownBlock) (.slice aaW uD.length YD) uD)/\aa (Kd.R Kd.string 9 wc w.heap.size (fun k_=>some k_≠((.slice aaW uD.length YD):Value).ownBlock) u5 rD)/\aa (Below w.heap.size w wc))
             case first=>
              have H:=ar3.out;clear ar3;replace H:=gN H;obtain⟨-,IW,-,H⟩:=H;(first|rw[IW]|(simp only[dU,fK];rw[IW])|skip)
              replace H:=gN H;obtain⟨-,Ov,-,H⟩:=H;replace H:=gI H;rcases H with⟨Sg,-,-,H⟩|⟨Sg,-,-,H⟩
              ·obtain⟨IU,IV⟩:=kT Sg;clear Sg;replace H:=aa.mk H;have aa0:0<=(tL:Int):=ay bM;have aa1:tL<(uD.length:Int):=ay bM;obtain⟨aw3,ar4,am9⟩:=Kd.eG (Kd.aH rJ.out).2.2 tL aa0 aa1;cases ar4
               replace aa0:=eq_true aa0;replace aa1:=eq_true aa1;obtain⟨aGj,aGk,aBm⟩:=Kd.eD ow.out;subst aBm;go_wp2;go_meet
               case rel=>exact⟨_,(decide ((rD.length:Int)>0)),bR,H,⟨by have:=tC.out;have:=tO.out;have:=TJ.out;have:=QU.out;first|omega|exact Nat.le_refl _⟩,⟨qE⟩,⟨qE⟩,⟨aX⟩⟩
              ·obtain⟨IU,IV⟩:=kU Sg;replace H:=aa.mk H;have aa0:0<=(tL:Int):=ay bM;have aa1:tL<(uD.length:Int):=ay bM;obtain⟨aw3,ar4,am9⟩:=Kd.eG (Kd.aH rJ.out).2.2 tL aa0 aa1;cases ar4
               replace aa0:=eq_true aa0;replace aa1:=eq_true aa1;go_wp2;go_meet
               case rel=>exact⟨_,(false),bR,H,⟨by have:=tC.out;have:=tO.out;have:=TJ.out;have:=QU.out;first|omega|exact Nat.le_refl _⟩,⟨qE⟩,⟨qE⟩,⟨aX⟩⟩
             case rest=>
              clear ar3;try clear pX
              try clear c17
              try clear sP
              try clear Az
              try clear uw
              obtain⟨kq,aaZ,rfl,HA,YE,rJ,ow,HB⟩:=hcut;cases kq with
              |zero=>exact absurd HA.out (by simp[av.j4])
              |succ aw4=>
               have H:=HA.out;clear HA;simp only[av.j4] at H;have ar5:=aa.mk H;clear H;go_upto_if 75 with(fail);go_cut [5] (fun v5 wc=>∃(kq:Nat) (LQ:List ByteArray),aa (av.j5 kq uD LQ tL Te=some r)/\aa (kq<=aw4)/\aa (Kd.R Kd.string 9 wc w.heap.size (fun k_=>some k_≠(v5:Value).ownBlock) (.slice aaW uD.length YD) uD)/\aa (Kd.R Kd.string 9 wc w.heap.size (fun k_=>some k_≠((.slice aaW uD.length YD):Value).ownBlock) v5 LQ)/\aa (Below w.heap.size w wc))
               case first=>
                have H:=ar5.out;clear ar5;replace H:=gB H;rcases H with⟨rfl,H⟩|⟨rfl,H⟩
                ·obtain⟨aep,ai2⟩:∃ j_:Int,(wrap64 ((rD.length:Int)-1))=j_:=⟨_,rfl⟩;(first|rw[ai2] at H|simp only[ai2] at H ⊢)
                 have aBn:(IntKind.i64.wrap ((rD.length:Int)-1))=aep:=(dU _).trans ai2;replace H:=gN H;obtain⟨-,XC,XD,H⟩:=H;replace H:=gN H;obtain⟨-,Wn,Wm,H⟩:=H;obtain⟨ar6,YF⟩:∃ y_:List ByteArray,y_=(rD.take ((aep):Int).toNat):=⟨_,rfl⟩;replace H:(av.j5 aw4 uD ar6 tL Te)=some r:=by first|(rw[YF];with_reducible exact H)|(have kP:=(ax _ _).symm.trans H;rw[YF];with_reducible exact kP)|(have kP:=(ax _ _).symm.trans H;with_reducible exact kP)|with_reducible exact H|(rw[YF];exact H)|exact H
                 have aph:=aa.mk YF;clear YF;replace H:=aa.mk H;obtain⟨akG,akH,aaA⟩:=Kd.eD ow.out;subst aaA;have q37:((aep):Int)<=((rD.length:Int):Int):=ay bM;obtain⟨aGl,api,_,aw5,_⟩:=info_parts Bg;have ar7:=aeP (P:=Tryz.prog) 76 9 .i64 Tryz.underlying76 api akG rD.length akH (aep) (ay bM) q37 (Kd.aH ow.out).2.1;have ana:=Kd.aeR (m:=((aep):Int).toNat) ow.out ae;have aw6:ar6.length=((aep):Int).toNat:=(by rw[aph.out,List.length_take];omega);rw[<- aph.out] at ana;rw[<- aw6] at ana ar7;clear aw6 api aw5 ow;have aEI:=aa.mk ana;clear ana;replace q37:=eq_true q37;go_wp2;go_meet
                 case rel=>exact⟨_,(ar6),H,⟨by have:=tC.out;have:=tO.out;have:=TJ.out;have:=QU.out;have:=YE.out;first|omega|exact Nat.le_refl _⟩,⟨by first|exact qE|exact WC (aa.out (by assumption))⟩,⟨by first|exact qE|exact WC (aa.out (by assumption))⟩,⟨aX⟩⟩
                ·replace H:=aa.mk H;go_wp2;go_meet
                 case rel=>exact⟨_,(rD),H,⟨by have:=tC.out;have:=tO.out;have:=TJ.out;have:=QU.out;have:=YE.out;first|omega|exact Nat.le_refl _⟩,⟨by first|exact qE|exact WC (aa.out (by assumption))⟩,⟨by first|exact qE|exact WC (aa.out (by assumption))⟩,⟨aX⟩⟩
               case rest=>
                clear ar5;try clear pX
                try clear c17
                try clear sP
                try clear Az
                try clear uw
                obtain⟨kq,LQ,HA,aeq,rJ,ow,HB⟩:=hcut;cases kq with
                |zero=>exact absurd HA.out (by simp[av.j5])
                |succ ai3=>
                 have H:=HA.out;clear HA;simp only[av.j5] at H;replace H:=gB H;rcases H with⟨rfl,H⟩|⟨rfl,H⟩
                 ·replace H:=gI H;rcases H with⟨MG,-,-,H⟩|⟨MG,-,-,H⟩
                  ·obtain⟨Dn,FQ⟩:=kT MG;clear MG;replace H:=gN H;obtain⟨c40,-,-,H⟩:=H;have WG:=aa.mk c40;clear c40;obtain⟨aw7,YG⟩:∃ y_:List ByteArray,y_=(LQ ++ [(⟨#[]⟩:af)]):=⟨_,rfl⟩;replace H:(av.l1 ai3 uD aw7 (wrap64 (tL+1)))=some r:=by first|(rw[YG];with_reducible exact H)|(have kP:=(ax _ _).symm.trans H;rw[YG];with_reducible exact kP)|(have kP:=(ax _ _).symm.trans H;with_reducible exact kP)|with_reducible exact H|(rw[YG];exact H)|exact H
                   have aw8:=aa.mk YG;clear YG;replace H:=aa.mk H;go_wp2_with(first|((with_reducible refine fO (b:=.append) (xs:=#[.tmp 95,.tmp 96]) rfl ?_);(try(refine kK (by rfl) ?_;dsimp only));at_builtin;refine Kd.kJ Kd.string (w0:=w) w.heap.size rfl (.tmp 95) (.tmp 96) 76 9 (.string ⟨#[]⟩) 16 rfl Tryz.underlying76 Bg rfl aA ae u5 LQ (⟨#[]⟩:af) [.string (⟨#[]⟩:af)] (fun k_=>some k_≠(.slice aaW uD.length YD:Value).ownBlock) (fun _=>False) rfl rfl ?aP (fun _ hk=>hk.elim) ?aF ?aO ?aB ?aS ?aL ?_;(case aP=>exact rfl);(case aB=>exact aX);(case aF=>exact(fun k_ hk=>Kd.fresh' (Kd.vI Qs) k_ hk));(case aO=>exact Mc);(case aS=>exact(aN aX));(case aL=>have:=WG.out;omega);intro aGm w41 ho hb hg hat;rw[<- aw8.out] at ho;have kR:=aa.mk (Kd.xD (ok:=(fun _=>True)) ae2 hg hat);have lF:=aa.mk (hb);have uy:=aa.mk (ho);clear rJ;clear HB;clear ow;have rJ:=kR;have HB:=lF;have aEJ:=uy;clear kR lF uy;clear ho hb hg hat));go_roundg ai3
                   case measure=>have:=tC.out;have:=tO.out;have:=TJ.out;have:=QU.out;have:=YE.out;have:=aeq.out;omega
                   case rel=>exact⟨(aw7),(wrap64 (tL+1)),bR,H,⟨by have:=tC.out;have:=tO.out;have:=TJ.out;have:=QU.out;have:=YE.out;have:=aeq.out;omega⟩,⟨by(with_reducible repeat(first|apply Kd.cK|apply Kd.cz|apply Kd.dB));exact Kd.kg rJ.out (fun _ hk=>hk.2)⟩,⟨qE⟩,⟨aX⟩⟩
                  ·obtain⟨Dn,FQ⟩:=kU MG;replace H:=aa.mk H;go_wp2;go_roundg ai3
                   case measure=>have:=tC.out;have:=tO.out;have:=TJ.out;have:=QU.out;have:=YE.out;have:=aeq.out;omega
                   case rel=>exact⟨(LQ),(wrap64 (tL+1)),bR,H,⟨by have:=tC.out;have:=tO.out;have:=TJ.out;have:=QU.out;have:=YE.out;have:=aeq.out;omega⟩,⟨qE⟩,⟨qE⟩,⟨aX⟩⟩
                 ·replace H:=gN H;obtain⟨-,aom,-,H⟩:=H;replace H:=gN H;obtain⟨-,apj,-,H⟩:=H;replace H:=gN H;obtain⟨c44,-,-,H⟩:=H;have aw9:=aa.mk c44;clear c44;obtain⟨axa,YH⟩:∃ y_:List ByteArray,y_=(LQ ++ [dh ByteArray.empty uD tL]):=⟨_,rfl⟩;replace H:(av.l1 ai3 uD axa (wrap64 (tL+1)))=some r:=by first|(rw[YH];with_reducible exact H)|(have kP:=(ax _ _).symm.trans H;rw[YH];with_reducible exact kP)|(have kP:=(ax _ _).symm.trans H;with_reducible exact kP)|with_reducible exact H|(rw[YH];exact H)|exact H
                  have axb:=aa.mk YH;clear YH;replace H:=aa.mk H;have ar8:0<=(tL:Int):=ay bM;have ar9:tL<(uD.length:Int):=ay bM;obtain⟨axc,e283,axD⟩:=Kd.eG (Kd.aH rJ.out).2.2 tL ar8 ar9;cases e283
                  replace ar8:=eq_true ar8;replace ar9:=eq_true ar9;go_wp2_with(first|((with_reducible refine fO (b:=.append) (xs:=#[.tmp 83,.tmp 88]) rfl ?_);(try(refine kK (by rfl) ?_;dsimp only));at_builtin;refine Kd.kJ Kd.string (w0:=w) w.heap.size rfl (.tmp 83) (.tmp 88) 76 9 (.string ⟨#[]⟩) 16 rfl Tryz.underlying76 Bg rfl aA ae u5 LQ (dh ByteArray.empty uD tL) [.string (dh ByteArray.empty uD tL)] (fun k_=>some k_≠(.slice (some axc) uD.length YD:Value).ownBlock) (fun _=>False) rfl rfl ?aP (fun _ hk=>hk.elim) ?aF ?aO ?aB ?aS ?aL ?_;(case aP=>exact rfl);(case aB=>exact aX);(case aF=>exact(fun k_ hk=>Kd.fresh' (Kd.vI Qs) k_ hk));(case aO=>exact Mc);(case aS=>exact(aN aX));(case aL=>have:=aw9.out;omega);intro aGn w45 ho hb hg hat;rw[<- axb.out] at ho;have kR:=aa.mk (Kd.xD (ok:=(fun _=>True)) ae2 hg hat);have lF:=aa.mk (hb);have uy:=aa.mk (ho);clear rJ;clear HB;clear ow;have rJ:=kR;have HB:=lF;have aEK:=uy;clear kR lF uy;clear ho hb hg hat));go_roundg ai3
                  case measure=>have:=tC.out;have:=tO.out;have:=TJ.out;have:=QU.out;have:=YE.out;have:=aeq.out;omega
                  case rel=>exact⟨(axa),(wrap64 (tL+1)),bR,H,⟨by have:=tC.out;have:=tO.out;have:=TJ.out;have:=QU.out;have:=YE.out;have:=aeq.out;omega⟩,⟨by(with_reducible repeat(first|apply Kd.cK|apply Kd.cz|apply Kd.dB));exact Kd.kg rJ.out (fun _ hk=>hk.2)⟩,⟨qE⟩,⟨aX⟩⟩
          ·replace H:=aa.mk H;obtain⟨aGo,aGp,aBo⟩:=Kd.eD rJ.out;subst aBo;go_wp2;go_loopg [8,9] k3 (fun kq v8 v9 w'=>∃(anb:ByteArray) (YI:Int),v8 = .string anb/\v9 = .int .i64 YI/\aa (av.l2 kq rD anb YI=some r)/\aa (kq<=k3)/\aa (Kd.R Kd.string 9 w' w.heap.size (fun _=>True) u5 rD)/\aa (Below w.heap.size w w'))
           case atStart=>exact⟨((⟨#[]⟩:af)),(0),bR,bR,H,⟨Nat.le_refl _⟩,⟨by(with_reducible repeat(first|apply Kd.cK|apply Kd.cz|apply Kd.dB));exact Kd.kg ow.out (fun _ hk=>trivial)⟩,⟨aX⟩⟩
           case round=>
            clear H;try clear pX
            try clear c17
            try clear sP
            try clear Az
            try clear uw
            obtain⟨anb,YI,rfl,rfl,HA,HK4,ow,HB⟩:=hrel;cases gk with
            |zero=>exact absurd HA.out (by simp[av.l2])
            |succ k4=>
             have H:=HA.out;clear HA;simp only[av.l2] at H;replace H:=gI H;rcases H with⟨-,Ay,-,H⟩|⟨-,Ay,-,H⟩
             ·replace H:=gN H;obtain⟨c48,axd,axe,H⟩:=H;try have aEL:=eq_false (Nat.not_lt.2 c48)
              replace H:=gN H;obtain⟨-,axf,-,H⟩:=H;replace H:=gN H;obtain⟨c50,aoY,aoZ,H⟩:=H;try have aEM:=eq_false (Nat.not_lt.2 c50)
              try(have ai4:=c50;simp only[ByteArray.size_append,si,List.length_cons,List.length_nil,Nat.zero_add,Nat.reduceAdd] at ai4;replace ai4:=eq_false (Nat.not_lt.2 ai4))
              replace H:=aa.mk H;obtain⟨aGq,aGr,aBp⟩:=Kd.eD ow.out;subst aBp;have asa:0<=(YI:Int):=ay bM;have asb:YI<(rD.length:Int):=ay bM;obtain⟨aEN,e287,axE⟩:=Kd.eG (Kd.aH ow.out).2.2 YI asa asb;cases e287
              replace asa:=eq_true asa;replace asb:=eq_true asb;go_wp2;go_roundg k4
              case measure=>have:=tC.out;have:=tO.out;have:=TJ.out;have:=HK4.out;omega
              case rel=>exact⟨((anb++(⟨#[47]⟩:af))++(dh ByteArray.empty rD YI)),(wrap64 (YI+1)),bR,bR,H,⟨by have:=tC.out;have:=tO.out;have:=TJ.out;have:=HK4.out;omega⟩,⟨qE⟩,⟨aX⟩⟩
             ·replace H:=gI H;rcases H with⟨c52,-,-,H⟩|⟨c52,-,-,H⟩
              ·obtain⟨aiJ,aiI⟩:=kT c52;clear c52;obtain rfl:=aI H;obtain⟨aGs,aGt,aBq⟩:=Kd.eD ow.out;subst aBq;go_wp2;go_ret;exact⟨jv,aX⟩
              ·obtain⟨aiJ,aiI⟩:=kU c52;obtain rfl:=aI H;obtain⟨aub,auc,ake⟩:=Kd.eD ow.out;subst ake;go_wp2;go_ret;exact⟨jv,aX⟩
       ·exact absurd H (by simp)


mutual
def bA.j0 : Nat->ByteArray->Bool->Option (Bool)
 |0,_,_=>none
 |k+1,x0,x14=>if x14=true then(some false) else((gJ.f k x0 46).bind fun wL=>(bA.l0 k wL 0))
def bA.l0 : Nat->List ByteArray->Int->Option (Bool)
 |0,_,_=>none
 |k+1,x3,x4=>if x4<(x3.length:Int) then(if 0<=x4 then(if(dh ByteArray.empty x3 x4).toList=([]:aQ) then(some false) else(bA.l1 k x3 x4 0)) else(none)) else(some true)
def bA.l1 : Nat->List ByteArray->Int->Int->Option (Bool)
 |0,_,_,_=>none
 |k+1,x3,x4,x5=>if 0<=x4 then(if x4<(x3.length:Int) then(if x5<((dh ByteArray.empty x3 x4).size:Int) then(if 0<=x5 then(if(bt (dh ByteArray.empty x3 x4) x5)>=97 then(if((bt (dh ByteArray.empty x3 x4) x5)<=122) then(bA.l1 k x3 x4 (wrap64 (x5+1))) else((bD.f (bt (dh ByteArray.empty x3 x4) x5)).bind fun aBr=>(if aBr=true then(bA.l1 k x3 x4 (wrap64 (x5+1))) else(if(bt (dh ByteArray.empty x3 x4) x5)=45 then(bA.l1 k x3 x4 (wrap64 (x5+1))) else(some false))))) else((bD.f (bt (dh ByteArray.empty x3 x4) x5)).bind fun aBs=>(if aBs=true then(bA.l1 k x3 x4 (wrap64 (x5+1))) else(if(bt (dh ByteArray.empty x3 x4) x5)=45 then(bA.l1 k x3 x4 (wrap64 (x5+1))) else(some false))))) else(none)) else(bA.l0 k x3 (wrap64 (x4+1)))) else(none)) else(none)
end
def bA.f (k:Nat) (a0:ByteArray):Option (Bool):=if(a0.size:Int)=0 then(bA.j0 k a0 true) else(bA.j0 k a0 (decide ((a0.size:Int)>60)))
theorem bA.e0 {p:Prop} (h:p:=by
  replace H:=aa.mk H
  have GY:0<=(iG:Int):=ay bM
  have GZ:iG<(wL.length:Int):=ay bM
  obtain⟨PW,e305,UY⟩:=Kd.eG (Kd.aH iV.out).2.2 iG GY GZ
  obtain rfl:JE=PW:=(by injection e305)
  replace GY:=eq_true GY
  replace GZ:=eq_true GZ
  have PX:0<=(iG:Int):=ay bM
  have PY:iG<(wL.length:Int):=ay bM
  obtain⟨YJ,e306,acW⟩:=Kd.eG (Kd.aH iV.out).2.2 iG PX PY
  obtain rfl:JE=YJ:=(by injection e306)
  replace PX:=eq_true PX
  replace PY:=eq_true PY
  have p16:0<=(rD:Int):=ay bM
  have q16:rD<((dh ByteArray.empty wL iG).size:Int):=ay bM
  have hx16:=bO (dh ByteArray.empty wL iG) rD
  replace p16:=eq_true p16
  replace q16:=eq_true q16
  go_wp2_with(first|(go_at_call 77;(with_reducible refine(bD.calls (bt (dh ByteArray.empty wL iG) rD) false _ Wj.out).mono ?_);rintro e w' ⟨rfl,⟨nd,rfl⟩⟩)|(go_at_call 77;(with_reducible refine(bD.calls (bt (dh ByteArray.empty wL iG) rD) true _ Wj.out).mono ?_);rintro e w' ⟨rfl,⟨nd,rfl⟩⟩)|(go_at_call 77;(with_reducible refine(bD.calls (bt (dh ByteArray.empty wL iG) rD) false _ A19.out).mono ?_);rintro e w' ⟨rfl,⟨nd,rfl⟩⟩)|(go_at_call 77;(with_reducible refine(bD.calls (bt (dh ByteArray.empty wL iG) rD) true _ A19.out).mono ?_);rintro e w' ⟨rfl,⟨nd,rfl⟩⟩))
  go_roundg k3
  case measure=>have:=tC.out;have:=tO.out;have:=TJ.out;omega
  case rel=>exact⟨(wrap64 (rD+1)),bR,H,⟨apE⟩,⟨qE⟩,⟨aX⟩⟩):p:=h
theorem bA.e1 {p:Prop} (h:p:=by
  obtain rfl:=aI H
  have GY:0<=(iG:Int):=ay bM
  have GZ:iG<(wL.length:Int):=ay bM
  obtain⟨PW,e305,UY⟩:=Kd.eG (Kd.aH iV.out).2.2 iG GY GZ
  obtain rfl:JE=PW:=(by injection e305)
  replace GY:=eq_true GY
  replace GZ:=eq_true GZ
  have PX:0<=(iG:Int):=ay bM
  have PY:iG<(wL.length:Int):=ay bM
  obtain⟨YJ,e306,acW⟩:=Kd.eG (Kd.aH iV.out).2.2 iG PX PY
  obtain rfl:JE=YJ:=(by injection e306)
  replace PX:=eq_true PX
  replace PY:=eq_true PY
  have p16:0<=(rD:Int):=ay bM
  have q16:rD<((dh ByteArray.empty wL iG).size:Int):=ay bM
  have hx16:=bO (dh ByteArray.empty wL iG) rD
  replace p16:=eq_true p16
  replace q16:=eq_true q16
  go_wp2_with(first|(go_at_call 77;(with_reducible refine(bD.calls (bt (dh ByteArray.empty wL iG) rD) false _ Wj.out).mono ?_);rintro e w' ⟨rfl,⟨nd,rfl⟩⟩)|(go_at_call 77;(with_reducible refine(bD.calls (bt (dh ByteArray.empty wL iG) rD) false _ A19.out).mono ?_);rintro e w' ⟨rfl,⟨nd,rfl⟩⟩))
  go_ret
  exact⟨jv,aX⟩):p:=h
theorem bA.calls (k:Nat) (a0:ByteArray) (r:Bool) (w:World) (h:bA.f k a0=some r) :
  Calls Tryz.prog 183 #[.string a0] w fun e w'=>e = .returned (.bool r)/\Below w.heap.size w w':=by
 have HB:=aa.mk (Below.refl w.heap.size w);have H:=h;clear h;unfold bA.f at H;have qz:=aa.mk H;clear H;go_enter Tryz.func183,Tryz.ntmps183;go_upto_region 1 with(fail);go_cut [14] (fun v14 wc=>∃(kq:Nat) (Ps:Bool),v14 = .bool Ps/\aa (bA.j0 kq a0 Ps=some r)/\aa (kq<=k)/\aa (Below w.heap.size w wc))
 case first=>
  have H:=qz.out;clear qz;replace H:=gI H;rcases H with⟨c3,-,-,H⟩|⟨c3,-,-,H⟩
  ·obtain⟨cB,nE⟩:=kT c3;clear c3;(first|rw[cB]|(simp only[dU,fK];rw[cB])|skip)
   replace H:=aa.mk H;go_wp2;go_meet
   case rel=>exact⟨_,(true),bR,H,⟨tT⟩,⟨aX⟩⟩
  ·obtain⟨cB,nE⟩:=kU c3;(first|rw[cB]|(simp only[dU,fK];rw[cB])|skip)
   replace H:=aa.mk H;go_wp2;go_meet
   case rel=>exact⟨_,(decide ((a0.size:Int)>60)),bR,H,⟨tT⟩,⟨aX⟩⟩
 case rest=>
  clear qz;obtain⟨kq,Ps,rfl,HA,tC,HB⟩:=hcut;cases kq with
  |zero=>exact absurd HA.out (by simp[bA.j0])
  |succ oz=>
   have H:=HA.out;clear HA;simp only[bA.j0] at H;replace H:=gB H;rcases H with⟨rfl,H⟩|⟨rfl,H⟩
   ·obtain rfl:=aI H;go_wp2;go_ret;exact⟨jv,aX⟩
   ·replace H:=gD H;obtain⟨wL,A5,H⟩:=H;replace H:=aa.mk H;go_wp2_with(first|((with_reducible refine cZ 181 rfl ?_);refine NL 16 rfl Tryz.func181 (gJ.calls oz a0 46 wL _ A5.out) ?_;rintro e w6 ⟨aBt,rfl,ho0,hb⟩;refine⟨_,rfl,?_⟩;have aEO:=aa.mk (Kd.gu ho0 (aN aX));replace HB:=fw hb;clear hb;(try clear ho0)));go_loopg [4] oz (fun kq v4 w'=>∃(iG:Int),v4 = .int .i64 iG/\aa (bA.l0 kq wL iG=some r)/\aa (kq<=oz)/\aa (Kd.R Kd.string 9 w' w.heap.size (fun _=>True) aBt wL)/\aa (Below w.heap.size w w'))
    case atStart=>exact⟨(0),bR,H,⟨Nat.le_refl _⟩,⟨qE⟩,⟨aX⟩⟩
    case round=>
     clear H;obtain⟨iG,rfl,HA,tO,iV,HB⟩:=hrel;cases gk with
     |zero=>exact absurd HA.out (by simp[bA.l0])
     |succ k2=>
      have H:=HA.out;clear HA;simp only[bA.l0] at H;replace H:=gI H;rcases H with⟨-,nR,-,H⟩|⟨-,nR,-,H⟩
      ·replace H:=gN H;obtain⟨-,mU,-,H⟩:=H;replace H:=gI H;rcases H with⟨c9,-,-,H⟩|⟨c9,-,-,H⟩
       ·obtain⟨pg,xy⟩:=kT c9;clear c9;obtain rfl:=aI H;obtain⟨aqy,adY,VV⟩:=Kd.eD iV.out;subst VV;have YK:0<=(iG:Int):=ay bM;have YL:iG<(wL.length:Int):=ay bM;obtain⟨JE,e304,acX⟩:=Kd.eG (Kd.aH iV.out).2.2 iG YK YL;cases e304
        replace YK:=eq_true YK;replace YL:=eq_true YL;go_wp2;go_ret;exact⟨jv,aX⟩
       ·obtain⟨pg,xy⟩:=kU c9;replace H:=aa.mk H;obtain⟨EA,Bi,aru⟩:=Kd.eD iV.out;subst aru;have YK:0<=(iG:Int):=ay bM;have YL:iG<(wL.length:Int):=ay bM;obtain⟨JE,e304,acX⟩:=Kd.eG (Kd.aH iV.out).2.2 iG YK YL;cases e304
        replace YK:=eq_true YK;replace YL:=eq_true YL;go_wp2;go_loopg [5] k2 (fun kq v5 w'=>∃(rD:Int),v5 = .int .i64 rD/\aa (bA.l1 kq wL iG rD=some r)/\aa (kq<=k2)/\aa (Kd.R Kd.string 9 w' w.heap.size (fun _=>True) (.slice (some JE) wL.length Bi) wL)/\aa (Below w.heap.size w w'))
        case atStart=>exact⟨(0),bR,H,⟨Nat.le_refl _⟩,⟨qE⟩,⟨aX⟩⟩
        case round=>
         clear H;try clear nR
         try clear mU
         try clear c9
         try clear pg
         try clear xy
         try clear acX
         try clear YK
         try clear YL
         obtain⟨rD,rfl,HA,TJ,iV,HB⟩:=hrel;cases gk with
         |zero=>exact absurd HA.out (by simp[bA.l1])
         |succ k3=>
          have H:=HA.out;clear HA;simp only[bA.l1] at H;replace H:=gN H;obtain⟨-,nS,-,H⟩:=H;replace H:=gN H;obtain⟨-,qG,-,H⟩:=H;replace H:=gI H;rcases H with⟨-,wu,-,H⟩|⟨-,wu,-,H⟩
          ·replace H:=gN H;obtain⟨-,sQ,-,H⟩:=H;replace H:=gI H;rcases H with⟨-,sP,-,H⟩|⟨-,sP,-,H⟩
           ·replace H:=gI H;rcases H with⟨-,FP,-,H⟩|⟨-,FP,-,H⟩
            ·replace H:=aa.mk H;have GY:0<=(iG:Int):=ay bM;have GZ:iG<(wL.length:Int):=ay bM;obtain⟨PW,e305,UY⟩:=Kd.eG (Kd.aH iV.out).2.2 iG GY GZ;obtain rfl:JE=PW:=(by injection e305);replace GY:=eq_true GY;replace GZ:=eq_true GZ;have PX:0<=(iG:Int):=ay bM;have PY:iG<(wL.length:Int):=ay bM;obtain⟨YJ,e306,acW⟩:=Kd.eG (Kd.aH iV.out).2.2 iG PX PY;obtain rfl:JE=YJ:=(by injection e306);replace PX:=eq_true PX;replace PY:=eq_true PY;have p16:0<=(rD:Int):=ay bM;have q16:rD<((dh ByteArray.empty wL iG).size:Int):=ay bM;have hx16:=bO (dh ByteArray.empty wL iG) rD;replace p16:=eq_true p16;replace q16:=eq_true q16;go_wp2;go_roundg k3
             case measure=>have:=tC.out;have:=tO.out;have:=TJ.out;omega
             case rel=>exact⟨(wrap64 (rD+1)),bR,H,⟨apE⟩,⟨qE⟩,⟨aX⟩⟩
            ·replace H:=xE H;rcases H with⟨A19,H⟩|⟨A19,H⟩
             ·exact bA.e0
             ·replace H:=gI H;rcases H with⟨c21,-,-,H⟩|⟨c21,-,-,H⟩
              ·obtain⟨uw,Dm⟩:=kT c21;clear c21;exact bA.e0
              ·obtain⟨uw,Dm⟩:=kU c21;exact bA.e1
           ·replace H:=xE H;rcases H with⟨Wj,H⟩|⟨Wj,H⟩
            ·exact bA.e0
            ·replace H:=gI H;rcases H with⟨c24,-,-,H⟩|⟨c24,-,-,H⟩
             ·obtain⟨yI,IX⟩:=kT c24;clear c24;exact bA.e0
             ·obtain⟨yI,IX⟩:=kU c24;exact bA.e1
          ·replace H:=aa.mk H;have GY:0<=(iG:Int):=ay bM;have GZ:iG<(wL.length:Int):=ay bM;obtain⟨PW,e305,UY⟩:=Kd.eG (Kd.aH iV.out).2.2 iG GY GZ;obtain rfl:JE=PW:=(by injection e305);replace GY:=eq_true GY;replace GZ:=eq_true GZ;go_wp2;go_roundg k3
           case measure=>have:=tC.out;have:=tO.out;have:=TJ.out;omega
           case rel=>exact⟨(wrap64 (iG+1)),bR,H,⟨apE⟩,⟨qE⟩,⟨aX⟩⟩
      ·obtain rfl:=aI H;obtain⟨auj,auk,aqv⟩:=Kd.eD iV.out;subst aqv;go_wp2;go_ret;exact⟨jv,aX⟩


def oq.f (k:Nat) (ak:ByteArray) (au:Int) (az:ByteArray) (aJ:ByteArray) (aD:Bool):Option (ByteArray):=if au=80 then(some (⟨#[]⟩:af)) else((bI.f k au).bind fun anc=>(if 1+anc.size<=9223372036854775807 then(some ((⟨#[58]⟩:af)++anc)) else(none)))
theorem oq.e0 {p:Prop} (h:p:=by
  obtain rfl:=aI H.out
  go_enter Tryz.func184,Tryz.ntmps184
  go_wp2_with(first|((with_reducible refine lT 1 rfl ?_);refine jL #[.string ak,.int .i64 au,.string az,.string aJ,.bool aD] 92 ?_;intro axg hg gG hbox hb;have ai5:=aa.mk (hbox);have aEP:=lJ hg;replace HB:=fw hb;clear hb hbox hg;have _:=jK ai5;have _:=pJ ai5)|((with_reducible refine cZ 102 rfl ?_);refine iW 8 rfl Tryz.func102 (bI.calls k au anc _ A5.out) fun jH hb HB=>?_;replace ai5:=eF (g:=axg) hb;clear hb))
  go_ret
  exact⟨jv,aX⟩):p:=h
theorem oq.calls (k:Nat) (ak:ByteArray) (au:Int) (az aJ:ByteArray) (aD:Bool) (r:ByteArray) (w:World) (h:oq.f k ak au az aJ aD=some r) :
  Calls Tryz.prog 184 #[.agg #[.string ak,.int .i64 au,.string az,.string aJ,.bool aD]] w fun e w'=>e = .returned (.string r)/\Below w.heap.size w w':=by
 have Ke:=Tryz.underlying92;have HB:=aa.mk (Below.refl w.heap.size w);have H:=aa.mk h;clear h;unfold oq.f at H;rcases jw H with⟨c2,-,-,H⟩|⟨c2,-,-,H⟩
 ·obtain⟨jc,nD⟩:=kT c2;clear c2;exact oq.e0
 ·obtain⟨jc,nD⟩:=kU c2;obtain⟨anc,A5,H⟩:=nP H;rcases jw H with⟨c6,pq,jy,H⟩|⟨c6,-,-,H⟩
  ·try have agN:=eq_false (Nat.not_lt.2 c6)
   exact oq.e0
  ·exact absurd H.out (by simp)

def nu.f (ak:ByteArray) (au:Int) (az:ByteArray) (aJ:ByteArray) (aD:Bool):Option (ByteArray):=if aD=true then(if 1+aJ.size<=9223372036854775807 then(some ((⟨#[63]⟩:af)++aJ)) else(none)) else(some (⟨#[]⟩:af))
theorem nu.e0 {p:Prop} (h:p:=by
  obtain rfl:=aI H
  go_enter Tryz.func185,Tryz.ntmps185
  go_wp2_with(first|((with_reducible refine lT 1 rfl ?_);refine jL #[.string ak,.int .i64 au,.string az,.string aJ,.bool false] 92 ?_;intro axh hg jH hbox hb;have YM:=aa.mk (hbox);have axi:=lJ hg;replace HB:=fw hb;clear hb hbox hg;have _:=jK YM;have _:=pJ YM)|((with_reducible refine lT 1 rfl ?_);refine jL #[.string ak,.int .i64 au,.string az,.string aJ,.bool true] 92 ?_;intro axh hg gG hbox hb;have YM:=aa.mk (hbox);have axi:=lJ hg;replace HB:=fw hb;clear hb hbox hg;have _:=jK YM;have _:=pJ YM))
  go_ret
  exact⟨jv,aX⟩):p:=h
theorem nu.calls (ak:ByteArray) (au:Int) (az aJ:ByteArray) (aD:Bool) (r:ByteArray) (w:World) (h:nu.f ak au az aJ aD=some r) :
  Calls Tryz.prog 185 #[.agg #[.string ak,.int .i64 au,.string az,.string aJ,.bool aD]] w fun e w'=>e = .returned (.string r)/\Below w.heap.size w w':=by
 have Ke:=Tryz.underlying92;have HB:=aa.mk (Below.refl w.heap.size w);have H:=h;clear h;unfold nu.f at H;replace H:=gB H;rcases H with⟨rfl,H⟩|⟨rfl,H⟩
 ·replace H:=gN H;obtain⟨c3,nE,cB,H⟩:=H;try have Mv:=eq_false (Nat.not_lt.2 c3)
  exact nu.e0
 ·exact nu.e0

def ja.f (k:Nat) (ak:ByteArray) (au:Int) (az:ByteArray) (aJ:ByteArray) (aD:Bool):Option (ByteArray):=if 7+ak.size<=9223372036854775807 then((oq.f k ak au az aJ aD).bind fun aer=>(if((⟨#[104,116,116,112,58,47,47]⟩:af)++ak).size+aer.size<=9223372036854775807 then(if(((⟨#[104,116,116,112,58,47,47]⟩:af)++ak)++aer).size+az.size<=9223372036854775807 then((nu.f ak au az aJ aD).bind fun ane=>(if((((⟨#[104,116,116,112,58,47,47]⟩:af)++ak)++aer)++az).size+ane.size<=9223372036854775807 then(some (((((⟨#[104,116,116,112,58,47,47]⟩:af)++ak)++aer)++az)++ane)) else(none))) else(none)) else(none))) else(none)
def ja.T1 : Bool×List (List Nat×List Nat):=(true,[([],[]),([0],[0]),([1],[1]),([],[]),([3],[3]),([2,4],[2,4]),([],[]),([6],[6]),([5,7],[5,7]),([],[]),([9,4],[9]),([8,10],[8,10]),([11,10,0,1,2,3,4,5,6,7,8,9,10,11],[11])])
def ja.B1 : List Nat:=[0,1,3,0,8,31,0,64,255,0,536,2047,4095]
theorem ja.yo : nL .any (opsOf Tryz.f144 1)=ja.T1:=by kernel_rfl
theorem ja.rP : jf ja.T1.2 ja.B1=true:=by kernel_rfl
theorem ja.calls (k:Nat) (ak:ByteArray) (au:Int) (az aJ:ByteArray) (aD:Bool) (r:ByteArray) (w:World) (h:ja.f k ak au az aJ aD=some r) :
  Calls Tryz.prog 144 #[.agg #[.string ak,.int .i64 au,.string az,.string aJ,.bool aD]] w fun e w'=>e = .returned (.string r)/\Below w.heap.size w w':=by
 have Ke:=Tryz.underlying92;have HB:=aa.mk (Below.refl w.heap.size w);have H:=aa.mk h;clear h;unfold ja.f at H;rcases jw H with⟨c2,nD,jc,H⟩|⟨c2,-,-,H⟩
 ·try have agP:=eq_false (Nat.not_lt.2 c2)
  obtain⟨aer,A3,H⟩:=nP H;obtain⟨c4,qy,jr,H⟩:=nZ H;try have WU:=eq_false (Nat.not_lt.2 c4)
  try(have GG:=c4;simp only[ByteArray.size_append,si,List.length_cons,List.length_nil,Nat.zero_add,Nat.reduceAdd] at GG;replace GG:=eq_false (Nat.not_lt.2 GG))
  obtain⟨c5,rO,jV,H⟩:=nZ H;try have akA:=eq_false (Nat.not_lt.2 c5)
  try(have GQ:=c5;simp only[ByteArray.size_append,si,List.length_cons,List.length_nil,Nat.zero_add,Nat.reduceAdd] at GQ;replace GQ:=eq_false (Nat.not_lt.2 GQ))
  obtain⟨ane,A6,H⟩:=nP H;obtain⟨c7,Ag,nR,H⟩:=nZ H;try have ap8:=eq_false (Nat.not_lt.2 c7)
  try(have aj3:=c7;simp only[ByteArray.size_append,si,List.length_cons,List.length_nil,Nat.zero_add,Nat.reduceAdd] at aj3;replace aj3:=eq_false (Nat.not_lt.2 aj3))
  obtain rfl:=aI H.out;go_enter Tryz.func144,Tryz.ntmps144;try go_wp2_with(((with_reducible refine lT 1 rfl ?_);refine Fp #[.string ak,.int .i64 au,.string az,.string aJ,.bool aD] 92 ?_;clear HB;intro PZ gG LU aEQ HB))
  replace LU:=aa.mk (eu LU.out);replace HB:=aa.mk (bE HB.out);refine jP (n:=13) (S:=fun w'=>w'.cell? ⟨PZ,0,none⟩=some (.string ak)/\w'.cell? ⟨PZ,1,none⟩=some (.int .i64 au)/\w'.cell? ⟨PZ,2,none⟩=some (.string az)/\w'.cell? ⟨PZ,3,none⟩=some (.string aJ)/\w'.cell? ⟨PZ,4,none⟩=some (.bool aD)) (ds:=[]) (jK LU) (fun hHeld=>?_);refine dw ja.yo ja.rP (fun HT_ HW_=>?_);generalize gG.drew=jH at LU HB hHeld ⊢;repeat(first|refine lC ?_ (hy:=Or.inl ⟨by rfl,xK⟩)|refine dA ?_)
  refine bq 6 (some 9) ?_;refine fB 7 (some 10) (hy:=Or.inl ⟨by rfl,xK⟩) ?_;refine fB 9 (some 12) (hy:=Or.inl ⟨by rfl,xK⟩) ?_;refine fG (fun K hK=>?_);refine EY Tryz.func184 (oq.calls k ak au az aJ aD aer _ A3.out) fun mP hb=>?_;replace LU:=eF (g:=PZ) hb;replace HB:=fw hb;(try clear hb)
  refine hK.out _ _ (jK LU) (fun hHeld=>?_);clear hK K;refine bY ?_;repeat(first|refine dA ?_)
  refine fG (fun K hK=>?_);refine EY Tryz.func185 (nu.calls ak au az aJ aD ane _ A6.out) fun mP hb=>?_;replace LU:=eF (g:=PZ) hb;replace HB:=fw hb;(try clear hb)
  refine hK.out _ _ (jK LU) (fun hHeld=>?_);clear hK K;refine bY ?_;repeat(first|refine dA ?_)
  refine kI (fP HT_.out dK) ?_;try go_wp2
  go_ret;exact⟨jv,aX⟩
 ·exact absurd H.out (by simp)


def aM.j0 : Nat->Bool->ByteArray->Int->ByteArray->ByteArray->Bool->Option (Bool)
 |0,_,_,_,_,_,_=>none
 |k+1,x39,acY,acZ,ac0,zb,ac1=>if x39=true then(some false) else(if(zb.size:Int)>200 then(some false) else(if zb.toList=([]:aQ) then((dS.f k zb 35).bind fun anf=>(if anf.toList=zb.toList then((ja.f k acY acZ ac0 zb ac1).bind fun asc=>(some (decide ((asc.size:Int)<=200)))) else(some false))) else((df.f k zb).bind fun aBu=>(if aBu=true then((dS.f k zb 35).bind fun ang=>(if ang.toList=zb.toList then((ja.f k acY acZ ac0 zb ac1).bind fun ase=>(some (decide ((ase.size:Int)<=200)))) else(some false))) else(some false)))))
def aM.f (k:Nat) (ak:ByteArray) (au:Int) (az:ByteArray) (aJ:ByteArray) (aD:Bool):Option (Bool):=(bA.f k ak).bind fun aBv=>(if aBv=true then(if au<1 then(aM.j0 k true ak au az aJ aD) else(if au>65535 then(aM.j0 k true ak au az aJ aD) else(if az.toList=([]:aQ) then(aM.j0 k true ak au az aJ aD) else((av.f k az).bind fun ai6=>(if ai6.toList=az.toList then(if aD=true then(aM.j0 k false ak au az aJ aD) else(aM.j0 k (aJ.toList != ([]:aQ)) ak au az aJ aD)) else(aM.j0 k true ak au az aJ aD)))))) else(aM.j0 k true ak au az aJ aD))
def aM.T1 : Bool×List (List Nat×List Nat):=(true,[([],[]),([0],[0]),([1],[1]),([2],[2]),([3,2],[3]),([4],[4]),([5,4],[4,5]),([6,4],[4,6]),([4,7],[4,7]),([8,4],[8]),([9],[9]),([10,9],[9,10]),([11,9],[9,11]),([9,12],[9,12]),([13,9],[13]),([14],[14]),([15,14],[14,15]),([16,14],[14,16]),([14,17],[14,17]),([18,14],[18]),([19],[19]),([20,19],[19,20]),([21,19,19],[19,21]),([19],[19]),([23,19],[19,23]),([22,24,19],[19,22,24]),([19,25],[19,25]),([26,22],[26]),([27],[27]),([28,27],[27,28]),([29,27],[27,29]),([30,27,27],[27,30]),([31],[31]),([32,31],[31,32]),([33,31],[31,33]),([31,34,27],[27,31,34]),([27,35],[27,35])])
def aM.B1 : List Nat:=[0,1,3,7,15,31,63,127,255,511,1023,2047,4095,8191,16383,32767,65535,131071,262143,524287,1048575,2097151,4194303,1048575,9437183,33554431,67108863,134217727,268435455,536870911,1073741823,2147483647,4294967295,8589934591,17179869183,34359738367,68719476735]
theorem aM.yo : nL .any (opsOf Tryz.f143 1)=aM.T1:=by kernel_rfl
theorem aM.rP : jf aM.T1.2 aM.B1=true:=by kernel_rfl
def aM.T3 : Bool×List (List Nat×List Nat):=(true,[([],[]),([0],[0]),([1],[1]),([2],[2]),([3],[3]),([4],[4]),([5,4],[4,5]),([6,4],[4,6]),([7,4,4],[4,7]),([8],[8]),([9,8],[8,9]),([10,8,8],[8,10]),([11,8],[8,11]),([8,12,4],[4,8,12]),([4,13],[4,13]),([14,11],[14]),([15],[15]),([16,15],[15,16]),([17,15,15],[15,17]),([15],[15]),([19,15],[15,19]),([18,20,15],[15,18,20]),([15,21],[15,21])])
def aM.B3 : List Nat:=[0,1,3,7,15,31,63,127,255,511,1023,2047,4095,8191,16383,32767,65535,131071,262143,65535,589823,2097151,4194303]
theorem aM.aaU : nL .any (opsOf Tryz.f143 3)=aM.T3:=by kernel_rfl
theorem aM.PV : jf aM.T3.2 aM.B3=true:=by kernel_rfl
theorem aM.e0 {p:Prop} (h:p:=by
  replace H:=aa.mk H
  try go_wp2
  replace iM:=aa.mk (eu iM.out)
  replace HB:=aa.mk (bE HB.out)
  refine jP (n:=37) (S:=fun w'=>w'.cell? ⟨jC,0,none⟩=some (.string ak)/\w'.cell? ⟨jC,1,none⟩=some (.int .i64 au)/\w'.cell? ⟨jC,2,none⟩=some (.string az)/\w'.cell? ⟨jC,3,none⟩=some (.string aJ)/\w'.cell? ⟨jC,4,none⟩=some (.bool aD)) (ds:=[]) (jK iM) (fun hHeld=>?_);refine dw aM.yo aM.rP (fun HT_ HW_=>?_)
  generalize w3.drew=gG at iM HB hHeld ⊢
  repeat(first|refine lC ?_ (hy:=Or.inl ⟨by rfl,xK⟩)|refine dA ?_|(refine fG (fun K hK=>?_);refine jZ Tryz.func183 dK rfl #[.string ak] (by rfl) rfl rfl Bd ?_;(with_reducible refine(bA.calls k ak false _ A4.out).mono ?_);rintro e wS ⟨rfl,hb⟩;refine⟨_,rfl,?_⟩;replace iM:=eF (g:=jC) hb;replace HB:=fw hb;clear hb;refine hK.out _ _ (jK iM) (fun hHeld=>?_);clear hK K;refine bY ?_)|(refine fG (fun K hK=>?_);refine jZ Tryz.func183 dK rfl #[.string ak] (by rfl) rfl rfl Bd ?_;(with_reducible refine(bA.calls k ak true _ A4.out).mono ?_);rintro e jH ⟨rfl,hb⟩;refine⟨_,rfl,?_⟩;replace iM:=eF (g:=jC) hb;replace HB:=fw hb;clear hb;refine hK.out _ _ (jK iM) (fun hHeld=>?_);clear hK K;refine bY ?_))
  refine kI (fP HT_.out dK) ?_
  try go_wp2
  go_meet
  case rel=>exact⟨_,(true),bR,H,⟨tT⟩,⟨oQ⟩,⟨aX⟩⟩):p:=h
theorem aM.e1 {p:Prop} (h:p:=by
  obtain rfl:=aI H
  try go_wp2
  replace iM:=aa.mk (eu iM.out)
  replace HB:=aa.mk (bE HB.out)
  refine jP (n:=23) (S:=fun w'=>w'.cell? ⟨jC,0,none⟩=some (.string ak)/\w'.cell? ⟨jC,1,none⟩=some (.int .i64 au)/\w'.cell? ⟨jC,2,none⟩=some (.string az)/\w'.cell? ⟨jC,3,none⟩=some (.string aJ)/\w'.cell? ⟨jC,4,none⟩=some (.bool aD)) (ds:=[]) (jK iM) (fun hHeld=>?_);refine dw aM.aaU aM.PV (fun HT_ HW_=>?_)
  generalize wc.drew=uo at iM HB hHeld ⊢
  repeat(first|refine lC ?_ (hy:=Or.inl ⟨by rfl,xK⟩)|refine dA ?_|(refine fG (fun K hK=>?_);refine jZ Tryz.func100 dK rfl #[.string aJ] (by rfl) rfl rfl Bd ?_;(with_reducible refine(df.calls oz aJ false _ A40.out).mono ?_);rintro e w' ⟨rfl,⟨nd,rfl⟩⟩;refine⟨_,rfl,?_⟩;refine hK.out _ _ (jK iM) (fun hHeld=>?_);clear hK K;refine bY ?_))
  refine kI (fP HT_.out dK) ?_
  try go_wp2
  go_ret
  exact⟨jv,aX⟩):p:=h
theorem aM.calls (k:Nat) (ak:ByteArray) (au:Int) (az aJ:ByteArray) (aD r:Bool) (w:World) (h:aM.f k ak au az aJ aD=some r) :
  Calls Tryz.prog 143 #[.agg #[.string ak,.int .i64 au,.string az,.string aJ,.bool aD]] w fun e w'=>e = .returned (.bool r)/\Below w.heap.size w w':=by
 have Ke:=Tryz.underlying92;have HB:=aa.mk (Below.refl w.heap.size w);have H:=h;clear h;unfold aM.f at H;have qz:=aa.mk H;clear H;go_enter Tryz.func143,Tryz.ntmps143;go_upto_region 1 with(first|((with_reducible refine lT 1 rfl ?_);refine Fp #[.string ak,.int .i64 au,.string az,.string aJ,.bool aD] 92 ?_;clear HB;intro jC w3 iM aER HB));(try simp only[Act.put,List.setIfInBounds_toArray,List.set_cons_zero,List.set_cons_succ])
 go_cut [39] (fun v39 wc=>∃(kq:Nat) (ai7:Bool),v39 = .bool ai7/\aa (aM.j0 kq ai7 ak au az aJ aD=some r)/\aa (kq<=k)/\aa (wc.heap[jC]? = some (.cells #[.string ak,.int .i64 au,.string az,.string aJ,.bool aD] 92 (0,0)))/\aa (Below w.heap.size w wc))
 case first=>
  have H:=qz.out;clear qz;replace H:=xE H;rcases H with⟨A4,H⟩|⟨A4,H⟩
  ·replace H:=gI H;rcases H with⟨-,jy,-,H⟩|⟨-,jy,-,H⟩
   ·(first|rw[jy]|(simp only[dU,fK];rw[jy])|skip)
    exact aM.e0
   ·(first|rw[jy]|(simp only[dU,fK];rw[jy])|skip)
    replace H:=gI H;rcases H with⟨-,pg,-,H⟩|⟨-,pg,-,H⟩
    ·exact aM.e0
    ·replace H:=gI H;rcases H with⟨c12,-,-,H⟩|⟨c12,-,-,H⟩
     ·obtain⟨nS,yH⟩:=kT c12;clear c12;exact aM.e0
     ·obtain⟨nS,yH⟩:=kU c12;replace H:=gD H;obtain⟨ai6,UI,H⟩:=H;replace H:=gI H;rcases H with⟨c16,-,-,H⟩|⟨c16,-,-,H⟩
      ·obtain⟨sS,Bu⟩:=kT c16;clear c16;replace H:=gB H;rcases H with⟨rfl,H⟩|⟨rfl,H⟩
       ·replace H:=aa.mk H;try go_wp2
        replace iM:=aa.mk (eu iM.out);replace HB:=aa.mk (bE HB.out);refine jP (n:=37) (S:=fun w'=>w'.cell? ⟨jC,0,none⟩=some (.string ak)/\w'.cell? ⟨jC,1,none⟩=some (.int .i64 au)/\w'.cell? ⟨jC,2,none⟩=some (.string az)/\w'.cell? ⟨jC,3,none⟩=some (.string aJ)/\w'.cell? ⟨jC,4,none⟩=some (.bool true)) (ds:=[]) (jK iM) (fun hHeld=>?_);refine dw aM.yo aM.rP (fun HT_ HW_=>?_);generalize w3.drew=gG at iM HB hHeld ⊢;repeat(first|refine lC ?_ (hy:=Or.inl ⟨by rfl,xK⟩)|refine dA ?_)
        refine fG (fun K hK=>?_);refine EY Tryz.func183 (bA.calls k ak true _ A4.out) fun mP hb=>?_;replace iM:=eF (g:=jC) hb;replace HB:=fw hb;(try clear hb)
        refine hK.out _ _ (jK iM) (fun hHeld=>?_);clear hK K;refine bY ?_;repeat(first|refine lC ?_ (hy:=Or.inl ⟨by rfl,xK⟩)|refine dA ?_)
        refine bq 23 (some 26) ?_;refine fB 24 (some 27) (hy:=Or.inl ⟨by rfl,xK⟩) ?_;refine fG (fun K hK=>?_);refine EY Tryz.func142 (av.calls k az ai6 _ UI.out) fun mP hb=>?_;replace iM:=eF (g:=jC) hb;replace HB:=fw hb;(try clear hb)
        refine hK.out _ _ (jK iM) (fun hHeld=>?_);clear hK K;refine bY ?_;repeat(first|refine lC ?_ (hy:=Or.inl ⟨by rfl,xK⟩)|refine dA ?_)
        refine kI (fP HT_.out dK) ?_;try go_wp2
        go_meet
        case rel=>exact⟨_,(false),bR,H,⟨tT⟩,⟨oQ⟩,⟨aX⟩⟩
       ·replace H:=aa.mk H;try go_wp2
        replace iM:=aa.mk (eu iM.out);replace HB:=aa.mk (bE HB.out);refine jP (n:=37) (S:=fun w'=>w'.cell? ⟨jC,0,none⟩=some (.string ak)/\w'.cell? ⟨jC,1,none⟩=some (.int .i64 au)/\w'.cell? ⟨jC,2,none⟩=some (.string az)/\w'.cell? ⟨jC,3,none⟩=some (.string aJ)/\w'.cell? ⟨jC,4,none⟩=some (.bool false)) (ds:=[]) (jK iM) (fun hHeld=>?_);refine dw aM.yo aM.rP (fun HT_ HW_=>?_);generalize w3.drew=gG at iM HB hHeld ⊢;repeat(first|refine lC ?_ (hy:=Or.inl ⟨by rfl,xK⟩)|refine dA ?_)
        refine fG (fun K hK=>?_);refine EY Tryz.func183 (bA.calls k ak true _ A4.out) fun mP hb=>?_;replace iM:=eF (g:=jC) hb;replace HB:=fw hb;(try clear hb)
        refine hK.out _ _ (jK iM) (fun hHeld=>?_);clear hK K;refine bY ?_;repeat(first|refine lC ?_ (hy:=Or.inl ⟨by rfl,xK⟩)|refine dA ?_)
        refine bq 23 (some 26) ?_;refine fB 24 (some 27) (hy:=Or.inl ⟨by rfl,xK⟩) ?_;refine fG (fun K hK=>?_);refine EY Tryz.func142 (av.calls k az ai6 _ UI.out) fun mP hb=>?_;replace iM:=eF (g:=jC) hb;replace HB:=fw hb;(try clear hb)
        refine hK.out _ _ (jK iM) (fun hHeld=>?_);clear hK K;refine bY ?_;repeat(first|refine lC ?_ (hy:=Or.inl ⟨by rfl,xK⟩)|refine dA ?_)
        refine kI (fP HT_.out dK) ?_;try go_wp2
        go_meet
        case rel=>exact⟨_,((aJ.toList != ([]:aQ))),(by first|(simp;generalize aJ.toList=l_;cases l_ <;> rfl)|exact bR),H,⟨tT⟩,⟨oQ⟩,⟨aX⟩⟩
      ·obtain⟨sS,Bu⟩:=kU c16;replace H:=aa.mk H;try go_wp2
       replace iM:=aa.mk (eu iM.out);replace HB:=aa.mk (bE HB.out);refine jP (n:=37) (S:=fun w'=>w'.cell? ⟨jC,0,none⟩=some (.string ak)/\w'.cell? ⟨jC,1,none⟩=some (.int .i64 au)/\w'.cell? ⟨jC,2,none⟩=some (.string az)/\w'.cell? ⟨jC,3,none⟩=some (.string aJ)/\w'.cell? ⟨jC,4,none⟩=some (.bool aD)) (ds:=[]) (jK iM) (fun hHeld=>?_);refine dw aM.yo aM.rP (fun HT_ HW_=>?_);generalize w3.drew=gG at iM HB hHeld ⊢;repeat(first|refine lC ?_ (hy:=Or.inl ⟨by rfl,xK⟩)|refine dA ?_)
       refine fG (fun K hK=>?_);refine EY Tryz.func183 (bA.calls k ak true _ A4.out) fun mP hb=>?_;replace iM:=eF (g:=jC) hb;replace HB:=fw hb;(try clear hb)
       refine hK.out _ _ (jK iM) (fun hHeld=>?_);clear hK K;refine bY ?_;repeat(first|refine lC ?_ (hy:=Or.inl ⟨by rfl,xK⟩)|refine dA ?_)
       refine bq 23 (some 26) ?_;refine fB 24 (some 27) (hy:=Or.inl ⟨by rfl,xK⟩) ?_;refine fG (fun K hK=>?_);refine EY Tryz.func142 (av.calls k az ai6 _ UI.out) fun mP hb=>?_;replace iM:=eF (g:=jC) hb;replace HB:=fw hb;(try clear hb)
       refine hK.out _ _ (jK iM) (fun hHeld=>?_);clear hK K;refine bY ?_;repeat(first|refine dA ?_)
       refine kI (fP HT_.out dK) ?_;try go_wp2
       go_meet
       case rel=>exact⟨_,(true),bR,H,⟨tT⟩,⟨oQ⟩,⟨aX⟩⟩
  ·exact aM.e0
 case rest=>
  clear qz;obtain⟨kq,ai7,rfl,HA,tC,iM,HB⟩:=hcut;cases kq with
  |zero=>exact absurd HA.out (by simp[aM.j0])
  |succ oz=>
   have H:=HA.out;clear HA;simp only[aM.j0] at H;replace H:=gB H;rcases H with⟨rfl,H⟩|⟨rfl,H⟩
   ·obtain rfl:=aI H;go_wp2;go_ret;exact⟨jv,aX⟩
   ·replace H:=gI H;rcases H with⟨QT,-,-,H⟩|⟨QT,-,-,H⟩
    ·have IY:decide (200<(aJ.size:Int))=true:=bK QT;have Lh:decide (200<aJ.size)=true:=bK ae;clear QT;exact aM.e1
    ·have IY:decide (200<(aJ.size:Int))=false:=bQ QT;have Lh:decide (200<aJ.size)=false:=bQ ae;clear QT;replace H:=gI H;rcases H with⟨c32,-,-,H⟩|⟨c32,-,-,H⟩
     ·obtain⟨Sn,WQ⟩:=kT c32;clear c32;replace H:=gD H;obtain⟨anf,A33,H⟩:=H;replace H:=gI H;rcases H with⟨c34,-,-,H⟩|⟨c34,-,-,H⟩
      ·obtain⟨XD,XC⟩:=kT c34;clear c34;replace H:=gD H;obtain⟨asc,A35,H⟩:=H;obtain rfl:=aI H;try go_wp2
       replace iM:=aa.mk (eu iM.out);replace HB:=aa.mk (bE HB.out);refine jP (n:=23) (S:=fun w'=>w'.cell? ⟨jC,0,none⟩=some (.string ak)/\w'.cell? ⟨jC,1,none⟩=some (.int .i64 au)/\w'.cell? ⟨jC,2,none⟩=some (.string az)/\w'.cell? ⟨jC,3,none⟩=some (.string aJ)/\w'.cell? ⟨jC,4,none⟩=some (.bool aD)) (ds:=[]) (jK iM) (fun hHeld=>?_);refine dw aM.aaU aM.PV (fun HT_ HW_=>?_);generalize wc.drew=uo at iM HB hHeld ⊢;repeat(first|refine lC ?_ (hy:=Or.inl ⟨by rfl,xK⟩)|refine dA ?_)
       refine bq 19 (some 59) ?_;refine fB 20 (some 60) (hy:=Or.inl ⟨by rfl,xK⟩) ?_;refine fG (fun K hK=>?_);refine BZ Tryz.func140 (dS.calls oz aJ 35 anf _ A33.out) fun nd=>?_;refine hK.out _ _ (jK iM) (fun hHeld=>?_);clear hK K;refine bY ?_;repeat(first|refine dA ?_)
       refine kI (fP HT_.out dK) ?_;have _:=jK iM;have _:=pJ iM;try go_wp2_with(((with_reducible refine cZ 144 rfl ?_);refine iW 64 rfl Tryz.func144 (ja.calls oz ak au az aJ aD asc _ A35.out) fun Af hb HB=>?_;replace iM:=eF (g:=jC) hb;clear hb))
       go_ret;exact⟨jv,aX⟩
      ·obtain⟨XD,XC⟩:=kU c34;obtain rfl:=aI H;try go_wp2
       replace iM:=aa.mk (eu iM.out);replace HB:=aa.mk (bE HB.out);refine jP (n:=23) (S:=fun w'=>w'.cell? ⟨jC,0,none⟩=some (.string ak)/\w'.cell? ⟨jC,1,none⟩=some (.int .i64 au)/\w'.cell? ⟨jC,2,none⟩=some (.string az)/\w'.cell? ⟨jC,3,none⟩=some (.string aJ)/\w'.cell? ⟨jC,4,none⟩=some (.bool aD)) (ds:=[]) (jK iM) (fun hHeld=>?_);refine dw aM.aaU aM.PV (fun HT_ HW_=>?_);generalize wc.drew=uo at iM HB hHeld ⊢;repeat(first|refine lC ?_ (hy:=Or.inl ⟨by rfl,xK⟩)|refine dA ?_)
       refine bq 19 (some 59) ?_;refine fB 20 (some 60) (hy:=Or.inl ⟨by rfl,xK⟩) ?_;refine fG (fun K hK=>?_);refine BZ Tryz.func140 (dS.calls oz aJ 35 anf _ A33.out) fun nd=>?_;refine hK.out _ _ (jK iM) (fun hHeld=>?_);clear hK K;refine bY ?_;repeat(first|refine dA ?_)
       refine kI (fP HT_.out dK) ?_;try go_wp2
       go_ret;exact⟨jv,aX⟩
     ·obtain⟨Sn,WQ⟩:=kU c32;replace H:=xE H;rcases H with⟨A40,H⟩|⟨A40,H⟩
      ·replace H:=gD H;obtain⟨ang,A42,H⟩:=H;replace H:=gI H;rcases H with⟨c43,-,-,H⟩|⟨c43,-,-,H⟩
       ·obtain⟨apj,axj⟩:=kT c43;clear c43;replace H:=gD H;obtain⟨ase,A44,H⟩:=H;obtain rfl:=aI H;try go_wp2
        replace iM:=aa.mk (eu iM.out);replace HB:=aa.mk (bE HB.out);refine jP (n:=23) (S:=fun w'=>w'.cell? ⟨jC,0,none⟩=some (.string ak)/\w'.cell? ⟨jC,1,none⟩=some (.int .i64 au)/\w'.cell? ⟨jC,2,none⟩=some (.string az)/\w'.cell? ⟨jC,3,none⟩=some (.string aJ)/\w'.cell? ⟨jC,4,none⟩=some (.bool aD)) (ds:=[]) (jK iM) (fun hHeld=>?_);refine dw aM.aaU aM.PV (fun HT_ HW_=>?_);generalize wc.drew=uo at iM HB hHeld ⊢;repeat(first|refine lC ?_ (hy:=Or.inl ⟨by rfl,xK⟩)|refine dA ?_)
        refine fG (fun K hK=>?_);refine BZ Tryz.func100 (df.calls oz aJ true _ A40.out) fun nd=>?_;refine hK.out _ _ (jK iM) (fun hHeld=>?_);clear hK K;refine bY ?_;repeat(first|refine lC ?_ (hy:=Or.inl ⟨by rfl,xK⟩)|refine dA ?_)
        refine bq 19 (some 59) ?_;refine fB 20 (some 60) (hy:=Or.inl ⟨by rfl,xK⟩) ?_;refine fG (fun K hK=>?_);refine BZ Tryz.func140 (dS.calls oz aJ 35 ang _ A42.out) fun nd=>?_;refine hK.out _ _ (jK iM) (fun hHeld=>?_);clear hK K;refine bY ?_;repeat(first|refine dA ?_)
        refine kI (fP HT_.out dK) ?_;have _:=jK iM;have _:=pJ iM;try go_wp2_with(((with_reducible refine cZ 144 rfl ?_);refine iW 64 rfl Tryz.func144 (ja.calls oz ak au az aJ aD ase _ A44.out) fun Cu hb HB=>?_;replace iM:=eF (g:=jC) hb;clear hb))
        go_ret;exact⟨jv,aX⟩
       ·obtain⟨apj,axj⟩:=kU c43;obtain rfl:=aI H;try go_wp2
        replace iM:=aa.mk (eu iM.out);replace HB:=aa.mk (bE HB.out);refine jP (n:=23) (S:=fun w'=>w'.cell? ⟨jC,0,none⟩=some (.string ak)/\w'.cell? ⟨jC,1,none⟩=some (.int .i64 au)/\w'.cell? ⟨jC,2,none⟩=some (.string az)/\w'.cell? ⟨jC,3,none⟩=some (.string aJ)/\w'.cell? ⟨jC,4,none⟩=some (.bool aD)) (ds:=[]) (jK iM) (fun hHeld=>?_);refine dw aM.aaU aM.PV (fun HT_ HW_=>?_);generalize wc.drew=uo at iM HB hHeld ⊢;repeat(first|refine lC ?_ (hy:=Or.inl ⟨by rfl,xK⟩)|refine dA ?_)
        refine fG (fun K hK=>?_);refine BZ Tryz.func100 (df.calls oz aJ true _ A40.out) fun nd=>?_;refine hK.out _ _ (jK iM) (fun hHeld=>?_);clear hK K;refine bY ?_;repeat(first|refine lC ?_ (hy:=Or.inl ⟨by rfl,xK⟩)|refine dA ?_)
        refine bq 19 (some 59) ?_;refine fB 20 (some 60) (hy:=Or.inl ⟨by rfl,xK⟩) ?_;refine fG (fun K hK=>?_);refine BZ Tryz.func140 (dS.calls oz aJ 35 ang _ A42.out) fun nd=>?_;refine hK.out _ _ (jK iM) (fun hHeld=>?_);clear hK K;refine bY ?_;repeat(first|refine dA ?_)
        refine kI (fP HT_.out dK) ?_;try go_wp2
        go_ret;exact⟨jv,aX⟩
      ·exact aM.e1


mutual
def bn.j0 : Nat->ByteArray->Bool->Option (ByteArray×Int×ByteArray×ByteArray×Bool×Bool)
 |0,_,_=>none
 |k+1,x0,x35=>if x35=true then(some ((⟨#[]⟩:af),0,(⟨#[]⟩:af),(⟨#[]⟩:af),false,false)) else(if 7<=(x0.size:Int) then((dS.f k (x0.extract 7 x0.size) 63).bind fun BN=>((dS.f k BN 47).bind fun wT=>((dS.f k wT 58).bind fun JF=>((il.f JF).bind fun BO=>(if(JF.size:Int)<(wT.size:Int) then(if 0<=(wrap64 ((JF.size:Int)+1)) then(if(wrap64 ((JF.size:Int)+1))<=(wT.size:Int) then((dY.f k (wT.extract ((wrap64 ((JF.size:Int)+1)):Int).toNat wT.size)).bind fun apk=>(if apk.2=true then(bn.j1 k (x0.extract 7 x0.size) BN wT BO apk.1 (⟨#[47]⟩:af) (⟨#[]⟩:af) false) else(some ((⟨#[]⟩:af),0,(⟨#[]⟩:af),(⟨#[]⟩:af),false,false)))) else(none)) else(none)) else(bn.j1 k (x0.extract 7 x0.size) BN wT BO 80 (⟨#[47]⟩:af) (⟨#[]⟩:af) false)))))) else(none))
def bn.j1 : Nat->ByteArray->ByteArray->ByteArray->ByteArray->Int->ByteArray->ByteArray->Bool->Option (ByteArray×Int×ByteArray×ByteArray×Bool×Bool)
 |0,_,_,_,_,_,_,_,_=>none
 |k+1,x4,x5,x6,CS,CU,Fb,JG,JH=>if(x6.size:Int)<(x5.size:Int) then(if 0<=(x6.size:Int) then(if(x6.size:Int)<=(x5.size:Int) then((av.f k (x5.extract ((x6.size:Int):Int).toNat x5.size)).bind fun anh=>(bn.j2 k x4 x5 CS CU anh JG JH)) else(none)) else(none)) else(bn.j2 k x4 x5 CS CU Fb JG JH)
def bn.j2 : Nat->ByteArray->ByteArray->ByteArray->Int->ByteArray->ByteArray->Bool->Option (ByteArray×Int×ByteArray×ByteArray×Bool×Bool)
 |0,_,_,_,_,_,_,_=>none
 |k+1,x4,x5,CS,CU,Fb,JG,JH=>if(x5.size:Int)<(x4.size:Int) then(if 0<=(wrap64 ((x5.size:Int)+1)) then(if(wrap64 ((x5.size:Int)+1))<=(x4.size:Int) then((aM.f k CS CU Fb (x4.extract ((wrap64 ((x5.size:Int)+1)):Int).toNat x4.size) true).bind fun aBw=>(if aBw=true then(some (CS,CU,Fb,x4.extract ((wrap64 ((x5.size:Int)+1)):Int).toNat x4.size,true,true)) else(some ((⟨#[]⟩:af),0,(⟨#[]⟩:af),(⟨#[]⟩:af),false,false)))) else(none)) else(none)) else((aM.f k CS CU Fb JG JH).bind fun aBx=>(if aBx=true then(some (CS,CU,Fb,JG,JH,true)) else(some ((⟨#[]⟩:af),0,(⟨#[]⟩:af),(⟨#[]⟩:af),false,false))))
end
def bn.f (k:Nat) (a0:ByteArray):Option (ByteArray×Int×ByteArray×ByteArray×Bool×Bool):=if(a0.size:Int)>200 then(bn.j0 k a0 true) else(if(a0.size:Int)<8 then(bn.j0 k a0 true) else((df.f k a0).bind fun aBy=>(if aBy=true then((dS.f k a0 35).bind fun ani=>(if ani.toList=a0.toList then(if 0<=7 then(if 7<=(a0.size:Int) then((il.f (a0.extract 0 7)).bind fun anj=>(bn.j0 k a0 (anj.toList != ([104,116,116,112,58,47,47]:aQ)))) else(none)) else(none)) else(bn.j0 k a0 true))) else(bn.j0 k a0 true))))
theorem bn.e0 {p:Prop} (h:p:=by
  replace H:=aa.mk H
  go_wp2
  go_meet
  case rel=>exact⟨_,(true),bR,H,⟨tT⟩,⟨oQ⟩,⟨aX⟩⟩):p:=h
theorem bn.e1 {p:Prop} (h:p:=by
  replace H:=aa.mk H
  go_wp2_with(first|(go_at_call 100;(with_reducible refine(df.calls k a0 false _ A6.out).mono ?_);rintro e w' ⟨rfl,⟨nd,rfl⟩⟩)|(go_at_call 100;(with_reducible refine(df.calls k a0 true _ A6.out).mono ?_);rintro e w' ⟨rfl,⟨nd,rfl⟩⟩)|(go_at_call 140;(with_reducible refine(dS.calls k a0 35 ani _ A8.out).mono ?_);rintro e w' ⟨rfl,⟨nd,rfl⟩⟩))
  go_meet
  case rel=>exact⟨_,(true),bR,H,⟨tT⟩,⟨oQ⟩,⟨aX⟩⟩):p:=h
theorem bn.e2 {p:Prop} (h:p:=by
  go_wp2_with(first|((with_reducible refine cZ 143 rfl ?_);refine iW 91 rfl Tryz.func143 (aM.calls ank BO lW mW (⟨#[]⟩:af) false false _ A61.out) fun Kb hb HB=>?_;replace mY:=eF (g:=uE) hb;replace qi:=eF (g:=F9) hb;clear hb;have _:=jK mY;have _:=pJ mY)|((with_reducible refine cZ 143 rfl ?_);refine nU (some 91) rfl rfl Tryz.func143 dK rfl #[.agg #[.string BO,.int .i64 lW,.string mW,.string (GI.extract ((UZ):Int).toNat GI.size),.bool true]] rfl (by(try simp only[List.map_toArray,List.map_cons,List.map_nil]);first|done|(simp only[P5];rfl)|rfl|(simp only[List.length_drop,List.length_take];rfl)) ?_;(with_reducible refine(aM.calls ank BO lW mW (GI.extract ((UZ):Int).toNat GI.size) true false _ A50.out).mono ?_);rintro e Af ⟨rfl,hb⟩;refine⟨_,rfl,?_⟩;replace mY:=eF (g:=uE) hb;replace qi:=eF (g:=F9) (o:=.cells #[.string BO,.int .i64 lW,.string mW,.string (GI.extract ((UZ):Int).toNat GI.size),.bool true] 92 (0,0)) hb;replace HB:=fw hb;clear hb;have _:=jK mY;have _:=pJ mY)|((with_reducible refine cZ 141 rfl ?_);refine nU (some 59) rfl rfl Tryz.func141 dK rfl #[.string (wT.extract ((ai8):Int).toNat wT.size)] rfl (by(try simp only[List.map_toArray,List.map_cons,List.map_nil]);first|done|(simp only[Tf];rfl)|rfl|(simp only[List.length_drop,List.length_take];rfl)) ?_;(with_reducible refine(dY.calls oz (wT.extract ((ai8):Int).toNat wT.size) asf false _ ZP.out).mono ?_);rintro e mP ⟨rfl,hb⟩;refine⟨_,rfl,?_⟩;replace mY:=eF (g:=uE) hb;replace qi:=eF (g:=F9) (o:=.cells #[.string BO,.int .i64 80,.string (⟨#[47]⟩:af),.string (⟨#[]⟩:af),.bool false] 92 (0,0)) hb;replace HB:=fw hb;clear hb;have atw:=vC.out;have atx:=vD.out;have _:=jK mY;have _:=pJ mY))
  refine TD uE 92 #[.string (⟨#[]⟩:af),.int .i64 0,.string (⟨#[]⟩:af),.string (⟨#[]⟩:af),.bool false] Tryz.underlying92 ?_
  first|exact⟨by first|rfl|(simp[dP,dQ] <;> rfl)|(simp only[<- Tf];first|rfl|(simp[dP,dQ] <;> rfl))|(simp[*,dP,dQ] <;> rfl),aX⟩|exact⟨by first|rfl|(simp[dP,dQ] <;> rfl)|(simp only[<- P5];first|rfl|(simp[dP,dQ] <;> rfl))|(simp[*,dP,dQ] <;> rfl),aX⟩|exact⟨jv,aX⟩):p:=h
theorem bn.calls (k:Nat) (a0 r1:ByteArray) (r2:Int) (r3 r4:ByteArray) (r5 r6:Bool) (w:World) (h:bn.f k a0=some (r1,r2,r3,r4,r5,r6)) :
  Calls Tryz.prog 95 #[.string a0] w fun e w'=>e = .returned (.tuple #[.agg #[.string r1,.int .i64 r2,.string r3,.string r4,.bool r5],.bool r6])/\Below w.heap.size w w':=by
 have Ke:=Tryz.underlying92;have HB:=aa.mk (Below.refl w.heap.size w);have H:=h;clear h;unfold bn.f at H;have qz:=aa.mk H;clear H;go_enter Tryz.func95,Tryz.ntmps95;go_upto_region 1 with(first|((with_reducible refine lT 2 rfl ?_);refine yM #[.string (⟨#[]⟩:af),.int .i64 0,.string (⟨#[]⟩:af),.string (⟨#[]⟩:af),.bool false] 92 ?_;intro uE hg w3 hbox hb;have mY:=aa.mk (hbox);have aES:=lJ hg;replace HB:=fw hb;clear hb hbox hg));(try simp only[Act.put,List.setIfInBounds_toArray,List.set_cons_zero,List.set_cons_succ])
 go_cut [35] (fun v35 wc=>∃(kq:Nat) (ai9:Bool),v35 = .bool ai9/\aa (bn.j0 kq a0 ai9=some (r1,r2,r3,r4,r5,r6))/\aa (kq<=k)/\aa (wc.heap[uE]? = some (.cells #[.string (⟨#[]⟩:af),.int .i64 0,.string (⟨#[]⟩:af),.string (⟨#[]⟩:af),.bool false] 92 (0,0)))/\aa (Below w.heap.size w wc))
 case first=>
  have H:=qz.out;clear qz;replace H:=gI H;rcases H with⟨c4,-,-,H⟩|⟨c4,-,-,H⟩
  ·have jr:decide (200<(a0.size:Int))=true:=bK c4;have qy:decide (200<a0.size)=true:=bK ae;clear c4;(first|rw[jr]|rw[qy]|(simp only[dU,fK];rw[jr])|skip)
   exact bn.e0
  ·have jr:decide (200<(a0.size:Int))=false:=bQ c4;have qy:decide (200<a0.size)=false:=bQ ae;clear c4;(first|rw[jr]|rw[qy]|(simp only[dU,fK];rw[jr])|skip)
   replace H:=gI H;rcases H with⟨c5,jV,-,H⟩|⟨c5,jV,-,H⟩
   ·have rO:decide (a0.size<8)=true:=bK ae;clear c5;exact bn.e0
   ·have rO:decide (a0.size<8)=false:=bQ ae;clear c5;replace H:=xE H;rcases H with⟨A6,H⟩|⟨A6,H⟩
    ·replace H:=gD H;obtain⟨ani,A8,H⟩:=H;replace H:=gI H;rcases H with⟨c9,-,-,H⟩|⟨c9,-,-,H⟩
     ·obtain⟨pg,xy⟩:=kT c9;clear c9;replace H:=gN H;obtain⟨-,Aw,pX,H⟩:=H;replace H:=gN H;obtain⟨-,Aq,oV,H⟩:=H;replace H:=gD H;obtain⟨anj,JR,H⟩:=H;replace H:=aa.mk H;go_wp2_with(first|(go_at_call 100;(with_reducible refine(df.calls k a0 true _ A6.out).mono ?_);rintro e w' ⟨rfl,⟨nd,rfl⟩⟩)|(go_at_call 140;(with_reducible refine(dS.calls k a0 35 ani _ A8.out).mono ?_);rintro e w' ⟨rfl,⟨nd,rfl⟩⟩)|(go_at_call 83;(with_reducible refine(il.calls (a0.extract 0 7) anj _ JR.out).mono ?_);rintro e gG ⟨rfl,hb⟩;replace mY:=eF (g:=uE) hb;replace HB:=fw hb;clear hb));go_meet
      case rel=>exact⟨_,((anj.toList != ([104,116,116,112,58,47,47]:aQ))),bR,H,⟨tT⟩,⟨oQ⟩,⟨aX⟩⟩
     ·obtain⟨pg,xy⟩:=kU c9;exact bn.e1
    ·exact bn.e1
 case rest=>
  clear qz;obtain⟨kq,ai9,rfl,HA,tC,mY,HB⟩:=hcut;cases kq with
  |zero=>exact absurd HA.out (by simp[bn.j0])
  |succ oz=>
   have H:=HA.out;clear HA;simp only[bn.j0] at H;replace H:=gB H;rcases H with⟨rfl,H⟩|⟨rfl,H⟩
   ·simp only[Option.some.injEq,Prod.mk.injEq] at H;obtain⟨rfl,rfl,rfl,rfl,rfl,rfl⟩:=H;have _:=jK mY;have _:=pJ mY;go_wp2;refine TD uE 92 #[.string (⟨#[]⟩:af),.int .i64 0,.string (⟨#[]⟩:af),.string (⟨#[]⟩:af),.bool false] Tryz.underlying92 ?_;exact⟨jv,aX⟩
   ·obtain⟨GI,aqD⟩:∃ z_:ByteArray,a0.extract 7 a0.size=z_:=⟨_,rfl⟩;rw[aqD] at H;replace H:=gI H;rcases H with⟨-,Bu,sS,H⟩|⟨c16,-,-,H⟩
    ·replace H:=gD H;obtain⟨BN,WV,H⟩:=H;replace H:=gD H;obtain⟨wT,ZV,H⟩:=H;replace H:=gD H;obtain⟨JF,A19,H⟩:=H;replace H:=gD H;obtain⟨BO,A20,H⟩:=H;have asg:=aa.mk H;clear H;go_upto_if 52 with(first|((with_reducible refine cZ 140 rfl ?_);refine mM 40 rfl Tryz.func140 (dS.calls oz GI 63 BN _ WV.out) fun nd=>?_;(try(rw[ko wc];generalize hq_:World.drewN wc _=wc;have kR:aa (wc.heap[uE]? = some (.cells #[.string (⟨#[]⟩:af),.int .i64 0,.string (⟨#[]⟩:af),.string (⟨#[]⟩:af),.bool false] 92 (0,0))):=⟨by rw[<- hq_];exact(by(with_reducible repeat(first|refine kH ?_ _|refine eu ?_|refine lX ?_ _));exact mY.out)⟩;have lF:aa (Below w.heap.size w wc):=⟨by rw[<- hq_];exact aX⟩;clear mY HB hq_;have mY:=kR;have HB:=lF;clear kR lF)))|((with_reducible refine cZ 140 rfl ?_);refine mM 42 rfl Tryz.func140 (dS.calls oz BN 47 wT _ ZV.out) fun nd=>?_;(try(rw[ko wc];generalize hq_:World.drewN wc _=wc;have kR:aa (wc.heap[uE]? = some (.cells #[.string (⟨#[]⟩:af),.int .i64 0,.string (⟨#[]⟩:af),.string (⟨#[]⟩:af),.bool false] 92 (0,0))):=⟨by rw[<- hq_];exact(by(with_reducible repeat(first|refine kH ?_ _|refine eu ?_|refine lX ?_ _));exact mY.out)⟩;have lF:aa (Below w.heap.size w wc):=⟨by rw[<- hq_];exact aX⟩;clear mY HB hq_;have mY:=kR;have HB:=lF;clear kR lF)))|((with_reducible refine cZ 140 rfl ?_);refine mM 44 rfl Tryz.func140 (dS.calls oz wT 58 JF _ A19.out) fun nd=>?_;(try(rw[ko wc];generalize hq_:World.drewN wc _=wc;have kR:aa (wc.heap[uE]? = some (.cells #[.string (⟨#[]⟩:af),.int .i64 0,.string (⟨#[]⟩:af),.string (⟨#[]⟩:af),.bool false] 92 (0,0))):=⟨by rw[<- hq_];exact(by(with_reducible repeat(first|refine kH ?_ _|refine eu ?_|refine lX ?_ _));exact mY.out)⟩;have lF:aa (Below w.heap.size w wc):=⟨by rw[<- hq_];exact aX⟩;clear mY HB hq_;have mY:=kR;have HB:=lF;clear kR lF)))|((with_reducible refine cZ 83 rfl ?_);refine iW 46 rfl Tryz.func83 (il.calls JF BO _ A20.out) fun w22 hb _=>?_;have kR:=eF (g:=uE) hb;have lF:=fw hb;clear mY;clear HB;have mY:=kR;have HB:=lF;clear kR lF;(try clear hb))|((with_reducible refine lT 8 rfl ?_);refine yM #[.string (⟨#[]⟩:af),.int .i64 0,.string (⟨#[]⟩:af),.string (⟨#[]⟩:af),.bool false] 92 ?_;intro F9 hg w23 hbox hb;have kR:=eF (g:=uE) hb;have lF:=fw hb;have uy:=aa.mk (hbox);have OD:=lJ hg;have n4_:=lJ hg;have n5_:=CZ (g:=uE) hg;have n6_:=DL n5_;clear mY;clear HB;have mY:=kR;have HB:=lF;have qi:=uy;have aET:=OD;have aEU:=n4_;have vC:=n5_;have vD:=n6_;clear kR lF uy OD n4_ n5_ n6_;clear hb hbox hg;have aEV:=vD.out;have aEW:=vC.out;have _:=jK qi;have _:=pJ qi));(try simp only[Act.put,List.setIfInBounds_toArray,List.set_cons_zero,List.set_cons_succ])
     go_cut [] (fun wc=>∃(kq:Nat) (G5:ByteArray) (G6:Int) (G7:ByteArray) (G8:ByteArray) (G9:Bool) (lW:Int),aa (bn.j1 kq GI BN wT BO lW (⟨#[47]⟩:af) (⟨#[]⟩:af) false=some (r1,r2,r3,r4,r5,r6))/\aa (kq<=oz)/\aa (wc.heap[uE]? = some (.cells #[.string G5,.int .i64 G6,.string G7,.string G8,.bool G9] 92 (0,0)))/\aa (wc.heap[F9]? = some (.cells #[.string BO,.int .i64 lW,.string (⟨#[47]⟩:af),.string (⟨#[]⟩:af),.bool false] 92 (0,0)))/\aa (Below w.heap.size w wc))
     case first=>
      have H:=asg.out;clear asg;replace H:=gI H;rcases H with⟨c26,Ec,-,H⟩|⟨c26,Ec,-,H⟩
      ·have SB:decide (JF.size<wT.size)=true:=bK (Int.ofNat_lt.mp c26);have aBz:(JF.size<wT.size)=True:=eq_true (Int.ofNat_lt.mp c26);clear c26;(first|rw[Ec]|rw[SB]|(simp only[dU,fK];rw[Ec])|skip)
       obtain⟨ai8,Tf⟩:∃ j_:Int,(wrap64 ((JF.size:Int)+1))=j_:=⟨_,rfl⟩;(first|rw[Tf] at H|simp only[Tf] at H ⊢)
       have aBA:(IntKind.i64.wrap ((JF.size:Int)+1))=ai8:=(dU _).trans Tf;replace H:=gN H;obtain⟨-,Wl,Ov,H⟩:=H;replace H:=gN H;obtain⟨-,IV,IU,H⟩:=H;replace H:=gD H;obtain⟨⟨asf,aGu⟩,ZP,H⟩:=H;dsimp only at H;replace H:=gB H;rcases H with⟨rfl,H⟩|⟨rfl,H⟩
       ·replace H:=aa.mk H;go_wp2_with(((with_reducible refine cZ 141 rfl ?_);refine nU (some 59) rfl rfl Tryz.func141 dK rfl #[.string (wT.extract ((ai8):Int).toNat wT.size)] rfl (by(try simp only[List.map_toArray,List.map_cons,List.map_nil]);first|done|(simp only[Tf];rfl)|rfl|(simp only[List.length_drop,List.length_take];rfl)) ?_;(with_reducible refine(dY.calls oz (wT.extract ((ai8):Int).toNat wT.size) asf true _ ZP.out).mono ?_);rintro e jH ⟨rfl,hb⟩;refine⟨_,rfl,?_⟩;replace mY:=eF (g:=uE) hb;replace qi:=eF (g:=F9) (o:=.cells #[.string BO,.int .i64 80,.string (⟨#[47]⟩:af),.string (⟨#[]⟩:af),.bool false] 92 (0,0)) hb;replace HB:=fw hb;clear hb;have aEX:=vD.out;have aEY:=vC.out;have _:=jK qi;have _:=pJ qi));go_meet
        case rel=>exact⟨_,((⟨#[]⟩:af)),(0),((⟨#[]⟩:af)),((⟨#[]⟩:af)),(false),(asf),H,⟨Qt⟩,⟨oQ⟩,⟨oQ⟩,⟨aX⟩⟩
       ·simp only[Option.some.injEq,Prod.mk.injEq] at H;obtain⟨rfl,rfl,rfl,rfl,rfl,rfl⟩:=H;exact bn.e2
      ·have SB:decide (JF.size<wT.size)=false:=bQ (fun h=>c26 (Int.ofNat_lt.mpr h));have aBz:(JF.size<wT.size)=False:=eq_false (fun h=>c26 (Int.ofNat_lt.mpr h));clear c26;(first|rw[Ec]|rw[SB]|(simp only[dU,fK];rw[Ec])|skip)
       replace H:=aa.mk H;go_wp2;go_meet
       case rel=>exact⟨_,((⟨#[]⟩:af)),(0),((⟨#[]⟩:af)),((⟨#[]⟩:af)),(false),(80),H,⟨Qt⟩,⟨oQ⟩,⟨oQ⟩,⟨aX⟩⟩
     case rest=>
      clear asg;try clear c16
      try clear sS
      try clear Bu
      obtain⟨kq,G5,G6,G7,G8,G9,lW,HA,axk,mY,qi,HB⟩:=hcut;cases kq with
      |zero=>exact absurd HA.out (by simp[bn.j1])
      |succ axl=>
       have H:=HA.out;clear HA;simp only[bn.j1] at H;have ash:=aa.mk H;clear H;go_upto_if 71 with(fail);go_cut [] (fun wc=>∃(kq:Nat) (mW:ByteArray),aa (bn.j2 kq GI BN BO lW mW (⟨#[]⟩:af) false=some (r1,r2,r3,r4,r5,r6))/\aa (kq<=axl)/\aa (wc.heap[uE]? = some (.cells #[.string G5,.int .i64 G6,.string G7,.string G8,.bool G9] 92 (0,0)))/\aa (wc.heap[F9]? = some (.cells #[.string BO,.int .i64 lW,.string mW,.string (⟨#[]⟩:af),.bool false] 92 (0,0)))/\aa (Below w.heap.size w wc))
       case first=>
        have H:=ash.out;clear ash;replace H:=gI H;rcases H with⟨MG,Dn,-,H⟩|⟨MG,Dn,-,H⟩
        ·have FQ:decide (wT.size<BN.size)=true:=bK (Int.ofNat_lt.mp MG);have aBB:(wT.size<BN.size)=True:=eq_true (Int.ofNat_lt.mp MG);clear MG;(first|rw[Dn]|rw[FQ]|(simp only[dU,fK];rw[Dn])|skip)
         replace H:=gN H;obtain⟨-,awH,awI,H⟩:=H;replace H:=gN H;obtain⟨-,awJ,aol,H⟩:=H;replace H:=gD H;obtain⟨anh,A42,H⟩:=H;replace H:=aa.mk H;go_wp2_with(((with_reducible refine cZ 142 rfl ?_);refine iW 76 rfl Tryz.func142 (av.calls axl (BN.extract ((wT.size:Int):Int).toNat BN.size) anh _ A42.out) fun wS hb HB=>?_;replace mY:=eF (g:=uE) hb;replace qi:=eF (g:=F9) hb;clear hb;have aEZ:=vD.out;have aE0:=vC.out;have _:=jK qi;have _:=pJ qi));go_meet
         case rel=>exact⟨_,(anh),H,⟨by have:=tC.out;have:=axk.out;first|omega|exact Nat.le_refl _⟩,⟨oQ⟩,⟨oQ⟩,⟨aX⟩⟩
        ·have FQ:decide (wT.size<BN.size)=false:=bQ (fun h=>MG (Int.ofNat_lt.mpr h));have aBB:(wT.size<BN.size)=False:=eq_false (fun h=>MG (Int.ofNat_lt.mpr h));clear MG;(first|rw[Dn]|rw[FQ]|(simp only[dU,fK];rw[Dn])|skip)
         replace H:=aa.mk H;go_wp2;go_meet
         case rel=>exact⟨_,((⟨#[47]⟩:af)),H,⟨by have:=tC.out;have:=axk.out;first|omega|exact Nat.le_refl _⟩,⟨oQ⟩,⟨oQ⟩,⟨aX⟩⟩
       case rest=>
        clear ash;try clear c16
        try clear sS
        try clear Bu
        obtain⟨kq,mW,HA,aGv,mY,qi,HB⟩:=hcut;cases kq with
        |zero=>exact absurd HA.out (by simp[bn.j2])
        |succ ank=>
         have H:=HA.out;clear HA;simp only[bn.j2] at H;replace H:=gI H;rcases H with⟨c46,aon,-,H⟩|⟨c46,aon,-,H⟩
         ·have axm:decide (BN.size<GI.size)=true:=bK (Int.ofNat_lt.mp c46);have aBC:(BN.size<GI.size)=True:=eq_true (Int.ofNat_lt.mp c46);clear c46;obtain⟨UZ,P5⟩:∃ j_:Int,(wrap64 ((BN.size:Int)+1))=j_:=⟨_,rfl⟩;(first|rw[P5] at H|simp only[P5] at H ⊢)
          have aBD:(IntKind.i64.wrap ((BN.size:Int)+1))=UZ:=(dU _).trans P5;replace H:=gN H;obtain⟨-,axd,axe,H⟩:=H;replace H:=gN H;obtain⟨-,aE1,axf,H⟩:=H;replace H:=xE H;rcases H with⟨A50,H⟩|⟨A50,H⟩
          ·simp only[Option.some.injEq,Prod.mk.injEq] at H;obtain⟨rfl,rfl,rfl,rfl,rfl,rfl⟩:=H;have aE2:=vD.out;have aE3:=vC.out;have _:=jK qi;have _:=pJ qi;go_wp2_with(((with_reducible refine cZ 143 rfl ?_);refine nU (some 91) rfl rfl Tryz.func143 dK rfl #[.agg #[.string BO,.int .i64 lW,.string mW,.string (GI.extract ((UZ):Int).toNat GI.size),.bool true]] rfl (by(try simp only[List.map_toArray,List.map_cons,List.map_nil]);first|done|(simp only[P5];rfl)|rfl|(simp only[List.length_drop,List.length_take];rfl)) ?_;(with_reducible refine(aM.calls ank BO lW mW (GI.extract ((UZ):Int).toNat GI.size) true true _ A50.out).mono ?_);rintro e uo ⟨rfl,hb⟩;refine⟨_,rfl,?_⟩;replace mY:=eF (g:=uE) hb;replace qi:=eF (g:=F9) (o:=.cells #[.string BO,.int .i64 lW,.string mW,.string (GI.extract ((UZ):Int).toNat GI.size),.bool true] 92 (0,0)) hb;replace HB:=fw hb;clear hb;have _:=TB qi;have axn:uo.cell? ⟨F9,3,none⟩=some (.string (GI.extract ((UZ):Int).toNat GI.size)):=(ah qi.out 3).trans rfl;have axo:=L9 qi;have _:=pJ qi;have _:=jK mY;have _:=pJ mY));refine TD uE 92 #[.string BO,.int .i64 lW,.string mW,.string (GI.extract ((UZ):Int).toNat GI.size),.bool true] Tryz.underlying92 ?_;exact⟨by first|rfl|(simp[dP,dQ] <;> rfl)|(simp only[<- P5];first|rfl|(simp[dP,dQ] <;> rfl))|(simp[*,dP,dQ] <;> rfl),aX⟩
          ·simp only[Option.some.injEq,Prod.mk.injEq] at H;obtain⟨rfl,rfl,rfl,rfl,rfl,rfl⟩:=H;have aE4:=vD.out;have aE5:=vC.out;have _:=jK qi;have _:=pJ qi;exact bn.e2
         ·have axm:decide (BN.size<GI.size)=false:=bQ (fun h=>c46 (Int.ofNat_lt.mpr h));have aBC:(BN.size<GI.size)=False:=eq_false (fun h=>c46 (Int.ofNat_lt.mpr h));clear c46;replace H:=xE H;rcases H with⟨A61,H⟩|⟨A61,H⟩
          ·simp only[Option.some.injEq,Prod.mk.injEq] at H;obtain⟨rfl,rfl,rfl,rfl,rfl,rfl⟩:=H;have avO:=vD.out;have avP:=vC.out;have _:=jK qi;have _:=pJ qi;go_wp2_with(((with_reducible refine cZ 143 rfl ?_);refine iW 91 rfl Tryz.func143 (aM.calls ank BO lW mW (⟨#[]⟩:af) false true _ A61.out) fun Cu hb HB=>?_;replace mY:=eF (g:=uE) hb;replace qi:=eF (g:=F9) hb;clear hb;have _:=jK qi;have _:=pJ qi;have _:=jK mY;have _:=pJ mY));refine TD uE 92 #[.string BO,.int .i64 lW,.string mW,.string (⟨#[]⟩:af),.bool false] Tryz.underlying92 ?_;exact⟨jv,aX⟩
          ·simp only[Option.some.injEq,Prod.mk.injEq] at H;obtain⟨rfl,rfl,rfl,rfl,rfl,rfl⟩:=H;have avQ:=vD.out;have avR:=vC.out;have _:=jK qi;have _:=pJ qi;exact bn.e2
    ·exact absurd H (by simp)


def nY.f (k:Nat) (ak:ByteArray) (au:Int) (az:ByteArray) (aJ:ByteArray) (aD:Bool):Option (ByteArray):=(aM.f k ak au az aJ aD).bind fun aBE=>(if aBE=true then((ja.f k ak au az aJ aD).bind fun asi=>(some asi)) else(some (⟨#[]⟩:af)))
theorem nY.e0 {p:Prop} (h:p:=by
  obtain rfl:=aI H.out
  go_enter Tryz.func96,Tryz.ntmps96
  go_wp2_with(first|((with_reducible refine lT 1 rfl ?_);refine jL #[.string ak,.int .i64 au,.string az,.string aJ,.bool aD] 92 ?_;intro aja hg gG hbox hb;have P6:=aa.mk (hbox);have aE6:=lJ hg;replace HB:=fw hb;clear hb hbox hg;have _:=jK P6;have _:=pJ P6)|((with_reducible refine cZ 143 rfl ?_);refine iW 4 rfl Tryz.func143 (aM.calls k ak au az aJ aD false _ A2.out) fun wS hb HB=>?_;replace P6:=eF (g:=aja) hb;clear hb)|((with_reducible refine cZ 143 rfl ?_);refine iW 4 rfl Tryz.func143 (aM.calls k ak au az aJ aD true _ A2.out) fun jH hb HB=>?_;replace P6:=eF (g:=aja) hb;clear hb;have _:=jK P6;have _:=pJ P6)|((with_reducible refine cZ 144 rfl ?_);refine iW 7 rfl Tryz.func144 (ja.calls k ak au az aJ aD asi _ A4.out) fun mP hb HB=>?_;replace P6:=eF (g:=aja) hb;clear hb))
  go_ret
  exact⟨jv,aX⟩):p:=h
theorem nY.calls (k:Nat) (ak:ByteArray) (au:Int) (az aJ:ByteArray) (aD:Bool) (r:ByteArray) (w:World) (h:nY.f k ak au az aJ aD=some r) :
  Calls Tryz.prog 96 #[.agg #[.string ak,.int .i64 au,.string az,.string aJ,.bool aD]] w fun e w'=>e = .returned (.string r)/\Below w.heap.size w w':=by
 have Ke:=Tryz.underlying92;have HB:=aa.mk (Below.refl w.heap.size w);have H:=aa.mk h;clear h;unfold nY.f at H;rcases lu H with⟨A2,H⟩|⟨A2,H⟩
 ·obtain⟨asi,A4,H⟩:=nP H;exact nY.e0
 ·exact nY.e0

def oP.f (k:Nat) (a0:ByteArray):Option (ByteArray×Bool):=(bn.f k a0).bind fun Tg=>(if Tg.2.2.2.2.2=true then((nY.f k Tg.1 Tg.2.1 Tg.2.2.1 Tg.2.2.2.1 Tg.2.2.2.2.1).bind fun asj=>(some (asj,true))) else(some ((⟨#[]⟩:af),false)))
theorem oP.e0 {p:Prop} (h:p:=by
  go_enter Tryz.func57,Tryz.ntmps57
  go_wp2_with(first|((with_reducible refine cZ 95 rfl ?_);refine iW 8 rfl Tryz.func95 (bn.calls k a0 anl anm ann ano anp false _ A2.out) fun wS hb HB=>?_;clear hb)|((with_reducible refine cZ 95 rfl ?_);refine iW 8 rfl Tryz.func95 (bn.calls k a0 anl anm ann ano anp true _ A2.out) fun gG hb HB=>?_;clear hb)|((with_reducible refine lT 4 rfl ?_);refine jL #[.string (⟨#[]⟩:af),.int .i64 0,.string (⟨#[]⟩:af),.string (⟨#[]⟩:af),.bool false] 92 ?_;intro axp hg jH hbox hb;have ajb:=aa.mk (hbox);have aE7:=lJ hg;replace HB:=fw hb;clear hb hbox hg;have _:=jK ajb;have _:=pJ ajb)|((with_reducible refine cZ 96 rfl ?_);refine iW 14 rfl Tryz.func96 (nY.calls k anl anm ann ano anp asj _ A4.out) fun mP hb HB=>?_;replace ajb:=eF (g:=axp) (o:=.cells #[.string anl,.int .i64 anm,.string ann,.string ano,.bool anp] 92 (0,0)) hb;clear hb))
  go_ret2
  exact⟨jv,aX⟩):p:=h
theorem oP.calls (k:Nat) (a0 r1:ByteArray) (r2:Bool) (w:World) (h:oP.f k a0=some (r1,r2)) :
  Calls Tryz.prog 57 #[.string a0] w fun e w'=>e = .returned (.tuple #[.string r1,.bool r2])/\Below w.heap.size w w':=by
 have Ke:=Tryz.underlying92;have HB:=aa.mk (Below.refl w.heap.size w);have H:=h;clear h;unfold oP.f at H;replace H:=gD H;obtain⟨⟨anl,anm,ann,ano,anp,aGw⟩,A2,H⟩:=H;dsimp only at H;replace H:=gB H;rcases H with⟨rfl,H⟩|⟨rfl,H⟩
 ·replace H:=gD H;obtain⟨asj,A4,H⟩:=H;simp only[Option.some.injEq,Prod.mk.injEq] at H;obtain⟨rfl,rfl⟩:=H;exact oP.e0
 ·simp only[Option.some.injEq,Prod.mk.injEq] at H;obtain⟨rfl,rfl⟩:=H;exact oP.e0


def mE.f (k:Nat) (a0:ByteArray):Option (Bool):=(oP.f k a0).bind fun apl=>(if apl.2=true then(some (apl.1.toList==a0.toList)) else(some false))
theorem mE.e0 {p:Prop} (h:p:=by
  obtain rfl:=aI H
  go_enter Tryz.func30,Tryz.ntmps30
  go_wp2_with(first|((with_reducible refine cZ 57 rfl ?_);refine iW 7 rfl Tryz.func57 (oP.calls k a0 axq false _ A2.out) fun jH hb HB=>?_;clear hb)|((with_reducible refine cZ 57 rfl ?_);refine iW 7 rfl Tryz.func57 (oP.calls k a0 axq true _ A2.out) fun gG hb HB=>?_;clear hb))
  go_ret
  exact⟨jv,aX⟩):p:=h
theorem mE.calls (k:Nat) (a0:ByteArray) (r:Bool) (w:World) (h:mE.f k a0=some r) :
  Calls Tryz.prog 30 #[.string a0] w fun e w'=>e = .returned (.bool r)/\Below w.heap.size w w':=by
 have HB:=aa.mk (Below.refl w.heap.size w);have H:=h;clear h;unfold mE.f at H;replace H:=gD H;obtain⟨⟨axq,aGx⟩,A2,H⟩:=H;dsimp only at H;replace H:=gB H;rcases H with⟨rfl,H⟩|⟨rfl,H⟩
 ·exact mE.e0
 ·exact mE.e0


def kr.l0 : Nat->ByteArray->Int->Int->Option (Int×Bool)
 |0,_,_,_=>none
 |k+1,x0,x4,x5=>if x5<(x0.size:Int) then(if 0<=x5 then((bD.f (bt x0 x5)).bind fun axr=>(if axr=true then(if(wrap64 ((wrap64 (x4*10))+(((bt x0 x5)-48)%256)))>2147483648 then(kr.l0 k x0 2147483648 (wrap64 (x5+1))) else(kr.l0 k x0 (wrap64 ((wrap64 (x4*10))+(((bt x0 x5)-48)%256))) (wrap64 (x5+1)))) else(some (0,false)))) else(none)) else(some (x4,true))
def kr.f (k:Nat) (a0:ByteArray):Option (Int×Bool):=if a0.toList=([]:aQ) then(some (0,false)) else(kr.l0 k a0 0 0)
theorem kr.calls (k:Nat) (a0:ByteArray) (r1:Int) (r2:Bool) (w:World) (h:kr.f k a0=some (r1,r2)) :
  Calls Tryz.prog 45 #[.string a0] w fun e w'=>e = .returned (.tuple #[.int .i64 r1,.bool r2])/\bH w w':=by
 have H:=aa.mk h;clear h;unfold kr.f at H;rcases jw H with⟨c2,-,-,H⟩|⟨c2,-,-,H⟩
 ·obtain⟨jc,nD⟩:=kT c2;clear c2;simp only[Option.some.injEq,Prod.mk.injEq] at H;obtain⟨rfl,rfl⟩:=H;go_enter Tryz.func45,Tryz.ntmps45;go_wp2;go_ret2;exact⟨bR,iL⟩
 ·obtain⟨jc,nD⟩:=kU c2;go_enter Tryz.func45,Tryz.ntmps45;go_wp2;go_loopg [4,5] k (fun kq v4 v5 w'=>∃(dH:Int) (bu:Int),v4 = .int .i64 dH/\v5 = .int .i64 bu/\aa (kr.l0 kq a0 dH bu=some (r1,r2))/\aa (kq<=k)/\bH w w')
  case atStart=>exact⟨(0),(0),bR,bR,H,⟨Nat.le_refl _⟩,iL⟩
  case round=>
   clear H;try clear c2
   try clear jc
   try clear nD
   obtain⟨dH,bu,rfl,rfl,HA,ig,⟨m1,rfl⟩⟩:=hrel;cases gk with
   |zero=>exact absurd HA.out (by simp[kr.l0])
   |succ k1=>
    have H:=HA;clear HA;simp only[kr.l0] at H;rcases jw H with⟨-,cB,-,H⟩|⟨-,cB,-,H⟩
    ·obtain⟨-,jr,-,H⟩:=nZ H;rcases lu H with⟨A6,H⟩|⟨A6,H⟩
     ·rcases jw H with⟨-,pg,-,H⟩|⟨-,pg,-,H⟩
      ·have p5:0<=(bu:Int):=ay bM;have q5:bu<(a0.size:Int):=ay bM;have hx5:=bO a0 bu;replace p5:=eq_true p5;replace q5:=eq_true q5;go_wp2_with(((with_reducible refine cZ 77 rfl ?_);refine mM 17 rfl Tryz.func77 (bD.calls (bt a0 bu) true _ A6.out) fun nd=>?_;have p8:0<=(bu:Int):=ay bM;have q8:bu<(a0.size:Int):=ay bM;have hx8:=bO a0 bu;replace p8:=eq_true p8;replace q8:=eq_true q8));go_roundg k1
       case measure=>have:=ig.out;omega
       case rel=>exact⟨(2147483648),(wrap64 (bu+1)),bR,bR,H,⟨by have:=ig.out;omega⟩,iL⟩
      ·have p5:0<=(bu:Int):=ay bM;have q5:bu<(a0.size:Int):=ay bM;have hx5:=bO a0 bu;replace p5:=eq_true p5;replace q5:=eq_true q5;go_wp2_with(((with_reducible refine cZ 77 rfl ?_);refine mM 17 rfl Tryz.func77 (bD.calls (bt a0 bu) true _ A6.out) fun nd=>?_;have p8:0<=(bu:Int):=ay bM;have q8:bu<(a0.size:Int):=ay bM;have hx8:=bO a0 bu;replace p8:=eq_true p8;replace q8:=eq_true q8));go_roundg k1
       case measure=>have:=ig.out;omega
       case rel=>exact⟨(wrap64 ((wrap64 (dH*10))+(((bt a0 bu)-48)%256))),(wrap64 (bu+1)),bR,bR,H,⟨by have:=ig.out;omega⟩,iL⟩
     ·simp only[Option.some.injEq,Prod.mk.injEq] at H;obtain⟨rfl,rfl⟩:=H;have p5:0<=(bu:Int):=ay bM;have q5:bu<(a0.size:Int):=ay bM;have hx5:=bO a0 bu;replace p5:=eq_true p5;replace q5:=eq_true q5;go_wp2_with(((with_reducible refine cZ 77 rfl ?_);refine mM 17 rfl Tryz.func77 (bD.calls (bt a0 bu) false _ A6.out) fun nd=>?_));go_ret2;exact⟨bR,iL⟩
    ·simp only[Option.some.injEq,Prod.mk.injEq] at H;obtain⟨rfl,rfl⟩:=H;go_wp2;go_ret2;exact⟨bR,iL⟩

def lN.f (k:Nat) (a0:ByteArray):Option (ByteArray×ByteArray):=(dS.f k a0 61).bind fun yK=>(if(yK.size:Int)=(a0.size:Int) then((cu.f k yK).bind fun ac2=>((il.f ac2).bind fun ajc=>(some (ajc,(⟨#[]⟩:af))))) else(if 0<=(wrap64 ((yK.size:Int)+1)) then(if(wrap64 ((yK.size:Int)+1))<=(a0.size:Int) then((cu.f k (a0.extract ((wrap64 ((yK.size:Int)+1)):Int).toNat a0.size)).bind fun Ti=>((dE.f k Ti).bind fun ajd=>(if ajd.2=true then((cu.f k yK).bind fun ac3=>((il.f ac3).bind fun aje=>(some (aje,ajd.1)))) else((cu.f k yK).bind fun ac4=>((il.f ac4).bind fun ajf=>(some (ajf,Ti))))))) else(none)) else(none)))
theorem lN.e0 {p:Prop} (h:p:=by
  go_enter Tryz.func167,Tryz.ntmps167
  go_wp2_with(first|((with_reducible refine cZ 140 rfl ?_);refine mM 9 rfl Tryz.func140 (dS.calls k a0 61 yK _ A2.out) fun nd=>?_)|((with_reducible refine cZ 99 rfl ?_);refine nU (some 23) rfl rfl Tryz.func99 dK rfl #[.string (a0.extract ((ji7):Int).toNat a0.size)] rfl (by(try simp only[List.map_toArray,List.map_cons,List.map_nil]);first|done|(simp only[Eg];rfl)|rfl|(simp only[List.length_drop,List.length_take];rfl)) ?_;(with_reducible refine(cu.calls k (a0.extract ((ji7):Int).toNat a0.size) Ti _ JQ.out).mono ?_);rintro e w' ⟨rfl,⟨nd,rfl⟩⟩;refine⟨_,rfl,?_⟩)|((with_reducible refine cZ 205 rfl ?_);refine iW 26 rfl Tryz.func205 (dE.calls k Ti apm false _ M3.out) fun wS hb HB=>?_)|((with_reducible refine cZ 99 rfl ?_);refine mM 32 rfl Tryz.func99 (cu.calls k yK ac4 _ WV.out) fun nd=>?_)|((with_reducible refine cZ 83 rfl ?_);refine iW 33 rfl Tryz.func83 (il.calls ac4 ajf _ ZV.out) fun uo hb HB=>?_;clear hb)|((with_reducible refine cZ 205 rfl ?_);refine iW 26 rfl Tryz.func205 (dE.calls k Ti apm true _ M3.out) fun jH hb HB=>?_;clear hb)|((with_reducible refine cZ 99 rfl ?_);refine mM 32 rfl Tryz.func99 (cu.calls k yK ac3 _ K5.out) fun nd=>?_)|((with_reducible refine cZ 83 rfl ?_);refine iW 33 rfl Tryz.func83 (il.calls ac3 aje _ A14.out) fun mP hb HB=>?_;clear hb)|((with_reducible refine cZ 99 rfl ?_);refine mM 16 rfl Tryz.func99 (cu.calls k yK ac2 _ A4.out) fun nd=>?_)|((with_reducible refine cZ 83 rfl ?_);refine iW 17 rfl Tryz.func83 (il.calls ac2 ajc _ A5.out) fun gG hb HB=>?_;clear hb))
  go_ret2
  first|exact⟨jv,aX⟩|exact⟨by first|rfl|(simp[dP,dQ] <;> rfl)|(simp only[<- Eg];first|rfl|(simp[dP,dQ] <;> rfl))|(simp[*,dP,dQ] <;> rfl),aX⟩):p:=h
theorem lN.calls (k:Nat) (a0 r1 r2:ByteArray) (w:World) (h:lN.f k a0=some (r1,r2)) :
  Calls Tryz.prog 167 #[.string a0] w fun e w'=>e = .returned (.tuple #[.string r1,.string r2])/\Below w.heap.size w w':=by
 have HB:=aa.mk (Below.refl w.heap.size w);have H:=h;clear h;unfold lN.f at H;replace H:=gD H;obtain⟨yK,A2,H⟩:=H;replace H:=gI H;rcases H with⟨c3,-,-,H⟩|⟨c3,-,-,H⟩
 ·obtain⟨cB,nE⟩:=kT c3;have Mv:(yK.size==a0.size)=true:=by first|simpa using c3|(simp at c3 ⊢;omega)
  clear c3;replace H:=gD H;obtain⟨ac2,A4,H⟩:=H;replace H:=gD H;obtain⟨ajc,A5,H⟩:=H;simp only[Option.some.injEq,Prod.mk.injEq] at H;obtain⟨rfl,rfl⟩:=H;exact lN.e0
 ·obtain⟨cB,nE⟩:=kU c3;have Mv:(yK.size==a0.size)=false:=by first|simpa using c3|(simp at c3 ⊢;omega)
  obtain⟨ji7,Eg⟩:∃ j_:Int,(wrap64 ((yK.size:Int)+1))=j_:=⟨_,rfl⟩;(first|rw[Eg] at H|simp only[Eg] at H ⊢)
  (try rw[Eg] at A2)
  have aow:(IntKind.i64.wrap ((yK.size:Int)+1))=ji7:=(dU _).trans Eg;replace H:=gI H;rcases H with⟨-,za,mU,H⟩|⟨c8,-,-,H⟩
  ·replace H:=gN H;obtain⟨-,xy,pg,H⟩:=H;replace H:=gD H;obtain⟨Ti,JQ,H⟩:=H;replace H:=gD H;obtain⟨⟨apm,aE8⟩,M3,H⟩:=H;dsimp only at H;replace H:=gB H;rcases H with⟨rfl,H⟩|⟨rfl,H⟩
   ·replace H:=gD H;obtain⟨ac3,K5,H⟩:=H;replace H:=gD H;obtain⟨aje,A14,H⟩:=H;simp only[Option.some.injEq,Prod.mk.injEq] at H;obtain⟨rfl,rfl⟩:=H;exact lN.e0
   ·replace H:=gD H;obtain⟨ac4,WV,H⟩:=H;replace H:=gD H;obtain⟨ajf,ZV,H⟩:=H;simp only[Option.some.injEq,Prod.mk.injEq] at H;obtain⟨rfl,rfl⟩:=H;exact lN.e0
  ·exact absurd H (by simp)

def iD.l0 : Nat->List ByteArray->ByteArray->Int->Option (ByteArray×Bool)
 |0,_,_,_=>none
 |k+1,x0,x1,x6=>if x6<(x0.length:Int) then(if 0<=x6 then((lN.f k (dh ByteArray.empty x0 x6)).bind fun ajg=>(if ajg.1.toList=x1.toList then(some (ajg.2,true)) else(iD.l0 k x0 x1 (wrap64 (x6+1))))) else(none)) else(some ((⟨#[]⟩:af),false))
def iD.f (k:Nat) (l0:List ByteArray) (a1:ByteArray):Option (ByteArray×Bool):=iD.l0 k l0 a1 0
theorem iD.calls (k:Nat) (A0:Option Addr) (c0:Nat) (l0:List ByteArray) (a1 r1:ByteArray) (r2:Bool) (w:World) (hr0:Kd.C Kd.string w A0 l0.length l0) (hc0:l0.length<=c0) (h:iD.f k l0 a1=some (r1,r2)) :
  Calls Tryz.prog 124 #[.slice A0 l0.length c0,.string a1] w fun e w'=>e = .returned (.tuple #[.string r1,.bool r2])/\Below w.heap.size w w':=by
 have wR:=aa.mk hr0;have xw:=aa.mk hc0;clear hr0 hc0;have HB:=aa.mk (Below.refl w.heap.size w);have H:=aa.mk h;clear h;unfold iD.f at H;go_enter Tryz.func124,Tryz.ntmps124;go_wp2;go_loopg [6] k (fun kq v6 w'=>∃(jl:Int),v6 = .int .i64 jl/\aa (iD.l0 kq l0 a1 jl=some (r1,r2))/\aa (kq<=k)/\aa (Below w.heap.size w w'))
 case atStart=>exact⟨(0),bR,H,⟨Nat.le_refl _⟩,⟨aX⟩⟩
 case round=>
  clear H;obtain⟨jl,rfl,HA,ig,HB⟩:=hrel;cases gk with
  |zero=>exact absurd HA.out (by simp[iD.l0])
  |succ k1=>
   have H:=HA;clear HA;simp only[iD.l0] at H;rcases jw H with⟨-,cB,-,H⟩|⟨-,cB,-,H⟩
   ·obtain⟨-,jr,-,H⟩:=nZ H;obtain⟨⟨apn,apo⟩,A5,H⟩:=nP H;dsimp only at H;rcases jw H with⟨c6,-,-,H⟩|⟨c6,-,-,H⟩
    ·obtain⟨jy,pq⟩:=kT c6;clear c6;simp only[Option.some.injEq,Prod.mk.injEq] at H;obtain⟨rfl,rfl⟩:=H;have P7:0<=(jl:Int):=ay bM;have P8:jl<(l0.length:Int):=ay bM;obtain⟨asl,ajh,Ac⟩:=Kd.eG wR.out jl P7 P8;cases ajh
     replace Ac:=(HB.out.cell (World.block_lt_of_cell? w _ Ac)).trans Ac;replace P7:=eq_true P7;replace P8:=eq_true P8;go_wp2_with(((with_reducible refine cZ 167 rfl ?_);refine iW 20 rfl Tryz.func167 (lN.calls k1 (dh ByteArray.empty l0 jl) apn apo _ A5.out) fun gG hb HB=>?_;clear hb));go_ret2;exact⟨jv,aX⟩
    ·obtain⟨jy,pq⟩:=kU c6;have P7:0<=(jl:Int):=ay bM;have P8:jl<(l0.length:Int):=ay bM;obtain⟨asl,ajh,Ac⟩:=Kd.eG wR.out jl P7 P8;cases ajh
     replace Ac:=(HB.out.cell (World.block_lt_of_cell? w _ Ac)).trans Ac;replace P7:=eq_true P7;replace P8:=eq_true P8;go_wp2_with(((with_reducible refine cZ 167 rfl ?_);refine iW 20 rfl Tryz.func167 (lN.calls k1 (dh ByteArray.empty l0 jl) apn apo _ A5.out) fun gG hb HB=>?_;clear hb));go_roundg k1
     case measure=>have:=ig.out;omega
     case rel=>exact⟨(wrap64 (jl+1)),bR,H,⟨by have:=ig.out;omega⟩,⟨aX⟩⟩
   ·simp only[Option.some.injEq,Prod.mk.injEq] at H;obtain⟨rfl,rfl⟩:=H;go_wp2;go_ret2;exact⟨jv,aX⟩


def iB.f (k:Nat) (l0:List ByteArray) (a1:ByteArray):Option (Bool):=(iD.f k l0 a1).bind fun asn=>(some asn.2)
theorem iB.calls (k:Nat) (A0:Option Addr) (c0:Nat) (l0:List ByteArray) (a1:ByteArray) (r:Bool) (w:World) (hr0:Kd.C Kd.string w A0 l0.length l0) (hc0:l0.length<=c0) (h:iB.f k l0 a1=some r) :
  Calls Tryz.prog 81 #[.slice A0 l0.length c0,.string a1] w fun e w'=>e = .returned (.bool r)/\Below w.heap.size w w':=by
 have wR:=aa.mk hr0;have xw:=aa.mk hc0;clear hr0 hc0;have HB:=aa.mk (Below.refl w.heap.size w);have H:=aa.mk h;clear h;unfold iB.f at H;obtain⟨⟨axs,axt⟩,A3,H⟩:=nP H;dsimp only at H;obtain rfl:=aI H.out;go_enter Tryz.func81,Tryz.ntmps81;go_wp2_with(((with_reducible refine cZ 124 rfl ?_);refine iW 10 rfl Tryz.func124 (iD.calls k _ _ l0 a1 axs axt _ Rk xw.out A3.out) fun gG hb HB=>?_;clear hb));go_ret;exact⟨jv,aX⟩

def iF.f (k:Nat) (l0:List ByteArray) (a1:ByteArray) (a2:Int) (a3:Int):Option (Int):=(iD.f k l0 a1).bind fun aa2=>(if aa2.2=true then((kr.f k aa2.1).bind fun aji=>(if aji.2=true then(some aji.1) else(if aa2.1.toList=([]:aQ) then(some a2) else(some a3)))) else(some (-1)))
theorem iF.e0 {p:Prop} (h:p:=by
  obtain rfl:=aI H
  go_enter Tryz.func82,Tryz.ntmps82
  go_wp2_with(first|((with_reducible refine cZ 124 rfl ?_);refine iW 16 rfl Tryz.func124 (iD.calls k _ _ l0 a1 ac5 false _ Rk xw.out A5.out) fun jH hb HB=>?_;clear hb)|((with_reducible refine cZ 124 rfl ?_);refine iW 16 rfl Tryz.func124 (iD.calls k _ _ l0 a1 ac5 true _ Rk xw.out A5.out) fun gG hb HB=>?_;clear hb)|((with_reducible refine cZ 45 rfl ?_);refine mM 23 rfl Tryz.func45 (kr.calls k ac5 apq false _ A7.out) fun nd=>?_)|((with_reducible refine cZ 45 rfl ?_);refine mM 23 rfl Tryz.func45 (kr.calls k ac5 apq true _ A7.out) fun nd=>?_))
  go_ret
  exact⟨jv,aX⟩):p:=h
theorem iF.calls (k:Nat) (A0:Option Addr) (c0:Nat) (l0:List ByteArray) (a1:ByteArray) (a2 a3 r:Int) (w:World) (hr0:Kd.C Kd.string w A0 l0.length l0) (hc0:l0.length<=c0) (h:iF.f k l0 a1 a2 a3=some r) :
  Calls Tryz.prog 82 #[.slice A0 l0.length c0,.string a1,.int .i64 a2,.int .i64 a3] w fun e w'=>e = .returned (.int .i64 r)/\Below w.heap.size w w':=by
 have wR:=aa.mk hr0;have xw:=aa.mk hc0;clear hr0 hc0;have HB:=aa.mk (Below.refl w.heap.size w);have H:=h;clear h;unfold iF.f at H;replace H:=gD H;obtain⟨⟨ac5,aE9⟩,A5,H⟩:=H;dsimp only at H;replace H:=gB H;rcases H with⟨rfl,H⟩|⟨rfl,H⟩
 ·replace H:=gD H;obtain⟨⟨apq,aFa⟩,A7,H⟩:=H;dsimp only at H;replace H:=gB H;rcases H with⟨rfl,H⟩|⟨rfl,H⟩
  ·exact iF.e0
  ·replace H:=gI H;rcases H with⟨c10,-,-,H⟩|⟨c10,-,-,H⟩
   ·obtain⟨pX,Aw⟩:=kT c10;clear c10;exact iF.e0
   ·obtain⟨pX,Aw⟩:=kU c10;exact iF.e0
 ·exact iF.e0

end Go.Proofs.YtfhllanhldbkkaaGreatDoor.P
