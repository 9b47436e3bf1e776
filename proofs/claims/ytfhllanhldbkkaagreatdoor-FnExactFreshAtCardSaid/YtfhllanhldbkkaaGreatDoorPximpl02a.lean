import Derived.Test.YtfhllanhldbkkaaGreatDoorPximpl01a
set_option maxHeartbeats 8000000
set_option maxRecDepth 100000
namespace Go.Proofs.YtfhllanhldbkkaaGreatDoor.P
open Go.RowKit Go.Proofs.YtfhllanhldbkkaaGreatDoorW.aW Go.Proofs.YtfhllanhldbkkaaGreatDoorW.eQ Go.Proofs.YtfhllanhldbkkaaGreatDoorW.fO
attribute [local go_sem] kV kW mE mF jP jQ kX kY dZ E8 E9 Fa Fb oU oV
set_option linter.unusedVariables false
set_option linter.unusedSimpArgs false

def iT.f (a0:Int):Option (Bool):=(dB.f a0 0 253402300799).bind fun aA2=>(some aA2)
theorem iT.calls (a0:Int) (r:Bool) (w:World) (h:iT.f a0=some r) :
  Calls Tryz.prog 37 #[.int .i64 a0] w fun e w'=>e = .returned (.bool r)/\bL w w':=by
 unfold iT.f at h;exact uA
@[reducible,instance] def iT.c:=jM.of 0 Tryz.func37 @iT.calls

mutual
def bf.l0 : Nat->ByteArray->List Int->Int->Option (List Int)
 |0,_,_,_=>none
 |k+1,x0,x3,x4=>if x4<(x0.size:Int) then(bf.l1 k x0 x3 x4 x4 0) else(some x3)
def bf.l1 : Nat->ByteArray->List Int->Int->Int->Int->Option (List Int)
 |0,_,_,_,_,_=>none
 |k+1,x0,x3,x4,x5,x6=>if x5<(x0.size:Int) then(if 0<=x5 then((gF.f (bt x0 x5)).bind fun avZ=>(if avZ=true then(if(wrap64 (x5-x4))<9 then(bf.l1 k x0 x3 x4 (wrap64 (x5+1)) (wrap64 ((wrap64 (10*x6))+(((bt x0 x5)-48)%256)))) else(if x5>x4 then(if x3.length<17592186044416 then(bf.l0 k x0 (x3 ++ [x6]) (wrap64 ((wrap64 (x5-1))+1))) else(none)) else(bf.l0 k x0 x3 (wrap64 (x4+1))))) else(if x5>x4 then(if x3.length<17592186044416 then(bf.l0 k x0 (x3 ++ [x6]) (wrap64 ((wrap64 (x5-1))+1))) else(none)) else(bf.l0 k x0 x3 (wrap64 (x4+1)))))) else(none)) else(if x5>x4 then(if x3.length<17592186044416 then(bf.l0 k x0 (x3 ++ [x6]) (wrap64 ((wrap64 (x5-1))+1))) else(none)) else(bf.l0 k x0 x3 (wrap64 (x4+1))))
end
def bf.f (k:Nat) (a0:ByteArray):Option (List Int):=bf.l0 k a0 ([]:List Int) 0
theorem bf.e0 {p:Prop} (h:p:=by
  replace H:=ae.mk H
  have p5:0<=(pE:Int):=aX gq
  have q5:pE<(a0.size:Int):=aX gq
  have hx5:=dZ a0 pE
  replace p5:=eq_true p5
  replace q5:=eq_true q5
  go_wp2_with(first|(go_at_call 166;(with_reducible refine(gF.calls (bt a0 pE) false _ A6.out).mono ?_);rintro e w' ⟨rfl,⟨nd,rfl⟩⟩)|(go_at_call 166;(with_reducible refine(gF.calls (bt a0 pE) true _ A6.out).mono ?_);rintro e w' ⟨rfl,⟨nd,rfl⟩⟩))
  go_roundg k2
  case measure=>have:=mh.out;have:=Cv.out;omega
  case rel=>exact⟨(jD),(wrap64 (gJ+1)),kD,H,⟨agi⟩,⟨wh⟩,⟨dL⟩⟩):p:=h
theorem bf.calls (k:Nat) (a0:ByteArray) (r:List Int) (w:World) (h:bf.f k a0=some r) :
  Calls Tryz.prog 132 #[.string a0] w fun e w'=>∃ KW:Value,e = .returned (KW)/\Kd.R (Kd.int .i64) 3 w' w.heap.size (fun _=>True) KW r/\Below w.heap.size w w':=by
 have HB:=ae.mk (Below.refl w.heap.size w);have H:=h;clear h;unfold bf.f at H;replace H:=ae.mk H;go_enter Tryz.func132,Tryz.ntmps132;go_wp2;go_loopg [3,4] k (fun kq v3 v4 w'=>∃(jD:List Int) (gJ:Int),v4 = .int .i64 gJ/\ae (bf.l0 kq a0 jD gJ=some r)/\ae (kq<=k)/\ae (Kd.R (Kd.int .i64) 3 w' w.heap.size (fun _=>True) v3 jD)/\ae (Below w.heap.size w w'))
 case atStart=>exact⟨(([]:List Int)),(0),kD,H,⟨Nat.le_refl _⟩,⟨Pe⟩,⟨dL⟩⟩
 case round=>
  clear H;obtain⟨jD,gJ,rfl,HA,mh,jY,HB⟩:=hrel;cases gk with
  |zero=>exact absurd HA.out (by simp[bf.l0])
  |succ k1=>
   have H:=HA.out;clear HA;simp only[bf.l0] at H;replace H:=gI H;rcases H with⟨-,xU,-,H⟩|⟨-,xU,-,H⟩
   ·replace H:=ae.mk H;go_wp2;go_loopg [5,6] k1 (fun kq v5 v6 w'=>∃(pE:Int) (ib:Int),v5 = .int .i64 pE/\v6 = .int .i64 ib/\ae (bf.l1 kq a0 jD gJ pE ib=some r)/\ae (kq<=k1)/\ae (Kd.R (Kd.int .i64) 3 w' w.heap.size (fun _=>True) u3 jD)/\ae (Below w.heap.size w w'))
    case atStart=>exact⟨(gJ),(0),kD,kD,H,⟨Nat.le_refl _⟩,⟨wh⟩,⟨dL⟩⟩
    case round=>
     clear H;try clear xU
     obtain⟨pE,ib,rfl,rfl,HA,Cv,jY,HB⟩:=hrel;cases gk with
     |zero=>exact absurd HA.out (by simp[bf.l1])
     |succ k2=>
      have H:=HA.out;clear HA;simp only[bf.l1] at H;replace H:=gI H;rcases H with⟨-,nS,-,H⟩|⟨-,nS,-,H⟩
      ·replace H:=gN H;obtain⟨-,yE,-,H⟩:=H;replace H:=WU H;rcases H with⟨A6,H⟩|⟨A6,H⟩
       ·replace H:=gI H;rcases H with⟨-,zS,-,H⟩|⟨-,zS,-,H⟩
        ·replace H:=ae.mk H;have p5:0<=(pE:Int):=aX gq;have q5:pE<(a0.size:Int):=aX gq;have hx5:=dZ a0 pE;replace p5:=eq_true p5;replace q5:=eq_true q5;go_wp2_with((go_at_call 166;(with_reducible refine(gF.calls (bt a0 pE) true _ A6.out).mono ?_);rintro e w' ⟨rfl,⟨nd,rfl⟩⟩;have p9:0<=(pE:Int):=aX gq;have q9:pE<(a0.size:Int):=aX gq;have hx9:=dZ a0 pE;replace p9:=eq_true p9;replace q9:=eq_true q9));go_roundg k2
         case measure=>have:=mh.out;have:=Cv.out;omega
         case rel=>exact⟨(wrap64 (pE+1)),(wrap64 ((wrap64 (10*ib))+(((bt a0 pE)-48)%256))),kD,kD,H,⟨agi⟩,⟨wh⟩,⟨dL⟩⟩
        ·replace H:=gI H;rcases H with⟨-,Cm,-,H⟩|⟨-,Cm,-,H⟩
         ·replace H:=gN H;obtain⟨c11,-,-,H⟩:=H;have aaM:=ae.mk c11;clear c11;obtain⟨aqe,U1⟩:∃ y_:List Int,y_=(jD ++ [ib]):=⟨_,rfl⟩;replace H:(bf.l0 k2 a0 aqe (wrap64 ((wrap64 (pE-1))+1)))=some r:=by first|(rw[U1];with_reducible exact H)|(have mW:=(aj _ _).symm.trans H;rw[U1];with_reducible exact mW)|(have mW:=(aj _ _).symm.trans H;with_reducible exact mW)|with_reducible exact H|(rw[U1];exact H)|exact H
          have asX:=ae.mk U1;clear U1;replace H:=ae.mk H;have p5:0<=(pE:Int):=aX gq;have q5:pE<(a0.size:Int):=aX gq;have hx5:=dZ a0 pE;replace p5:=eq_true p5;replace q5:=eq_true q5;go_wp2_with(first|(go_at_call 166;(with_reducible refine(gF.calls (bt a0 pE) true _ A6.out).mono ?_);rintro e w' ⟨rfl,⟨nd,rfl⟩⟩)|((with_reducible refine iF (b:=.append) (xs:=#[.tmp 43,.tmp 45]) rfl ?_);at_builtin;refine Kd.mG (Kd.int .i64) (w0:=w) w.heap.size rfl (.tmp 43) (.tmp 45) 90 3 (.int .i64 0) 8 rfl Tryz.underlying90 info3 rfl av aa u3 jD ib [.int .i64 ib] (fun _=>True) (fun _=>False) rfl rfl ?aP (fun _ hk=>hk.elim) ?aF ?aO ?aB ?aS ?aL ?_;(case aP=>exact rfl);(case aB=>exact dL);(case aF=>exact(fun _ _=>trivial));(case aO=>exact SG);(case aS=>exact(bq dL));(case aL=>have:=aaM.out;omega);intro aGk mo ho hb hg hat;rw[<- asX.out] at ho;have LX:=ae.mk (hb);have LY:=ae.mk (ho);clear HB;clear jY;have HB:=LX;have aA3:=LY;clear LX LY;clear ho hb hg hat));go_roundg k2
          case measure=>have:=mh.out;have:=Cv.out;omega
          case rel=>exact⟨(aqe),(wrap64 ((wrap64 (pE-1))+1)),kD,H,⟨agi⟩,⟨wh⟩,⟨dL⟩⟩
         ·exact bf.e0
       ·replace H:=gI H;rcases H with⟨-,zi,-,H⟩|⟨-,zi,-,H⟩
        ·replace H:=gN H;obtain⟨c14,-,-,H⟩:=H;have av0:=ae.mk c14;clear c14;obtain⟨aqf,U2⟩:∃ y_:List Int,y_=(jD ++ [ib]):=⟨_,rfl⟩;replace H:(bf.l0 k2 a0 aqf (wrap64 ((wrap64 (pE-1))+1)))=some r:=by first|(rw[U2];with_reducible exact H)|(have mW:=(aj _ _).symm.trans H;rw[U2];with_reducible exact mW)|(have mW:=(aj _ _).symm.trans H;with_reducible exact mW)|with_reducible exact H|(rw[U2];exact H)|exact H
         have asY:=ae.mk U2;clear U2;replace H:=ae.mk H;have p5:0<=(pE:Int):=aX gq;have q5:pE<(a0.size:Int):=aX gq;have hx5:=dZ a0 pE;replace p5:=eq_true p5;replace q5:=eq_true q5;go_wp2_with(first|(go_at_call 166;(with_reducible refine(gF.calls (bt a0 pE) false _ A6.out).mono ?_);rintro e w' ⟨rfl,⟨nd,rfl⟩⟩)|((with_reducible refine iF (b:=.append) (xs:=#[.tmp 43,.tmp 45]) rfl ?_);at_builtin;refine Kd.mG (Kd.int .i64) (w0:=w) w.heap.size rfl (.tmp 43) (.tmp 45) 90 3 (.int .i64 0) 8 rfl Tryz.underlying90 info3 rfl av aa u3 jD ib [.int .i64 ib] (fun _=>True) (fun _=>False) rfl rfl ?aP (fun _ hk=>hk.elim) ?aF ?aO ?aB ?aS ?aL ?_;(case aP=>exact rfl);(case aB=>exact dL);(case aF=>exact(fun _ _=>trivial));(case aO=>exact SG);(case aS=>exact(bq dL));(case aL=>have:=av0.out;omega);intro aGl mV ho hb hg hat;rw[<- asY.out] at ho;have LZ:=ae.mk (hb);have L6:=ae.mk (ho);clear HB;clear jY;have HB:=LZ;have aA4:=L6;clear LZ L6;clear ho hb hg hat));go_roundg k2
         case measure=>have:=mh.out;have:=Cv.out;omega
         case rel=>exact⟨(aqf),(wrap64 ((wrap64 (pE-1))+1)),kD,H,⟨agi⟩,⟨wh⟩,⟨dL⟩⟩
        ·exact bf.e0
      ·replace H:=gI H;rcases H with⟨-,DD,-,H⟩|⟨-,DD,-,H⟩
       ·replace H:=gN H;obtain⟨c17,-,-,H⟩:=H;have aiw:=ae.mk c17;clear c17;obtain⟨aqg,U3⟩:∃ y_:List Int,y_=(jD ++ [ib]):=⟨_,rfl⟩;replace H:(bf.l0 k2 a0 aqg (wrap64 ((wrap64 (pE-1))+1)))=some r:=by first|(rw[U3];with_reducible exact H)|(have mW:=(aj _ _).symm.trans H;rw[U3];with_reducible exact mW)|(have mW:=(aj _ _).symm.trans H;with_reducible exact mW)|with_reducible exact H|(rw[U3];exact H)|exact H
        have asZ:=ae.mk U3;clear U3;replace H:=ae.mk H;go_wp2_with(((with_reducible refine iF (b:=.append) (xs:=#[.tmp 43,.tmp 45]) rfl ?_);at_builtin;refine Kd.mG (Kd.int .i64) (w0:=w) w.heap.size rfl (.tmp 43) (.tmp 45) 90 3 (.int .i64 0) 8 rfl Tryz.underlying90 info3 rfl av aa u3 jD ib [.int .i64 ib] (fun _=>True) (fun _=>False) rfl rfl ?aP (fun _ hk=>hk.elim) ?aF ?aO ?aB ?aS ?aL ?_;(case aP=>exact rfl);(case aB=>exact dL);(case aF=>exact(fun _ _=>trivial));(case aO=>exact SG);(case aS=>exact(bq dL));(case aL=>have:=aiw.out;omega);intro aGm tT ho hb hg hat;rw[<- asZ.out] at ho;have xY:=ae.mk (hb);have L8:=ae.mk (ho);clear HB;clear jY;have HB:=xY;have aA5:=L8;clear xY L8;clear ho hb hg hat));go_roundg k2
        case measure=>have:=mh.out;have:=Cv.out;omega
        case rel=>exact⟨(aqg),(wrap64 ((wrap64 (pE-1))+1)),kD,H,⟨agi⟩,⟨wh⟩,⟨dL⟩⟩
       ·replace H:=ae.mk H;go_wp2;go_roundg k2
        case measure=>have:=mh.out;have:=Cv.out;omega
        case rel=>exact⟨(jD),(wrap64 (gJ+1)),kD,H,⟨agi⟩,⟨wh⟩,⟨dL⟩⟩
   ·obtain rfl:=gK H;go_wp2;go_ret;exact⟨_,su,wh,dL⟩
@[reducible,instance] def bf.c:=jM.of 0 Tryz.func132 @bf.calls

def mK.f  : Option (List ByteArray):=some (([(⟨#[74,97,110]⟩:af),(⟨#[70,101,98]⟩:af),(⟨#[77,97,114]⟩:af),(⟨#[65,112,114]⟩:af),(⟨#[77,97,121]⟩:af),(⟨#[74,117,110]⟩:af),(⟨#[74,117,108]⟩:af),(⟨#[65,117,103]⟩:af),(⟨#[83,101,112]⟩:af),(⟨#[79,99,116]⟩:af),(⟨#[78,111,118]⟩:af),(⟨#[68,101,99]⟩:af)]:List ByteArray))
theorem mK.calls  (r:List ByteArray) (w:World) (h:mK.f  = some r) :
  Calls Tryz.prog 171 #[] w fun e w'=>∃ KW:Value,e = .returned (KW)/\Kd.R Kd.string 9 w' w.heap.size (fun _=>True) KW r/\Below w.heap.size w w':=by
 have HB:=ae.mk (Below.refl w.heap.size w);have H:=h;clear h;unfold mK.f at H;obtain⟨av1,U4⟩:∃ y_:List ByteArray,y_=(([(⟨#[74,97,110]⟩:af),(⟨#[70,101,98]⟩:af),(⟨#[77,97,114]⟩:af),(⟨#[65,112,114]⟩:af),(⟨#[77,97,121]⟩:af),(⟨#[74,117,110]⟩:af),(⟨#[74,117,108]⟩:af),(⟨#[65,117,103]⟩:af),(⟨#[83,101,112]⟩:af),(⟨#[79,99,116]⟩:af),(⟨#[78,111,118]⟩:af),(⟨#[68,101,99]⟩:af)]:List ByteArray)):=⟨_,rfl⟩;replace H:(some av1)=some r:=by first|(rw[U4];with_reducible exact H)|(have mW:=(aj _ _).symm.trans H;rw[U4];with_reducible exact mW)|(have mW:=(aj _ _).symm.trans H;with_reducible exact mW)|with_reducible exact H|(rw[U4];exact H)|exact H
 have aix:=ae.mk U4;clear U4;obtain rfl:=gK H;go_enter Tryz.func171,Tryz.ntmps171;go_wp2_with(((with_reducible refine vJ 1 rfl ?_);refine Kd.Xf Kd.string _ 9 ?hg (N:=1) ?hd (xs:=([(⟨#[74,97,110]⟩:af),(⟨#[70,101,98]⟩:af),(⟨#[77,97,114]⟩:af),(⟨#[65,112,114]⟩:af),(⟨#[77,97,121]⟩:af),(⟨#[74,117,110]⟩:af),(⟨#[74,117,108]⟩:af),(⟨#[65,117,103]⟩:af),(⟨#[83,101,112]⟩:af),(⟨#[79,99,116]⟩:af),(⟨#[78,111,118]⟩:af),(⟨#[68,101,99]⟩:af)]:List ByteArray)) (inner:=[.string (⟨#[74,97,110]⟩:af),.string (⟨#[70,101,98]⟩:af),.string (⟨#[77,97,114]⟩:af),.string (⟨#[65,112,114]⟩:af),.string (⟨#[77,97,121]⟩:af),.string (⟨#[74,117,110]⟩:af),.string (⟨#[74,117,108]⟩:af),.string (⟨#[65,117,103]⟩:af),.string (⟨#[83,101,112]⟩:af),.string (⟨#[79,99,116]⟩:af),.string (⟨#[78,111,118]⟩:af),.string (⟨#[68,101,99]⟩:af)]) (ok:=fun _=>True) (okp:=fun _=>True) ?hr ?hp (fun _ hk=>hk) trivial (Below.refl _ _) (Nat.le_refl _) (by simp) ?_;(case hd=>rfl);(case hg=>rfl);(case hr=>first|(go_simp;done)|(go_simp;rfl));(case hp=>exact(iB.one (show Kd.M Kd.string _ _ _ (⟨#[74,97,110]⟩:af) [.string (⟨#[74,97,110]⟩:af)] from rfl) (iB.one (show Kd.M Kd.string _ _ _ (⟨#[70,101,98]⟩:af) [.string (⟨#[70,101,98]⟩:af)] from rfl) (iB.one (show Kd.M Kd.string _ _ _ (⟨#[77,97,114]⟩:af) [.string (⟨#[77,97,114]⟩:af)] from rfl) (iB.one (show Kd.M Kd.string _ _ _ (⟨#[65,112,114]⟩:af) [.string (⟨#[65,112,114]⟩:af)] from rfl) (iB.one (show Kd.M Kd.string _ _ _ (⟨#[77,97,121]⟩:af) [.string (⟨#[77,97,121]⟩:af)] from rfl) (iB.one (show Kd.M Kd.string _ _ _ (⟨#[74,117,110]⟩:af) [.string (⟨#[74,117,110]⟩:af)] from rfl) (iB.one (show Kd.M Kd.string _ _ _ (⟨#[74,117,108]⟩:af) [.string (⟨#[74,117,108]⟩:af)] from rfl) (iB.one (show Kd.M Kd.string _ _ _ (⟨#[65,117,103]⟩:af) [.string (⟨#[65,117,103]⟩:af)] from rfl) (iB.one (show Kd.M Kd.string _ _ _ (⟨#[83,101,112]⟩:af) [.string (⟨#[83,101,112]⟩:af)] from rfl) (iB.one (show Kd.M Kd.string _ _ _ (⟨#[79,99,116]⟩:af) [.string (⟨#[79,99,116]⟩:af)] from rfl) (iB.one (show Kd.M Kd.string _ _ _ (⟨#[78,111,118]⟩:af) [.string (⟨#[78,111,118]⟩:af)] from rfl) (iB.one (show Kd.M Kd.string _ _ _ (⟨#[68,101,99]⟩:af) [.string (⟨#[68,101,99]⟩:af)] from rfl) (iB.none _ _))))))))))))));intro aGn mo ho2 hb hg_ hnew_;clear hg_ hnew_;(first|rw[<- aix.out] at ho2|(simp only[Int.reduceToNat] at ho2;rw[<- aix.out] at ho2));have aA6:=ae.mk (Kd.gZ ho2 (bq dL));replace HB:=iC hb;clear hb ho2));go_ret;exact⟨_,su,wh,dL⟩
@[reducible,instance] def mK.c:=jM.of 0 Tryz.func171 @mK.calls


def gG.l0 : Nat->ByteArray->List ByteArray->Int->Int->Option (Int)
 |0,_,_,_,_=>none
 |k+1,x0,x5,x6,x7=>if x7<x6 then(if 0<=x7 then(if x7<(x5.length:Int) then((strings_Contains.f x0 (ed ByteArray.empty x5 x7)).bind fun av2=>(if av2=true then(some (wrap64 (x7+1))) else(gG.l0 k x0 x5 x6 (wrap64 (x7+1))))) else(none)) else(none)) else(some 0)
def gG.f (k:Nat) (a0:ByteArray):Option (Int):=(mK.f).bind fun RV=>(gG.l0 k a0 RV (RV.length:Int) 0)
theorem gG.calls (k:Nat) (a0:ByteArray) (r:Int) (w:World) (h:gG.f k a0=some r) (HT0:nN w) :
  Calls Tryz.prog 133 #[.string a0] w fun e w'=>e = .returned (.int .i64 r)/\Below w.heap.size w w':=by
 have HT:=ae.mk HT0;clear HT0;have HB:=ae.mk (Below.refl w.heap.size w);have H:=ae.mk h;clear h;unfold gG.f at H;obtain⟨RV,A2,H⟩:=xE H;go_enter Tryz.func133,Tryz.ntmps133;go_wp2_with(first|((with_reducible refine lS 171 rfl ?_);refine WK 5 rfl Tryz.func171 (mK.calls  RV _ A2.out) ?_;rintro e w3 ⟨aGo,rfl,ho0,hb⟩;refine⟨_,rfl,?_⟩;have Ra:=ae.mk (Kd.gZ ho0 (bq dL));replace HB:=iC hb;clear hb;(try clear ho0);obtain⟨Ao4,co4,eo4⟩:=Kd.dE Ra.out;subst eo4));go_loopg [7] k (fun kq v7 w'=>∃(yF:Int),v7 = .int .i64 yF/\ae (gG.l0 kq a0 RV (RV.length:Int) yF=some r)/\ae (kq<=k)/\ae (Kd.R Kd.string 9 w' w.heap.size (fun _=>True) (.slice Ao4 RV.length co4) RV)/\ae (Below w.heap.size w w'))
 case atStart=>exact⟨(0),kD,H,⟨Nat.le_refl _⟩,⟨wh⟩,⟨dL⟩⟩
 case round=>
  clear H;obtain⟨yF,rfl,HA,mh,Rb,HB⟩:=hrel;cases gk with
  |zero=>exact absurd HA.out (by simp[gG.l0])
  |succ k1=>
   have H:=HA;clear HA;simp only[gG.l0] at H;exact uW
@[reducible,instance] def gG.c:=jM.of 0 Tryz.func133 @gG.calls

def iD.j0 : Nat->Int->Bool->Option (Int)
 |0,_,_=>none
 |k+1,x1,x5=>if x5=true then(some 29) else(if x1=2 then(some 28) else(if x1=4 then(some 30) else(if x1=6 then(some 30) else(if x1=9 then(some 30) else(if x1=11 then(some 30) else(some 31))))))
def iD.f (k:Nat) (a0:Int) (a1:Int):Option (Int):=if a1=2 then(if(Int.tmod a0 4)=0 then(if(Int.tmod a0 100)=0 then(iD.j0 k a1 ((Int.tmod a0 400)==0)) else(iD.j0 k a1 true)) else(iD.j0 k a1 ((Int.tmod a0 400)==0))) else(iD.j0 k a1 false)
theorem iD.calls (k:Nat) (a0 a1 r:Int) (w:World) (h:iD.f k a0 a1=some r) :
  Calls Tryz.prog 175 #[.int .i64 a0,.int .i64 a1] w fun e w'=>e = .returned (.int .i64 r)/\bL w w':=by
 have H:=ae.mk h;clear h;unfold iD.f at H;have HC3:=H;clear H;go_enter Tryz.func175,Tryz.ntmps175;go_upto_region 1 with(fail);go_cut [5] (fun v5 wc=>∃(kq:Nat) (pE:Bool),v5 = .bool pE/\ae (iD.j0 kq a1 pE=some r)/\ae (kq<=k)/\bL w wc)
 case first=>
  have H:=HC3;clear HC3;exact uW
 case rest=>
  clear HC3;obtain⟨kq,pE,rfl,HA,HJ2,⟨mc2,rfl⟩⟩:=hcut;cases kq with
  |zero=>exact absurd HA.out (by simp[iD.j0])
  |succ Oj=>
   have H:=HA;clear HA;simp only[iD.j0] at H;exact uW
@[reducible,instance] def iD.c:=jM.of 0 Tryz.func175 @iD.calls


def fE.f (k:Nat) (az:Int) (aA:Int) (aC:Int) (bI:Int) (aG:Int) (bH:Int):Option (Bool):=(dB.f az 1970 9999).bind fun av3=>(if av3=true then((dB.f aA 1 12).bind fun av4=>(if av4=true then((iD.f k az aA).bind fun U5=>((dB.f aC 1 U5).bind fun av5=>(if av5=true then((dB.f bI 0 23).bind fun av6=>(if av6=true then((dB.f aG 0 59).bind fun av7=>(if av7=true then((dB.f bH 0 59).bind fun aiy=>(some aiy)) else(some false))) else(some false))) else(some false)))) else(some false))) else(some false))
def fE.T1 : Bool×List (List Nat×List Nat):=(true,[([],[]),([0],[0]),([1],[1]),([2,2],[2]),([3],[3]),([4,3],[3,4]),([5,3,3],[3,5]),([3,6],[3,6]),([7,6],[7]),([8],[8]),([9,8],[8,9]),([8],[8]),([11,8],[8,11]),([8],[8]),([13,8],[8,13]),([12,14,8,8],[8,12,14]),([10,15,15,8],[8,10,15]),([8,16],[8,16]),([17,16],[17]),([18],[18]),([19,18],[18,19]),([20,18,18],[18,20]),([18,21],[18,21]),([22,21],[22]),([23],[23]),([24,23],[23,24]),([25,23,23],[23,25]),([23,26],[23,26]),([27,26],[27]),([28],[28]),([29,28],[28,29]),([30,28,28],[28,30]),([28,31],[28,31]),([32,31,0,1,2,3,4,5,6,7,8,9,10,11,12,13,14,15,16,17,18,19,20,21,22,23,24,25,26,27,28,29,30,31,32],[32])])
def fE.B1 : List Nat:=[0,1,3,7,15,31,63,127,255,511,1023,511,2559,511,8703,31231,65535,131071,262143,524287,1048575,2097151,4194303,8388607,16777215,33554431,67108863,134217727,268435455,536870911,1073741823,2147483647,4294967295,8589934591]
theorem fE.El : pX .any (opsOf Tryz.f173 1)=fE.T1:=by kernel_rfl
theorem fE.xn : jK fE.T1.2 fE.B1=true:=by kernel_rfl
theorem fE.e0 {p:Prop} (h:p:=by
  obtain rfl:=gK H.out
  go_enter Tryz.func173,Tryz.ntmps173
  try go_wp2_with(((with_reducible refine vJ 1 rfl ?_);refine qo #[.int .i64 az,.int .i64 aA,.int .i64 aC,.int .i64 bI,.int .i64 aG,.int .i64 bH] 117 ?_;intro Rh hg mo hbox hb;have yM:=ae.mk (hbox);have aA7:=rE hg;replace HB:=iC hb;clear hb hbox hg))
  replace yM:=ae.mk (dh yM.out)
  replace HB:=ae.mk (bn HB.out)
  refine kJ (n:=34) (S:=fun w'=>w'.cell? ⟨Rh,0,none⟩=some (.int .i64 az)/\w'.cell? ⟨Rh,1,none⟩=some (.int .i64 aA)/\w'.cell? ⟨Rh,2,none⟩=some (.int .i64 aC)/\w'.cell? ⟨Rh,3,none⟩=some (.int .i64 bI)/\w'.cell? ⟨Rh,4,none⟩=some (.int .i64 aG)/\w'.cell? ⟨Rh,5,none⟩=some (.int .i64 bH)) (ds:=[]) (pY yM) (fun hHeld=>?_);refine dY fE.El fE.xn (fun HT_ HW_=>?_)
  generalize mo.drew=mV at yM HB hHeld ⊢
  repeat(first|refine mr ?_ (hy:=Or.inl ⟨by rfl,YE⟩)|refine ek ?_|(refine gV (fun K hK=>?_);refine lQ Tryz.func65 eB rfl #[.int .i64 az,.int .i64 1970,.int .i64 9999] (by rfl) rfl rfl Iu ?_;(with_reducible refine(dB.calls az 1970 9999 false _ A2.out).mono ?_);rintro e w' ⟨rfl,⟨nd,rfl⟩⟩;refine⟨_,rfl,?_⟩;refine hK.out _ _ (pY yM) (fun hHeld=>?_);clear hK K;refine dI ?_)|(refine gV (fun K hK=>?_);refine lQ Tryz.func65 eB rfl #[.int .i64 az,.int .i64 1970,.int .i64 9999] (by rfl) rfl rfl Iu ?_;(with_reducible refine(dB.calls az 1970 9999 true _ A2.out).mono ?_);rintro e w' ⟨rfl,⟨nd,rfl⟩⟩;refine⟨_,rfl,?_⟩;refine hK.out _ _ (pY yM) (fun hHeld=>?_);clear hK K;refine dI ?_)|(refine gV (fun K hK=>?_);refine lQ Tryz.func65 eB rfl #[.int .i64 aA,.int .i64 1,.int .i64 12] (by rfl) rfl rfl Iu ?_;(with_reducible refine(dB.calls aA 1 12 false _ A4.out).mono ?_);rintro e w' ⟨rfl,⟨nd,rfl⟩⟩;refine⟨_,rfl,?_⟩;refine hK.out _ _ (pY yM) (fun hHeld=>?_);clear hK K;refine dI ?_)|(refine gV (fun K hK=>?_);refine lQ Tryz.func65 eB rfl #[.int .i64 aA,.int .i64 1,.int .i64 12] (by rfl) rfl rfl Iu ?_;(with_reducible refine(dB.calls aA 1 12 true _ A4.out).mono ?_);rintro e w' ⟨rfl,⟨nd,rfl⟩⟩;refine⟨_,rfl,?_⟩;refine hK.out _ _ (pY yM) (fun hHeld=>?_);clear hK K;refine dI ?_)|(refine gV (fun K hK=>?_);refine lQ Tryz.func175 eB rfl #[.int .i64 az,.int .i64 aA] (by rfl) rfl rfl Iu ?_;(with_reducible refine(iD.calls k az aA U5 _ A6.out).mono ?_);rintro e w' ⟨rfl,⟨nd,rfl⟩⟩;refine⟨_,rfl,?_⟩;refine hK.out _ _ (pY yM) (fun hHeld=>?_);clear hK K;refine dI ?_)|(refine gV (fun K hK=>?_);refine lQ Tryz.func65 eB rfl #[.int .i64 aC,.int .i64 1,.int .i64 U5] (by rfl) rfl rfl Iu ?_;(with_reducible refine(dB.calls aC 1 U5 false _ A7.out).mono ?_);rintro e w' ⟨rfl,⟨nd,rfl⟩⟩;refine⟨_,rfl,?_⟩;refine hK.out _ _ (pY yM) (fun hHeld=>?_);clear hK K;refine dI ?_)|(refine gV (fun K hK=>?_);refine lQ Tryz.func65 eB rfl #[.int .i64 aC,.int .i64 1,.int .i64 U5] (by rfl) rfl rfl Iu ?_;(with_reducible refine(dB.calls aC 1 U5 true _ A7.out).mono ?_);rintro e w' ⟨rfl,⟨nd,rfl⟩⟩;refine⟨_,rfl,?_⟩;refine hK.out _ _ (pY yM) (fun hHeld=>?_);clear hK K;refine dI ?_)|(refine gV (fun K hK=>?_);refine lQ Tryz.func65 eB rfl #[.int .i64 bI,.int .i64 0,.int .i64 23] (by rfl) rfl rfl Iu ?_;(with_reducible refine(dB.calls bI 0 23 false _ A9.out).mono ?_);rintro e w' ⟨rfl,⟨nd,rfl⟩⟩;refine⟨_,rfl,?_⟩;refine hK.out _ _ (pY yM) (fun hHeld=>?_);clear hK K;refine dI ?_)|(refine gV (fun K hK=>?_);refine lQ Tryz.func65 eB rfl #[.int .i64 bI,.int .i64 0,.int .i64 23] (by rfl) rfl rfl Iu ?_;(with_reducible refine(dB.calls bI 0 23 true _ A9.out).mono ?_);rintro e w' ⟨rfl,⟨nd,rfl⟩⟩;refine⟨_,rfl,?_⟩;refine hK.out _ _ (pY yM) (fun hHeld=>?_);clear hK K;refine dI ?_)|(refine gV (fun K hK=>?_);refine lQ Tryz.func65 eB rfl #[.int .i64 aG,.int .i64 0,.int .i64 59] (by rfl) rfl rfl Iu ?_;(with_reducible refine(dB.calls aG 0 59 false _ A11.out).mono ?_);rintro e w' ⟨rfl,⟨nd,rfl⟩⟩;refine⟨_,rfl,?_⟩;refine hK.out _ _ (pY yM) (fun hHeld=>?_);clear hK K;refine dI ?_)|(refine gV (fun K hK=>?_);refine lQ Tryz.func65 eB rfl #[.int .i64 aG,.int .i64 0,.int .i64 59] (by rfl) rfl rfl Iu ?_;(with_reducible refine(dB.calls aG 0 59 true _ A11.out).mono ?_);rintro e w' ⟨rfl,⟨nd,rfl⟩⟩;refine⟨_,rfl,?_⟩;refine hK.out _ _ (pY yM) (fun hHeld=>?_);clear hK K;refine dI ?_)|(refine gV (fun K hK=>?_);refine lQ Tryz.func65 eB rfl #[.int .i64 bH,.int .i64 0,.int .i64 59] (by rfl) rfl rfl Iu ?_;(with_reducible refine(dB.calls bH 0 59 aiy _ A13.out).mono ?_);rintro e w' ⟨rfl,⟨nd,rfl⟩⟩;refine⟨_,rfl,?_⟩;refine hK.out _ _ (pY yM) (fun hHeld=>?_);clear hK K;refine dI ?_))
  refine lh (gP HT_.out eB) ?_
  try go_wp2
  go_ret
  exact⟨su,dL⟩):p:=h
theorem fE.calls (k:Nat) (az aA:Int) (aC bI:Int) (aG bH:Int) (r:Bool) (w:World) (h:fE.f k az aA aC bI aG bH=some r) :
  Calls Tryz.prog 173 #[.agg #[.int .i64 az,.int .i64 aA,.int .i64 aC,.int .i64 bI,.int .i64 aG,.int .i64 bH]] w fun e w'=>e = .returned (.bool r)/\Below w.heap.size w w':=by
 have FR:=Tryz.underlying117;have HB:=ae.mk (Below.refl w.heap.size w);have H:=ae.mk h;clear h;unfold fE.f at H;rcases D6 H with⟨A2,H⟩|⟨A2,H⟩
 ·rcases D6 H with⟨A4,H⟩|⟨A4,H⟩
  ·obtain⟨U5,A6,H⟩:=xE H;rcases D6 H with⟨A7,H⟩|⟨A7,H⟩
   ·rcases D6 H with⟨A9,H⟩|⟨A9,H⟩
    ·rcases D6 H with⟨A11,H⟩|⟨A11,H⟩
     ·obtain⟨aiy,A13,H⟩:=xE H;exact fE.e0
     ·exact fE.e0
    ·exact fE.e0
   ·exact fE.e0
  ·exact fE.e0
 ·exact fE.e0
@[reducible,instance] def fE.c:=jM.of 0 Tryz.func173 @fE.calls


def iU.f (a0:Int):Option (Int):=some (wrap64 ((wrap64 ((wrap64 ((wrap64 ((wrap64 (365*(wrap64 (a0-1970))))+(wrap64 (Int.tdiv (wrap64 (a0-1)) 4))))-(wrap64 (Int.tdiv (wrap64 (a0-1)) 100))))+(wrap64 (Int.tdiv (wrap64 (a0-1)) 400))))-477))
theorem iU.calls (a0 r:Int) (w:World) (h:iU.f a0=some r) :
  Calls Tryz.prog 174 #[.int .i64 a0] w fun e w'=>e = .returned (.int .i64 r)/\bL w w':=by
 unfold iU.f at h;exact uA
@[reducible,instance] def iU.c:=jM.of 0 Tryz.func174 @iU.calls

def fF.l0 : Nat->Int->Int->Int->Int->Int->Int->Int->Int->Option (Int×Bool)
 |0,_,_,_,_,_,_,_,_=>none
 |k+1,x4,x5,aaP,aaQ,aiz,aaR,aaS,aaT=>if x5<aaQ then((iD.f k aaP x5).bind fun av8=>(fF.l0 k (wrap64 (x4+av8)) (wrap64 (x5+1)) aaP aaQ aiz aaR aaS aaT)) else(some (wrap64 ((wrap64 ((wrap64 ((wrap64 (86400*x4))+(wrap64 (3600*aaR))))+(wrap64 (60*aaS))))+aaT),true))
def fF.f (k:Nat) (az:Int) (aA:Int) (aC:Int) (bI:Int) (aG:Int) (bH:Int):Option (Int×Bool):=(fE.f k az aA aC bI aG bH).bind fun av9=>(if av9=true then((iU.f az).bind fun XZ=>(fF.l0 k (wrap64 ((wrap64 (XZ+aC))-1)) 1 az aA aC bI aG bH)) else(some (0,false)))
theorem fF.calls (k:Nat) (az aA:Int) (aC bI:Int) (aG bH r1:Int) (r2:Bool) (w:World) (h:fF.f k az aA aC bI aG bH=some (r1,r2)) :
  Calls Tryz.prog 135 #[.agg #[.int .i64 az,.int .i64 aA,.int .i64 aC,.int .i64 bI,.int .i64 aG,.int .i64 bH]] w fun e w'=>e = .returned (.tuple #[.int .i64 r1,.bool r2])/\Below w.heap.size w w':=by
 have FR:=Tryz.underlying117;have HB:=ae.mk (Below.refl w.heap.size w);have H:=ae.mk h;clear h;unfold fF.f at H;rcases D6 H with⟨A2,H⟩|⟨A2,H⟩
 ·obtain⟨XZ,A4,H⟩:=xE H;go_enter Tryz.func135,Tryz.ntmps135;go_wp2_with(first|((with_reducible refine vJ 1 rfl ?_);refine qo #[.int .i64 az,.int .i64 aA,.int .i64 aC,.int .i64 bI,.int .i64 aG,.int .i64 bH] 117 ?_;intro Ri hg w5 hbox hb;have Ba:=ae.mk (hbox);have aiA:=rE hg;have aiB:=rE hg;replace HB:=iC hb;clear hb hbox hg;have adu:=Js Ba;have adv:=Jt Ba;have adw:=Qx Ba;have adx:=QE Ba;have ady:=QF Ba;have adz:=Pb Ba;have adA:=ah Ba.out 0;have adB:=ah Ba.out 1;have adC:=ah Ba.out 2;have adD:=ah Ba.out 3;have adE:=ah Ba.out 4;have adF:=ah Ba.out 5)|(go_at_call 173;(with_reducible refine(fE.calls k az aA aC bI aG bH true _ A2.out).mono ?_);rintro e w7 ⟨rfl,hb⟩;replace Ba:=jr (g:=Ri) hb;replace HB:=iC hb;clear hb;have adG:=Js Ba;have adH:=Jt Ba;have adI:=Qx Ba;have adJ:=QE Ba;have adK:=QF Ba;have adL:=Pb Ba;have adM:=ah Ba.out 0;have adN:=ah Ba.out 1;have adO:=ah Ba.out 2;have adP:=ah Ba.out 3;have adQ:=ah Ba.out 4;have adR:=ah Ba.out 5)|(go_at_call 174;(with_reducible refine(iU.calls az XZ _ A4.out).mono ?_);rintro e w' ⟨rfl,⟨nd,rfl⟩⟩;(try first|exact⟨rfl,_,World.drewN_drewN _ _ _⟩|exact⟨rfl,_,Eq.trans (World.drewN_drewN _ _ _) (congrArg (World.drewN _) (Nat.add_assoc _ _ _))⟩)));repeat(go_quiet (first|((with_reducible refine vJ 1 rfl ?_);refine qo #[.int .i64 az,.int .i64 aA,.int .i64 aC,.int .i64 bI,.int .i64 aG,.int .i64 bH] 117 ?_;intro Ri hg w5 hbox hb;have Ba:=ae.mk (hbox);have aiA:=rE hg;have aiB:=rE hg;replace HB:=iC hb;clear hb hbox hg;have adu:=Js Ba;have adv:=Jt Ba;have adw:=Qx Ba;have adx:=QE Ba;have ady:=QF Ba;have adz:=Pb Ba;have adA:=ah Ba.out 0;have adB:=ah Ba.out 1;have adC:=ah Ba.out 2;have adD:=ah Ba.out 3;have adE:=ah Ba.out 4;have adF:=ah Ba.out 5)|(go_at_call 173;(with_reducible refine(fE.calls k az aA aC bI aG bH true _ A2.out).mono ?_);rintro e w7 ⟨rfl,hb⟩;replace Ba:=jr (g:=Ri) hb;replace HB:=iC hb;clear hb;have adG:=Js Ba;have adH:=Jt Ba;have adI:=Qx Ba;have adJ:=QE Ba;have adK:=QF Ba;have adL:=Pb Ba;have adM:=ah Ba.out 0;have adN:=ah Ba.out 1;have adO:=ah Ba.out 2;have adP:=ah Ba.out 3;have adQ:=ah Ba.out 4;have adR:=ah Ba.out 5)|(go_at_call 174;(with_reducible refine(iU.calls az XZ _ A4.out).mono ?_);rintro e w' ⟨rfl,⟨nd,rfl⟩⟩;(try first|exact⟨rfl,_,World.drewN_drewN _ _ _⟩|exact⟨rfl,_,Eq.trans (World.drewN_drewN _ _ _) (congrArg (World.drewN _) (Nat.add_assoc _ _ _))⟩)));try go_wp2_with(first|((with_reducible refine vJ 1 rfl ?_);refine qo #[.int .i64 az,.int .i64 aA,.int .i64 aC,.int .i64 bI,.int .i64 aG,.int .i64 bH] 117 ?_;intro Ri hg w5 hbox hb;have qb:=iC hb;have qU:=ae.mk (hbox);have I5:=rE hg;have UW:=rE hg;clear HB;have HB:=qb;have Ba:=qU;have aiA:=I5;have aiB:=UW;clear qb qU I5 UW;clear hb hbox hg;have adu:=Js Ba;have adv:=Jt Ba;have adw:=Qx Ba;have adx:=QE Ba;have ady:=QF Ba;have adz:=Pb Ba;have adA:=ah Ba.out 0;have adB:=ah Ba.out 1;have adC:=ah Ba.out 2;have adD:=ah Ba.out 3;have adE:=ah Ba.out 4;have adF:=ah Ba.out 5)|(go_at_call 173;(with_reducible refine(fE.calls k az aA aC bI aG bH true _ A2.out).mono ?_);rintro e w7 ⟨rfl,hb⟩;have qb:=jr (g:=Ri) hb;have qU:=iC hb;clear Ba;clear HB;have Ba:=qb;have HB:=qU;clear qb qU;clear hb;have adG:=Js Ba;have adH:=Jt Ba;have adI:=Qx Ba;have adJ:=QE Ba;have adK:=QF Ba;have adL:=Pb Ba;have adM:=ah Ba.out 0;have adN:=ah Ba.out 1;have adO:=ah Ba.out 2;have adP:=ah Ba.out 3;have adQ:=ah Ba.out 4;have adR:=ah Ba.out 5)|(go_at_call 174;(with_reducible refine(iU.calls az XZ _ A4.out).mono ?_);rintro e w' ⟨rfl,⟨nd,rfl⟩⟩;(try first|exact⟨rfl,_,World.drewN_drewN _ _ _⟩|exact⟨rfl,_,Eq.trans (World.drewN_drewN _ _ _) (congrArg (World.drewN _) (Nat.add_assoc _ _ _))⟩))))
  go_loopg [4,5] k (fun kq v4 v5 w'=>∃(gJ:Int) (gH:Int),v4 = .int .i64 gJ/\v5 = .int .i64 gH/\ae (fF.l0 kq gJ gH az aA aC bI aG bH=some (r1,r2))/\ae (kq<=k)/\ae (w'.heap[Ri]? = some (.cells #[.int .i64 az,.int .i64 aA,.int .i64 aC,.int .i64 bI,.int .i64 aG,.int .i64 bH] 117 (0,0)))/\ae (Below w.heap.size w w'))
  case atStart=>exact⟨(wrap64 ((wrap64 (XZ+aC))-1)),(1),kD,kD,H,⟨Nat.le_refl _⟩,⟨yz⟩,⟨dL⟩⟩
  case round=>
   clear H;try clear adu
   try clear adv
   try clear adw
   try clear adx
   try clear ady
   try clear adz
   try clear adG
   try clear adH
   try clear adI
   try clear adJ
   try clear adK
   try clear adL
   try clear adA
   try clear adB
   try clear adC
   try clear adD
   try clear adE
   try clear adF
   try clear adM
   try clear adN
   try clear adO
   try clear adP
   try clear adQ
   try clear adR
   obtain⟨gJ,gH,rfl,rfl,HA,mh,Ba,HB⟩:=hrel;cases gk with
   |zero=>exact absurd HA.out (by simp[fF.l0])
   |succ k1=>
    have H:=HA;clear HA;simp only[fF.l0] at H;exact uW
 ·exact uE
@[reducible,instance] def fF.c:=jM.of 0 Tryz.func135 @fF.calls


mutual
def dn.l0 : Nat->Int->Int->Int->Int->Int->Int->Int->Option (Int×Int×Int×Int×Int×Int)
 |0,_,_,_,_,_,_,_=>none
 |k+1,x3,BH,FU,PI,L9,Ma,Mc=>(iU.f (wrap64 (BH+1))).bind fun aiC=>(if aiC<=x3 then(dn.l0 k x3 (wrap64 (BH+1)) FU PI L9 Ma Mc) else((iU.f BH).bind fun aeP=>(dn.l1 k (wrap64 (x3-aeP)) BH FU PI L9 Ma Mc)))
def dn.l1 : Nat->Int->Int->Int->Int->Int->Int->Int->Option (Int×Int×Int×Int×Int×Int)
 |0,_,_,_,_,_,_,_=>none
 |k+1,x3,BH,FU,PI,L9,Ma,Mc=>(iD.f k BH FU).bind fun awc=>(if x3>=awc then((iD.f k BH FU).bind fun awd=>(dn.l1 k (wrap64 (x3-awd)) BH (wrap64 (FU+1)) PI L9 Ma Mc)) else(some (BH,FU,wrap64 (x3+1),L9,Ma,Mc)))
end
def dn.f (k:Nat) (a0:Int):Option (Int×Int×Int×Int×Int×Int):=dn.l0 k (wrap64 (Int.tdiv a0 86400)) (wrap64 (1970+(wrap64 (Int.tdiv (wrap64 (Int.tdiv a0 86400)) 366)))) 1 0 (wrap64 (Int.tdiv (Int.tmod a0 86400) 3600)) (Int.tmod (wrap64 (Int.tdiv (Int.tmod a0 86400) 60)) 60) (Int.tmod (Int.tmod a0 86400) 60)
theorem dn.calls (k:Nat) (a0 r1:Int) (r2 r3:Int) (r4 r5 r6:Int) (w:World) (h:dn.f k a0=some (r1,r2,r3,r4,r5,r6)) :
  Calls Tryz.prog 176 #[.int .i64 a0] w fun e w'=>e = .returned (.agg #[.int .i64 r1,.int .i64 r2,.int .i64 r3,.int .i64 r4,.int .i64 r5,.int .i64 r6])/\Below w.heap.size w w':=by
 have FR:=Tryz.underlying117;have HB:=ae.mk (Below.refl w.heap.size w);have H:=ae.mk h;clear h;unfold dn.f at H;rw[show Int.tmod (Int.tmod a0 86400) 60=Int.tmod a0 60 from by first|exact Int.tmod_tmod_of_dvd a0 av|simp] at H;go_enter Tryz.func176,Tryz.ntmps176;go_wp2_with(first|((with_reducible refine vJ 2 rfl ?_);refine qo #[.int .i64 0,.int .i64 0,.int .i64 0,.int .i64 0,.int .i64 0,.int .i64 0] 117 ?_;intro Zw hg w2 hbox hb;have Ba:=ae.mk (hbox);have aA8:=rE hg;replace HB:=iC hb;clear hb hbox hg)|((with_reducible refine vJ 5 rfl ?_);refine qo #[.int .i64 0,.int .i64 0,.int .i64 0,.int .i64 0,.int .i64 0,.int .i64 0] 117 ?_;intro Zx hg w3 hbox hb;have Bb:=ae.mk (hbox);have aA9:=rE hg;have Md:=O9 (g:=Zw) hg;have RX:=QD Md;replace Ba:=jr (g:=Zw) hb;replace HB:=iC hb;clear hb hbox hg;have aIQ:=RX.out;have aIR:=Md.out;obtain⟨_,_,_,_,_,_⟩:=pY Bb;obtain⟨_,_,_,_,_,_⟩:=Le Bb));go_loopg [] k (fun kq w'=>∃(zT:Int),ae (dn.l0 kq (wrap64 (Int.tdiv a0 86400)) zT 1 0 (wrap64 (Int.tdiv (Int.tmod a0 86400) 3600)) (Int.tmod (wrap64 (Int.tdiv (Int.tmod a0 86400) 60)) 60) (Int.tmod a0 60)=some (r1,r2,r3,r4,r5,r6))/\ae (kq<=k)/\ae (w'.heap[Zw]? = some (.cells #[.int .i64 0,.int .i64 0,.int .i64 0,.int .i64 0,.int .i64 0,.int .i64 0] 117 (0,0)))/\ae (w'.heap[Zx]? = some (.cells #[.int .i64 zT,.int .i64 1,.int .i64 0,.int .i64 (wrap64 (Int.tdiv (Int.tmod a0 86400) 3600)),.int .i64 (Int.tmod (wrap64 (Int.tdiv (Int.tmod a0 86400) 60)) 60),.int .i64 (Int.tmod a0 60)] 117 (0,0)))/\ae (Below w.heap.size w w'))
 case atStart=>exact⟨(wrap64 (1970+(wrap64 (Int.tdiv (wrap64 (Int.tdiv a0 86400)) 366)))),H,⟨Nat.le_refl _⟩,⟨yz⟩,⟨yz⟩,⟨dL⟩⟩
 case round=>
  clear H;obtain⟨zT,HA,mh,Ba,Bb,HB⟩:=hrel;cases gk with
  |zero=>exact absurd HA.out (by simp[dn.l0])
  |succ k1=>
   have H:=HA;clear HA;simp only[dn.l0] at H;obtain⟨aiC,A6,H⟩:=xE H;rcases GM H with⟨-,Am,-,H⟩|⟨-,Am,-,H⟩
   ·exact uW
   ·obtain⟨aeP,A10,H⟩:=xE H;have awe:=RX.out;have awf:=Md.out;obtain⟨_,_,_⟩:=asc Bb;have aeQ:wr.cell? ⟨Zx,3,none⟩=some (.int .i64 (wrap64 (Int.tdiv (Int.tmod a0 86400) 3600))):=(ag Bb.out 3).trans rfl;have aeR:wr.cell? ⟨Zx,4,none⟩=some (.int .i64 (Int.tmod (wrap64 (Int.tdiv (Int.tmod a0 86400) 60)) 60)):=(ag Bb.out 4).trans rfl;have aeS:=Pb Bb;obtain⟨_,_,_,_,_,_⟩:=Le Bb;go_wp2_with(first|((with_reducible refine lS 174 rfl ?_);refine MW 24 rfl Tryz.func174 (iU.calls (wrap64 (zT+1)) aiC _ A6.out) fun nd=>?_)|((with_reducible refine lS 174 rfl ?_);refine MW 34 rfl Tryz.func174 (iU.calls zT aeP _ A10.out) fun nd=>?_));go_loopg [3] k1 (fun kq v3 w'=>∃(rA:Int) (Ol:Int),v3 = .int .i64 rA/\ae (dn.l1 kq rA zT Ol 0 (wrap64 (Int.tdiv (Int.tmod a0 86400) 3600)) (Int.tmod (wrap64 (Int.tdiv (Int.tmod a0 86400) 60)) 60) (Int.tmod a0 60)=some (r1,r2,r3,r4,r5,r6))/\ae (kq<=k1)/\ae (w'.heap[Zw]? = some (.cells #[.int .i64 0,.int .i64 0,.int .i64 0,.int .i64 0,.int .i64 0,.int .i64 0] 117 (0,0)))/\ae (w'.heap[Zx]? = some (.cells #[.int .i64 zT,.int .i64 Ol,.int .i64 0,.int .i64 (wrap64 (Int.tdiv (Int.tmod a0 86400) 3600)),.int .i64 (Int.tmod (wrap64 (Int.tdiv (Int.tmod a0 86400) 60)) 60),.int .i64 (Int.tmod a0 60)] 117 (0,0)))/\ae (Below w.heap.size w w'))
    case atStart=>exact⟨(wrap64 ((wrap64 (Int.tdiv a0 86400))-aeP)),(1),kD,H,⟨Nat.le_refl _⟩,⟨yz⟩,⟨yz⟩,⟨dL⟩⟩
    case round=>
     clear H;try clear Am
     try clear aeQ
     try clear aeR
     try clear aeS
     obtain⟨rA,Ol,rfl,HA,Cv,Ba,Bb,HB⟩:=hrel;cases gk with
     |zero=>exact absurd HA.out (by simp[dn.l1])
     |succ k2=>
      have H:=HA;clear HA;simp only[dn.l1] at H;exact uW
@[reducible,instance] def dn.c:=jM.of 0 Tryz.func176 @dn.calls

def sw.f  : Option (List ByteArray):=some (([(⟨#[77,111,110,100,97,121]⟩:af),(⟨#[84,117,101,115,100,97,121]⟩:af),(⟨#[87,101,100,110,101,115,100,97,121]⟩:af),(⟨#[84,104,117,114,115,100,97,121]⟩:af),(⟨#[70,114,105,100,97,121]⟩:af),(⟨#[83,97,116,117,114,100,97,121]⟩:af),(⟨#[83,117,110,100,97,121]⟩:af)]:List ByteArray))
theorem sw.calls  (r:List ByteArray) (w:World) (h:sw.f  = some r) :
  Calls Tryz.prog 177 #[] w fun e w'=>∃ KW:Value,e = .returned (KW)/\Kd.R Kd.string 9 w' w.heap.size (fun _=>True) KW r/\Below w.heap.size w w':=by
 have HB:=ae.mk (Below.refl w.heap.size w);have H:=h;clear h;unfold sw.f at H;obtain⟨awg,U6⟩:∃ y_:List ByteArray,y_=(([(⟨#[77,111,110,100,97,121]⟩:af),(⟨#[84,117,101,115,100,97,121]⟩:af),(⟨#[87,101,100,110,101,115,100,97,121]⟩:af),(⟨#[84,104,117,114,115,100,97,121]⟩:af),(⟨#[70,114,105,100,97,121]⟩:af),(⟨#[83,97,116,117,114,100,97,121]⟩:af),(⟨#[83,117,110,100,97,121]⟩:af)]:List ByteArray)):=⟨_,rfl⟩;replace H:(some awg)=some r:=by first|(rw[U6];with_reducible exact H)|(have mW:=(aj _ _).symm.trans H;rw[U6];with_reducible exact mW)|(have mW:=(aj _ _).symm.trans H;with_reducible exact mW)|with_reducible exact H|(rw[U6];exact H)|exact H
 have aiD:=ae.mk U6;clear U6;obtain rfl:=gK H;go_enter Tryz.func177,Tryz.ntmps177;go_wp2_with(((with_reducible refine vJ 1 rfl ?_);refine Kd.Xf Kd.string _ 9 ?hg (N:=1) ?hd (xs:=([(⟨#[77,111,110,100,97,121]⟩:af),(⟨#[84,117,101,115,100,97,121]⟩:af),(⟨#[87,101,100,110,101,115,100,97,121]⟩:af),(⟨#[84,104,117,114,115,100,97,121]⟩:af),(⟨#[70,114,105,100,97,121]⟩:af),(⟨#[83,97,116,117,114,100,97,121]⟩:af),(⟨#[83,117,110,100,97,121]⟩:af)]:List ByteArray)) (inner:=[.string (⟨#[77,111,110,100,97,121]⟩:af),.string (⟨#[84,117,101,115,100,97,121]⟩:af),.string (⟨#[87,101,100,110,101,115,100,97,121]⟩:af),.string (⟨#[84,104,117,114,115,100,97,121]⟩:af),.string (⟨#[70,114,105,100,97,121]⟩:af),.string (⟨#[83,97,116,117,114,100,97,121]⟩:af),.string (⟨#[83,117,110,100,97,121]⟩:af)]) (ok:=fun _=>True) (okp:=fun _=>True) ?hr ?hp (fun _ hk=>hk) trivial (Below.refl _ _) (Nat.le_refl _) (by simp) ?_;(case hd=>rfl);(case hg=>rfl);(case hr=>first|(go_simp;done)|(go_simp;rfl));(case hp=>exact(iB.one (show Kd.M Kd.string _ _ _ (⟨#[77,111,110,100,97,121]⟩:af) [.string (⟨#[77,111,110,100,97,121]⟩:af)] from rfl) (iB.one (show Kd.M Kd.string _ _ _ (⟨#[84,117,101,115,100,97,121]⟩:af) [.string (⟨#[84,117,101,115,100,97,121]⟩:af)] from rfl) (iB.one (show Kd.M Kd.string _ _ _ (⟨#[87,101,100,110,101,115,100,97,121]⟩:af) [.string (⟨#[87,101,100,110,101,115,100,97,121]⟩:af)] from rfl) (iB.one (show Kd.M Kd.string _ _ _ (⟨#[84,104,117,114,115,100,97,121]⟩:af) [.string (⟨#[84,104,117,114,115,100,97,121]⟩:af)] from rfl) (iB.one (show Kd.M Kd.string _ _ _ (⟨#[70,114,105,100,97,121]⟩:af) [.string (⟨#[70,114,105,100,97,121]⟩:af)] from rfl) (iB.one (show Kd.M Kd.string _ _ _ (⟨#[83,97,116,117,114,100,97,121]⟩:af) [.string (⟨#[83,97,116,117,114,100,97,121]⟩:af)] from rfl) (iB.one (show Kd.M Kd.string _ _ _ (⟨#[83,117,110,100,97,121]⟩:af) [.string (⟨#[83,117,110,100,97,121]⟩:af)] from rfl) (iB.none _ _)))))))));intro aGp mo ho2 hb hg_ hnew_;clear hg_ hnew_;(first|rw[<- aiD.out] at ho2|(simp only[Int.reduceToNat] at ho2;rw[<- aiD.out] at ho2));have aBa:=ae.mk (Kd.gZ ho2 (bq dL));replace HB:=iC hb;clear hb ho2));go_ret;exact⟨_,su,wh,dL⟩
@[reducible,instance] def sw.c:=jM.of 0 Tryz.func177 @sw.calls


def lL.f (a0:Int):Option (Int):=(iT.f a0).bind fun awh=>(if awh=true then(some (Int.tmod (wrap64 ((wrap64 (Int.tdiv a0 86400))+3)) 7)) else(some (-1)))
theorem lL.calls (a0 r:Int) (w:World) (h:lL.f a0=some r) :
  Calls Tryz.prog 178 #[.int .i64 a0] w fun e w'=>e = .returned (.int .i64 r)/\bL w w':=by
 unfold lL.f at h;exact uA
@[reducible,instance] def lL.c:=jM.of 0 Tryz.func178 @lL.calls

def dG.l0 : Nat->Int->Int->ByteArray->Option (ByteArray)
 |0,_,_,_=>none
 |k+1,x0,x1,x5=>if x1>0 then((iw.f (Int.tmod x0 10)).bind fun aqh=>(if aqh.size+x5.size<=9223372036854775807 then(dG.l0 k (wrap64 (Int.tdiv x0 10)) (wrap64 (x1-1)) (aqh++x5)) else(none))) else(some x5)
def dG.f (k:Nat) (a0:Int) (a1:Int):Option (ByteArray):=dG.l0 k a0 a1 (⟨#[]⟩:af)
theorem dG.calls (k:Nat) (a0 a1:Int) (r:ByteArray) (w:World) (h:dG.f k a0 a1=some r) (HT0:nN w) :
  Calls Tryz.prog 179 #[.int .i64 a0,.int .i64 a1] w fun e w'=>e = .returned (.string r)/\Below w.heap.size w w':=by
 have HT:=ae.mk HT0;clear HT0;have HB:=ae.mk (Below.refl w.heap.size w);have H:=ae.mk h;clear h;unfold dG.f at H;go_enter Tryz.func179,Tryz.ntmps179;go_wp2;go_loopg [0,1,5] k (fun kq v0 v1 v5 w'=>∃(SV:Int) (ac6:Int) (gH:ByteArray),v0 = .int .i64 SV/\v1 = .int .i64 ac6/\v5 = .string gH/\ae (dG.l0 kq SV ac6 gH=some r)/\ae (kq<=k)/\ae (Below w.heap.size w w'))
 case atStart=>exact⟨(a0),(a1),((⟨#[]⟩:af)),kD,kD,kD,H,⟨Nat.le_refl _⟩,⟨dL⟩⟩
 case round=>
  clear H;obtain⟨SV,ac6,gH,rfl,rfl,rfl,HA,mh,HB⟩:=hrel;cases gk with
  |zero=>exact absurd HA.out (by simp[dG.l0])
  |succ k1=>
   have H:=HA;clear HA;simp only[dG.l0] at H;exact uW
@[reducible,instance] def dG.c:=jM.of 0 Tryz.func179 @dG.calls

def jS.f (k:Nat) (az:Int) (aA:Int) (aC:Int) (bI:Int) (aG:Int) (bH:Int):Option (ByteArray):=(dG.f k bI 2).bind fun U7=>(if U7.size+1<=9223372036854775807 then((dG.f k aG 2).bind fun X0=>(if(U7++(⟨#[58]⟩:af)).size+X0.size<=9223372036854775807 then(if((U7++(⟨#[58]⟩:af))++X0).size+1<=9223372036854775807 then((dG.f k bH 2).bind fun aeT=>(if(((U7++(⟨#[58]⟩:af))++X0)++(⟨#[58]⟩:af)).size+aeT.size<=9223372036854775807 then(some ((((U7++(⟨#[58]⟩:af))++X0)++(⟨#[58]⟩:af))++aeT)) else(none))) else(none)) else(none))) else(none))
def jS.T1 : Bool×List (List Nat×List Nat):=(true,[([],[]),([0],[0]),([1],[1]),([2],[2]),([],[]),([4],[4]),([5,2],[5]),([3,6],[3,6]),([7],[7]),([],[]),([9],[9]),([10,6],[10]),([8,11],[8,11]),([12,11,0,1,2,3,4,5,6,7,8,9,10,11,12],[12])])
def jS.B1 : List Nat:=[0,1,3,7,0,16,55,127,255,0,512,1655,4095,8191]
theorem jS.El : pX .any (opsOf Tryz.f180 1)=jS.T1:=by kernel_rfl
theorem jS.xn : jK jS.T1.2 jS.B1=true:=by kernel_rfl
theorem jS.calls (k:Nat) (az aA:Int) (aC bI:Int) (aG bH:Int) (r:ByteArray) (w:World) (h:jS.f k az aA aC bI aG bH=some r) (HT0:nN w) :
  Calls Tryz.prog 180 #[.agg #[.int .i64 az,.int .i64 aA,.int .i64 aC,.int .i64 bI,.int .i64 aG,.int .i64 bH]] w fun e w'=>e = .returned (.string r)/\Below w.heap.size w w':=by
 have HT:=ae.mk HT0;clear HT0;have FR:=Tryz.underlying117;have HB:=ae.mk (Below.refl w.heap.size w);have H:=ae.mk h;clear h;unfold jS.f at H;obtain⟨U7,A2,H⟩:=xE H;rcases GM H with⟨c3,GI,nS,H⟩|⟨c3,-,-,H⟩
 ·try have ac7:=eq_false (Nat.not_lt.2 c3)
  obtain⟨X0,A4,H⟩:=xE H;obtain⟨c5,LW,xW,H⟩:=Ci H;try have awi:=eq_false (Nat.not_lt.2 c5)
  try(have U8:=c5;simp only[ByteArray.size_append,yP,List.length_cons,List.length_nil,Nat.zero_add,Nat.reduceAdd] at U8;replace U8:=eq_false (Nat.not_lt.2 U8))
  obtain⟨c6,M8,xV,H⟩:=Ci H;try have awj:=eq_false (Nat.not_lt.2 c6)
  try(have U9:=c6;simp only[ByteArray.size_append,yP,List.length_cons,List.length_nil,Nat.zero_add,Nat.reduceAdd] at U9;replace U9:=eq_false (Nat.not_lt.2 U9))
  obtain⟨aeT,A7,H⟩:=xE H;obtain⟨c8,Zy,zS,H⟩:=Ci H;try have as0:=eq_false (Nat.not_lt.2 c8)
  try(have adS:=c8;simp only[ByteArray.size_append,yP,List.length_cons,List.length_nil,Nat.zero_add,Nat.reduceAdd] at adS;replace adS:=eq_false (Nat.not_lt.2 adS))
  obtain rfl:=gK H.out;go_enter Tryz.func180,Tryz.ntmps180;try go_wp2_with(((with_reducible refine vJ 1 rfl ?_);refine qo #[.int .i64 az,.int .i64 aA,.int .i64 aC,.int .i64 bI,.int .i64 aG,.int .i64 bH] 117 ?_;intro Kl hg mo hbox hb;have Ba:=ae.mk (hbox);have aBb:=rE hg;replace HB:=iC hb;clear hb hbox hg))
  replace Ba:=ae.mk (dh Ba.out);replace HB:=ae.mk (bn HB.out);refine kJ (n:=14) (S:=fun w'=>w'.cell? ⟨Kl,0,none⟩=some (.int .i64 az)/\w'.cell? ⟨Kl,1,none⟩=some (.int .i64 aA)/\w'.cell? ⟨Kl,2,none⟩=some (.int .i64 aC)/\w'.cell? ⟨Kl,3,none⟩=some (.int .i64 bI)/\w'.cell? ⟨Kl,4,none⟩=some (.int .i64 aG)/\w'.cell? ⟨Kl,5,none⟩=some (.int .i64 bH)) (ds:=[]) (pY Ba) (fun hHeld=>?_);refine dY jS.El jS.xn (fun HT_ HW_=>?_);generalize mo.drew=mV at Ba HB hHeld ⊢;repeat(first|refine mr ?_ (hy:=Or.inl ⟨by rfl,YE⟩)|refine ek ?_)
  refine bN 4 (some 7) ?_;refine fQ 5 (some 8) (hy:=Or.inl ⟨by rfl,YE⟩) ?_;refine bN 9 (some 12) ?_;refine fQ 10 (some 13) (hy:=Or.inl ⟨by rfl,YE⟩) ?_;refine gV (fun K hK=>?_);refine EC Tryz.func179 (dG.calls k bI 2 U7 _ A2.out (kG HT)) fun tT hb=>?_;replace Ba:=jr (g:=Kl) hb;replace HB:=iC hb;(try clear hb)
  refine hK.out _ _ (pY Ba) (fun hHeld=>?_);clear hK K;refine dI ?_;repeat(first|refine ek ?_)
  refine gV (fun K hK=>?_);refine EC Tryz.func179 (dG.calls k aG 2 X0 _ A4.out (kG HT)) fun tT hb=>?_;replace Ba:=jr (g:=Kl) hb;replace HB:=iC hb;(try clear hb)
  refine hK.out _ _ (pY Ba) (fun hHeld=>?_);clear hK K;refine dI ?_;repeat(first|refine ek ?_)
  refine gV (fun K hK=>?_);refine EC Tryz.func179 (dG.calls k bH 2 aeT _ A7.out (kG HT)) fun tT hb=>?_;replace Ba:=jr (g:=Kl) hb;replace HB:=iC hb;(try clear hb)
  refine hK.out _ _ (pY Ba) (fun hHeld=>?_);clear hK K;refine dI ?_;repeat(first|refine ek ?_)
  refine lh (gP HT_.out eB) ?_;try go_wp2
  go_ret;exact⟨su,dL⟩
 ·exact absurd H.out (by simp)
@[reducible,instance] def jS.c:=jM.of 0 Tryz.func180 @jS.calls

end Go.Proofs.YtfhllanhldbkkaaGreatDoor.P
