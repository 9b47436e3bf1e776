import Derived.Test.YtfhllanhldbkkaaGreatDoorPx0
namespace Go.Proofs.YtfhllanhldbkkaaGreatDoor.P
set_option maxHeartbeats 8000000
set_option maxRecDepth 100000
open Go.RowKit Go.Proofs.YtfhllanhldbkkaaGreatDoorW.bf Go.Proofs.YtfhllanhldbkkaaGreatDoorW.iK Go.Proofs.YtfhllanhldbkkaaGreatDoorW.kG
attribute [local go_sem] rE rF uF uG pE pF rG rH   -- for this text's walks alone
set_option linter.unusedVariables false
set_option linter.unusedSimpArgs false

def jk.f (a0:Int):Option (Int):=if a0>=65 then(if a0<=90 then(some ((a0+32)%256)) else(some a0)) else(some a0)
theorem jk.calls (a0 r:Int) (w:World) (h:jk.f a0=some r) :
  Calls Tryz.prog 125 #[.int .u8 a0] w fun e w'=>e = .returned (.int .u8 r)/\bH w w':=by
 have H:=aa.mk h;clear h;unfold jk.f at H;rcases jw H with⟨-,jc,-,H⟩|⟨-,jc,-,H⟩
 ·rcases jw H with⟨-,cB,-,H⟩|⟨-,cB,-,H⟩
  ·obtain rfl:=aI H.out;go_enter Tryz.func125,Tryz.ntmps125;go_wp2;go_ret;exact⟨bR,iL⟩
  ·obtain rfl:=aI H.out;go_enter Tryz.func125,Tryz.ntmps125;go_wp2;go_ret;exact⟨bR,iL⟩
 ·obtain rfl:=aI H.out;go_enter Tryz.func125,Tryz.ntmps125;go_wp2;go_ret;exact⟨bR,iL⟩

theorem X6 (c:Int) (h0:0<=c) (h1:c<=255):jk.f c=some (low c):=by
 unfold jk.f low
 by_cases h:c>=65
 ·rw[if_pos h]
  by_cases h2:c<=90
  ·rw[if_pos h2,if_pos ⟨by omega,h2⟩];congr 1;omega
  ·rw[if_neg h2,if_neg ae]
 ·rw[if_neg h,if_neg ae]
def il.f (a0:ByteArray):Option (ByteArray):=if a0.size<=9223372036854775807 then some (lG a0) else none
theorem il.calls (a0 r:ByteArray) (w:World) (h:il.f a0=some r) :
  Calls Tryz.prog 83 #[.string a0] w fun e w'=>e = .returned (.string r)/\Below w.heap.size w w':=by
 unfold il.f at h;by_cases hs:a0.size<=9223372036854775807
 case neg=>rw[if_neg hs] at h;cases h
 rw[if_pos hs] at h;obtain rfl:=aI h;clear h;have kb:=fun W=>KJ (P:=Tryz.prog) 9 100 5 Tryz.underlying9 Tryz.underlying100 Tryz.underlying5 a0 W;have Xg:xX (Lib.bytesWorld w 5 a0) w.heap.size 5 (wU a0 0):=by rw[Nv];exact xX.new w 5 a0
 have hbel0:Below w.heap.size w (Lib.bytesWorld w 5 a0):=KL (Below.refl _ _) (Nat.le_refl _) 5 a0;go_enter Tryz.func83,Tryz.ntmps83;go_wp2;clear kb;go_loopw [4] (fun i wr=>∃ k:Nat,k<=a0.size/\i = .int .i64 k/\xX wr w.heap.size 5 (wU a0 k)/\Below w.heap.size w wr) (fun i _=>a0.size-(intOf i).toNat)
 case atStart=>exact⟨0,Nat.zero_le _,rfl,Xg,hbel0⟩
 case round=>
  obtain⟨k,hk,rfl,hrow,hbel⟩:=hrel;clear Xg hbel0;by_cases hlt:k<a0.size
  ·have hcell:=hrow.cell k (by rw[nT];exact hlt);rw[Nw a0 k hlt] at hcell;have hfree:=hrow.free k (by rw[nT];exact hlt);have hr:=je a0 (k:Int);have hl:=X6 (bt a0 k) hr.1 hr.2;have Hrow:=aa.mk hrow;have Hbel:=aa.mk hbel;clear hrow hbel;go_wp2_with(go_at_call 125;refine(jk.calls _ _ _ hl).mono ?_;rintro e w' ⟨rfl,⟨nd,rfl⟩⟩);exact⟨⟨k+1,by omega,by go_num,by rw[<- Gi a0 k hlt];exact(Hrow.out.drewN nd).set k (by rw[nT];exact hlt) _,(yL Hbel.out nd).setCell (Nat.le_refl _) _⟩,by simp[intOf];omega⟩
  ·obtain rfl:k=a0.size:=by omega
   have kc:=fun c=>xX.str (P:=Tryz.prog) (src:=100) (dst:=9) hrow Tryz.underlying100 Tryz.underlying5 Tryz.underlying9 a0.size c (nT a0 _);rw[Q8] at kc;have Hbel:=aa.mk hbel;clear hrow hbel;go_wp2;go_ret;exact⟨rfl,Hbel.out⟩

def bD.f (a0:Int):Option (Bool):=if a0>=48 then(some (decide (a0<=57))) else(some false)
theorem bD.calls (a0:Int) (r:Bool) (w:World) (h:bD.f a0=some r) :
  Calls Tryz.prog 77 #[.int .u8 a0] w fun e w'=>e = .returned (.bool r)/\bH w w':=by
 have H:=aa.mk h;clear h;unfold bD.f at H;rcases jw H with⟨-,jc,-,H⟩|⟨-,jc,-,H⟩
 ·obtain rfl:=aI H.out;go_enter Tryz.func77,Tryz.ntmps77;go_wp2;go_ret;exact⟨bR,iL⟩
 ·obtain rfl:=aI H.out;go_enter Tryz.func77,Tryz.ntmps77;go_wp2;go_ret;exact⟨bR,iL⟩


mutual
def bI.j0 : Nat->Int->Bool->Option (ByteArray)
 |0,_,_=>none
 |k+1,x0,x8=>if x8=true then(some (⟨#[]⟩:af)) else(if x0<10 then(some (strOfNums (([(wrap64 (48+x0))%256]:List Int)))) else((bI.f k (wrap64 (Int.tdiv x0 10))).bind fun t197=>((some (([(wrap64 (48+(Int.tmod x0 10)))%256]:List Int):List Int)).bind fun X7=>(if t197.size+(strOfNums X7).size<=9223372036854775807 then(some (t197++(strOfNums X7))) else(none)))))
def bI.f : Nat->Int->Option (ByteArray)
 |0,_=>none
 |k+1,a0=>if a0<0 then(bI.j0 k a0 true) else(bI.j0 k a0 (decide (a0>999999999999999)))
end
def bI.T5 : Bool×List (List Nat×List Nat):=(true,[([],[]),([0],[0]),([1],[1]),([],[]),([3],[3]),([4],[4]),([5],[5]),([6],[6]),([7],[7]),([2,8],[2,8]),([9,2,0,1,2,3,4,5,6,7,8,9],[9])])
def bI.B5 : List Nat:=[0,1,3,0,8,24,56,120,248,511,1023]
theorem bI.aAD : nL .any (opsOf Tryz.f102 5)=bI.T5:=by kernel_rfl
theorem bI.av2 : jf bI.T5.2 bI.B5=true:=by kernel_rfl
theorem bI.calls (k:Nat):∀(a0:Int) (r:ByteArray) (w:World) (h:bI.f k a0=some r),
  Calls Tryz.prog 102 #[.int .i64 a0] w fun e w'=>e = .returned (.string r)/\Below w.heap.size w w':=by
 induction k using Nat.strongRecOn with
 |_ k ih=>
 intro a0 r w h;cases k with
 |zero=>exact absurd h (by simp[bI.f])
 |succ k=>
 simp only[bI.f] at h;have HB:=aa.mk (Below.refl w.heap.size w);have H:(if a0<0 then(bI.j0 k a0 true) else(bI.j0 k a0 (decide (a0>999999999999999))))=some r:=h;clear h;have qz:=aa.mk H;clear H;go_enter Tryz.func102,Tryz.ntmps102;go_upto_region 1 with(fail);go_cut [8] (fun v8 wc=>∃(kq:Nat) (yu:Bool),v8 = .bool yu/\aa (bI.j0 kq a0 yu=some r)/\aa (kq<=k)/\aa (Below w.heap.size w wc))
 case first=>
  have H:=qz.out;clear qz;replace H:=gI H;rcases H with⟨-,cB,-,H⟩|⟨-,cB,-,H⟩
  ·(first|rw[cB]|(simp only[dU,fK];rw[cB])|skip)
   replace H:=aa.mk H;go_wp2;go_meet
   case rel=>exact⟨_,(true),bR,H,⟨tT⟩,⟨aX⟩⟩
  ·(first|rw[cB]|(simp only[dU,fK];rw[cB])|skip)
   replace H:=aa.mk H;go_wp2;go_meet
   case rel=>exact⟨_,(decide (a0>999999999999999)),bR,H,⟨tT⟩,⟨aX⟩⟩
 case rest=>
  clear qz;obtain⟨kq,yu,rfl,HA,tC,HB⟩:=hcut;cases kq with
  |zero=>exact absurd HA.out (by simp[bI.j0])
  |succ oz=>
   have H:=HA.out;clear HA;simp only[bI.j0] at H;replace H:=gB H;rcases H with⟨rfl,H⟩|⟨rfl,H⟩
   ·obtain rfl:=aI H;go_wp2;go_ret;exact⟨jv,aX⟩
   ·replace H:=gI H;rcases H with⟨-,jV,-,H⟩|⟨-,jV,-,H⟩
    ·obtain⟨aAE,X8⟩:∃ y_:List Int,y_=(([(wrap64 (48+a0))%256]:List Int)):=⟨_,rfl⟩;replace H:(some (strOfNums aAE))=some r:=by first|(rw[X8];with_reducible exact H)|(have kP:=(ax _ _).symm.trans H;rw[X8];with_reducible exact kP)|(have kP:=(ax _ _).symm.trans H;with_reducible exact kP)|with_reducible exact H|(rw[X8];exact H)|exact H
     have aoQ:=aa.mk X8;clear X8;obtain rfl:=aI H;go_wp2_with(first|((with_reducible refine lT 14 rfl ?_);refine Kd.Re (Kd.int .u8) _ 5 ?hg (N:=14) ?hd (xs:=([(wrap64 (48+a0))%256]:List Int)) (inner:=[.int .u8 ((wrap64 (48+a0))%256)]) (ok:=fun _=>True) (okp:=fun _=>True) ?hr ?hp (fun _ hk=>hk) trivial (Below.refl _ _) (Nat.le_refl _) (by simp) ?_;(case hd=>rfl);(case hg=>rfl);(case hr=>first|(go_simp;done)|(go_simp;rfl));(case hp=>exact(fI.one (show Kd.M (Kd.int .u8) _ _ _ ((wrap64 (48+a0))%256) [.int .u8 ((wrap64 (48+a0))%256)] from rfl) (fI.none _ _)));intro aF0 w6 ho7 hb hg_ hnew_;clear hg_ hnew_;(first|rw[<- aoQ.out] at ho7|(simp only[Int.reduceToNat] at ho7;rw[<- aoQ.out] at ho7));have av3:=aa.mk (Kd.gu ho7 (aN aX));replace HB:=fw hb;clear hb ho7;have aF1:=sJ (P:=Tryz.prog) Tryz.underlying100 Tryz.underlying5 Tryz.underlying9 (Kd.vH av3.out)));go_ret;exact⟨jv,aX⟩
    ·replace H:=gD H;obtain⟨t197,A9,H⟩:=H;obtain⟨X7,X9⟩:∃ y_:List Int,y_=(([(wrap64 (48+(Int.tmod a0 10)))%256]:List Int)):=⟨_,rfl⟩;replace H:(if t197.size+(strOfNums X7).size<=9223372036854775807 then(some (t197++(strOfNums X7))) else(none))=some r:=by first|(rw[X9];with_reducible exact H)|(have kP:=(ax _ _).symm.trans H;rw[X9];with_reducible exact kP)|(have kP:=(ax _ _).symm.trans H;with_reducible exact kP)|with_reducible exact H|(rw[X9];exact H)|exact H
     have acD:=aa.mk X9;clear X9;replace H:=gI H;rcases H with⟨c10,Aw,pX,H⟩|⟨c10,-,-,H⟩
     ·try have aoR:=eq_false (Nat.not_lt.2 c10)
      obtain rfl:=aI H;try go_wp2
      replace HB:=aa.mk (bE HB.out);refine Ce (n:=11) (S:=fun w'=>True) (ds:=[]) #[false,false,false,false,false,false,false,false,false,false,false] dK rfl rfl trivial (fun hHeld=>?_);refine dw bI.aAD bI.av2 (fun HT_ HW_=>?_);generalize wc.drew=FM at HB hHeld ⊢;refine bq 0 (some 16) ?_;refine bq 1 (some 17) ?_;refine bq 3 (some 19) ?_;refine bq 4 (some 20) ?_;refine bq 5 (some 21) ?_;refine bq 6 (some 22) ?_;refine asA (σ:=Value) 2 #[true,true,true,true,true,true,true,true,true,false,false] (fun s_=>[(18,.string t197),(23,s_),(24,.string (strOfNums X7))]) (fun s_ w'=>(Kd.R (Kd.int .u8) 5 w' w.heap.size (fun _=>True) s_ X7)/\(Below w.heap.size w w')) ?_ ?_;rotate_left
      ·intro hCont;refine asz (i:=2) (j:=7) (Ni:=some 18) (Nj:=some 23) #[true,true,true,true,true,true,true,false,false,false,false] #[true,true,false,true,true,true,true,true,false,false,false] rfl rfl rfl rfl (ae0 HT_.out dK) aA aA (fun K hK=>?_) (fun K hK=>?_)
       ·skip
        refine zrl Tryz.func102 (ih oz (by have:=tC.out;omega) (wrap64 (Int.tdiv a0 10)) t197 _ A9.out) ?_;rintro e DF ⟨rfl,hb⟩;refine⟨_,rfl,?_⟩;replace HB:=fw hb;(try clear hb)
        refine hK.out _ _ trivial (fun hHeld=>?_);clear hK K;refine zk (some 18) ?_;refine Fh (i:=7) (N:=some 23) #[true,true,true,true,true,true,true,true,false,false,false] rfl rfl (vJ HT_.out dK) aA (fun K hK=>?_);refine Kd.Cc (Kd.int .u8) _ 5 ?hg (N:=23) ?hd (xs:=([(wrap64 (48+(Int.tmod a0 10)))%256]:List Int)) (inner:=[.int .u8 ((wrap64 (48+(Int.tmod a0 10)))%256)]) (ok:=fun _=>True) (okp:=fun _=>True) ?hr ?hp (fun _ hk=>hk) trivial (Below.refl _ _) (Nat.le_refl _) (by simp) ?_;(case hd=>rfl);(case hg=>rfl);(case hr=>first|(go_simp;done)|(go_simp;rfl));(case hp=>exact(fI.one (show Kd.M (Kd.int .u8) _ _ _ ((wrap64 (48+(Int.tmod a0 10)))%256) [.int .u8 ((wrap64 (48+(Int.tmod a0 10)))%256)] from rfl) (fI.none _ _)));intro aei AX aiq hb hg_ hnew_;clear hg_ hnew_;(first|rw[<- acD.out] at aiq|(simp only[Int.reduceToNat] at aiq;rw[<- acD.out] at aiq))
        have KP:=aa.mk (Kd.gu aiq (aN aX));replace HB:=fw hb;clear hb aiq;refine hK.out _ _ trivial (fun hHeld=>?_);clear hK K;refine zk (some 23) ?_;refine Fh (i:=8) (N:=some 24) #[true,true,true,true,true,true,true,true,true,false,false] rfl rfl (vJ HT_.out dK) aA (fun K hK=>?_);have air:=sJ (P:=Tryz.prog) Tryz.underlying100 Tryz.underlying5 Tryz.underlying9 (Kd.vH KP.out);refine Za (w1:=?_) (v:=?_) (by rfl) rfl ?_ ?_;rotate_left 2
        ·go_simp
         constructor
         ·rfl
         ·rfl
        clear air;refine hK.out _ _ trivial (fun hHeld=>?_);clear hK K;refine zk (some 24) ?_;exact Rf apD (hCont (aei) _ ⟨ae9,aX⟩)
       ·skip
        refine Kd.Cc (Kd.int .u8) _ 5 ?hg (N:=23) ?hd (xs:=([(wrap64 (48+(Int.tmod a0 10)))%256]:List Int)) (inner:=[.int .u8 ((wrap64 (48+(Int.tmod a0 10)))%256)]) (ok:=fun _=>True) (okp:=fun _=>True) ?hr ?hp (fun _ hk=>hk) trivial (Below.refl _ _) (Nat.le_refl _) (by simp) ?_;(case hd=>rfl);(case hg=>rfl);(case hr=>first|(go_simp;done)|(go_simp;rfl));(case hp=>exact(fI.one (show Kd.M (Kd.int .u8) _ _ _ ((wrap64 (48+(Int.tmod a0 10)))%256) [.int .u8 ((wrap64 (48+(Int.tmod a0 10)))%256)] from rfl) (fI.none _ _)));intro aei DF ais hb hg_ hnew_;clear hg_ hnew_;(first|rw[<- acD.out] at ais|(simp only[Int.reduceToNat] at ais;rw[<- acD.out] at ais))
        have KP:=aa.mk (Kd.gu ais (aN aX));replace HB:=fw hb;clear hb ais;refine hK.out _ _ trivial (fun hHeld=>?_);clear hK K;refine zk (some 23) ?_;refine asz (i:=2) (j:=8) (Ni:=some 18) (Nj:=some 24) #[true,true,true,true,true,true,true,true,false,false,false] #[true,true,false,true,true,true,true,true,true,false,false] rfl rfl rfl rfl (ae0 HT_.out dK) aA aA (fun K hK=>?_) (fun K hK=>?_)
        ·skip
         refine zrl Tryz.func102 (ih oz (by have:=tC.out;omega) (wrap64 (Int.tdiv a0 10)) t197 _ A9.out) ?_;rintro e w14 ⟨rfl,hb⟩;refine⟨_,rfl,?_⟩;replace KP:=aa.mk (Kd.bL ae9 hb);replace HB:=fw hb;(try clear hb)
         (try clear hk)
         refine hK.out _ _ trivial (fun hHeld=>?_);clear hK K;refine zk (some 18) ?_;refine Fh (i:=8) (N:=some 24) #[true,true,true,true,true,true,true,true,true,false,false] rfl rfl (vJ HT_.out dK) aA (fun K hK=>?_);have air:=sJ (P:=Tryz.prog) Tryz.underlying100 Tryz.underlying5 Tryz.underlying9 (Kd.vH KP.out);refine Za (w1:=?_) (v:=?_) (by rfl) rfl ?_ ?_;rotate_left 2
         ·go_simp
          constructor
          ·rfl
          ·rfl
         clear air;refine hK.out _ _ trivial (fun hHeld=>?_);clear hK K;refine zk (some 24) ?_;exact Rf apD (hCont (aei) _ ⟨ae9,aX⟩)
        ·skip
         have av4:=sJ (P:=Tryz.prog) Tryz.underlying100 Tryz.underlying5 Tryz.underlying9 (Kd.vH KP.out);refine Za (w1:=?_) (v:=?_) (by rfl) rfl ?_ ?_;rotate_left 2
         ·go_simp
          constructor
          ·rfl
          ·rfl
         clear av4;refine hK.out _ _ trivial (fun hHeld=>?_);clear hK K;refine zk (some 24) ?_;refine Fh (i:=2) (N:=some 18) #[true,true,true,true,true,true,true,true,true,false,false] rfl rfl (vJ HT_.out dK) aA (fun K hK=>?_);refine zrl Tryz.func102 (ih oz (by have:=tC.out;omega) (wrap64 (Int.tdiv a0 10)) t197 _ A9.out) ?_;rintro e w15 ⟨rfl,hb⟩;refine⟨_,rfl,?_⟩;replace KP:=aa.mk (Kd.bL ae9 hb);replace HB:=fw hb;(try clear hb)
         (try clear hk)
         refine hK.out _ _ trivial (fun hHeld=>?_);clear hK K;refine zk (some 18) ?_;exact Rf apD (hCont (aei) _ ⟨ae9,aX⟩)
      rintro aei w16 ⟨h0_,h1_⟩;have kR:aa (Kd.R (Kd.int .u8) 5 w16 w.heap.size (fun _=>True) aei X7):=⟨h0_⟩;have lF:aa (Below w.heap.size w w16):=⟨h1_⟩;clear HB;clear h0_ h1_;have KP:=kR;have HB:=lF;clear kR lF;have hHeld:=trivial;refine Rf (a':=?_) ?_ ?_;rotate_left
      ·simp only[NI,Act.put,List.setIfInBounds_toArray,List.set_cons_zero,List.set_cons_succ];rfl
      refine bq 9 (some 25) ?_;refine bq 10 (some 2) ?_;refine kI (fP HT_.out dK) ?_;try go_wp2
      go_ret;exact⟨jv,aX⟩
     ·exact absurd H (by simp)


mutual
def dY.j0 : Nat->ByteArray->Bool->Option (Int×Bool)
 |0,_,_=>none
 |k+1,x0,x13=>if x13=true then(some (0,false)) else(dY.l0 k x0 0 0)
def dY.l0 : Nat->ByteArray->Int->Int->Option (Int×Bool)
 |0,_,_,_=>none
 |k+1,x0,x4,x5=>if x5<(x0.size:Int) then(if 0<=x5 then((bD.f (bt x0 x5)).bind fun t201=>(if t201=true then(dY.l0 k x0 (wrap64 ((wrap64 (x4*10))+(((bt x0 x5)-48)%256))) (wrap64 (x5+1))) else(some (0,false)))) else(none)) else((bI.f k x4).bind fun t202=>(if t202.toList=x0.toList then(some (x4,true)) else(some (0,false))))
end
def dY.f (k:Nat) (a0:ByteArray):Option (Int×Bool):=if(a0.size:Int)=0 then(dY.j0 k a0 true) else(dY.j0 k a0 (decide ((a0.size:Int)>15)))
theorem dY.e0 {p:Prop} (h:p:=by
  go_wp2_with(first|((with_reducible refine cZ 102 rfl ?_);refine iW 34 rfl Tryz.func102 (bI.calls k2 iG t202 _ M3.out) fun gG hb HB=>?_;clear hb)|((with_reducible refine cZ 77 rfl ?_);refine mM 23 rfl Tryz.func77 (bD.calls (bt a0 iU) false _ A8.out) fun nd=>?_))
  go_ret2
  exact⟨jv,aX⟩):p:=h
theorem dY.calls (k:Nat) (a0:ByteArray) (r1:Int) (r2:Bool) (w:World) (h:dY.f k a0=some (r1,r2)) :
  Calls Tryz.prog 141 #[.string a0] w fun e w'=>e = .returned (.tuple #[.int .i64 r1,.bool r2])/\Below w.heap.size w w':=by
 have HB:=aa.mk (Below.refl w.heap.size w);have H:=h;clear h;unfold dY.f at H;have qz:=aa.mk H;clear H;go_enter Tryz.func141,Tryz.ntmps141;go_upto_region 1 with(fail);go_cut [13] (fun v13 wc=>∃(kq:Nat) (qW:Bool),v13 = .bool qW/\aa (dY.j0 kq a0 qW=some (r1,r2))/\aa (kq<=k)/\aa (Below w.heap.size w wc))
 case first=>
  have H:=qz.out;clear qz;replace H:=gI H;rcases H with⟨c3,-,-,H⟩|⟨c3,-,-,H⟩
  ·obtain⟨cB,nE⟩:=kT c3;clear c3;(first|rw[cB]|(simp only[dU,fK];rw[cB])|skip)
   replace H:=aa.mk H;go_wp2;go_meet
   case rel=>exact⟨_,(true),bR,H,⟨tT⟩,⟨aX⟩⟩
  ·obtain⟨cB,nE⟩:=kU c3;(first|rw[cB]|(simp only[dU,fK];rw[cB])|skip)
   replace H:=aa.mk H;go_wp2;go_meet
   case rel=>exact⟨_,(decide ((a0.size:Int)>15)),bR,H,⟨tT⟩,⟨aX⟩⟩
 case rest=>
  clear qz;obtain⟨kq,qW,rfl,HA,tC,HB⟩:=hcut;cases kq with
  |zero=>exact absurd HA.out (by simp[dY.j0])
  |succ oz=>
   have H:=HA.out;clear HA;simp only[dY.j0] at H;replace H:=gB H;rcases H with⟨rfl,H⟩|⟨rfl,H⟩
   ·simp only[Option.some.injEq,Prod.mk.injEq] at H;obtain⟨rfl,rfl⟩:=H;go_wp2;go_ret2;exact⟨jv,aX⟩
   ·replace H:=aa.mk H;go_wp2;go_loopg [4,5] oz (fun kq v4 v5 w'=>∃(iG:Int) (iU:Int),v4 = .int .i64 iG/\v5 = .int .i64 iU/\aa (dY.l0 kq a0 iG iU=some (r1,r2))/\aa (kq<=oz)/\aa (Below w.heap.size w w'))
    case atStart=>exact⟨(0),(0),bR,bR,H,⟨Nat.le_refl _⟩,⟨aX⟩⟩
    case round=>
     clear H;obtain⟨iG,iU,rfl,rfl,HA,tO,HB⟩:=hrel;cases gk with
     |zero=>exact absurd HA.out (by simp[dY.l0])
     |succ k2=>
      have H:=HA.out;clear HA;simp only[dY.l0] at H;replace H:=gI H;rcases H with⟨-,jV,-,H⟩|⟨-,jV,-,H⟩
      ·replace H:=gN H;obtain⟨-,jy,-,H⟩:=H;replace H:=xE H;rcases H with⟨A8,H⟩|⟨A8,H⟩
       ·replace H:=aa.mk H;have p7:0<=(iU:Int):=ay bM;have q7:iU<(a0.size:Int):=ay bM;have hx7:=bO a0 iU;replace p7:=eq_true p7;replace q7:=eq_true q7;go_wp2_with(((with_reducible refine cZ 77 rfl ?_);refine mM 23 rfl Tryz.func77 (bD.calls (bt a0 iU) true _ A8.out) fun nd=>?_;have p10:0<=(iU:Int):=ay bM;have q10:iU<(a0.size:Int):=ay bM;have auB:=bO a0 iU;replace p10:=eq_true p10;replace q10:=eq_true q10));go_roundg k2
        case measure=>have:=tC.out;have:=tO.out;omega
        case rel=>exact⟨(wrap64 ((wrap64 (iG*10))+(((bt a0 iU)-48)%256))),(wrap64 (iU+1)),bR,bR,H,⟨Fj⟩,⟨aX⟩⟩
       ·simp only[Option.some.injEq,Prod.mk.injEq] at H;obtain⟨rfl,rfl⟩:=H;have p7:0<=(iU:Int):=ay bM;have q7:iU<(a0.size:Int):=ay bM;have hx7:=bO a0 iU;replace p7:=eq_true p7;replace q7:=eq_true q7;exact dY.e0
      ·replace H:=gD H;obtain⟨t202,M3,H⟩:=H;replace H:=gI H;rcases H with⟨c12,-,-,H⟩|⟨c12,-,-,H⟩
       ·obtain⟨nS,yH⟩:=kT c12;clear c12;simp only[Option.some.injEq,Prod.mk.injEq] at H;obtain⟨rfl,rfl⟩:=H;exact dY.e0
       ·obtain⟨nS,yH⟩:=kU c12;simp only[Option.some.injEq,Prod.mk.injEq] at H;obtain⟨rfl,rfl⟩:=H;exact dY.e0


mutual
def dN.j0 : Nat->ByteArray->Bool->Option (Int×Bool)
 |0,_,_=>none
 |k+1,x0,x14=>if x14=true then(some (0,false)) else(dN.l0 k x0 0 0)
def dN.l0 : Nat->ByteArray->Int->Int->Option (Int×Bool)
 |0,_,_,_=>none
 |k+1,x0,x4,x5=>if x5<(x0.size:Int) then(if 0<=x5 then((jk.f (bt x0 x5)).bind fun t218=>((bD.f t218).bind fun t219=>(if t219=true then(dN.l0 k x0 (wrap64 ((wrap64 (x4*16))+((t218-48)%256))) (wrap64 (x5+1))) else(if t218>=97 then(if t218<=102 then(dN.l0 k x0 (wrap64 ((wrap64 ((wrap64 (x4*16))+((t218-97)%256)))+10)) (wrap64 (x5+1))) else(some (0,false))) else(some (0,false)))))) else(none)) else(some (x4,true))
end
def dN.f (k:Nat) (a0:ByteArray):Option (Int×Bool):=if(a0.size:Int)=0 then(dN.j0 k a0 true) else(dN.j0 k a0 (decide ((a0.size:Int)>7)))
theorem dN.e0 {p:Prop} (h:p:=by
  go_wp2_with(first|((with_reducible refine cZ 125 rfl ?_);refine mM 24 rfl Tryz.func125 (jk.calls (bt a0 iU) t218 _ A8.out) fun nd=>?_)|((with_reducible refine cZ 77 rfl ?_);refine mM 27 rfl Tryz.func77 (bD.calls t218 false _ A9.out) fun nd=>?_))
  go_ret2
  exact⟨bR,iL⟩):p:=h
theorem dN.calls (k:Nat) (a0:ByteArray) (r1:Int) (r2:Bool) (w:World) (h:dN.f k a0=some (r1,r2)) :
  Calls Tryz.prog 211 #[.string a0] w fun e w'=>e = .returned (.tuple #[.int .i64 r1,.bool r2])/\bH w w':=by
 have H:=h;clear h;unfold dN.f at H;have qz:=aa.mk H;clear H;go_enter Tryz.func211,Tryz.ntmps211;go_upto_region 1 with(fail);go_cut [14] (fun v14 wc=>∃(kq:Nat) (Ps:Bool),v14 = .bool Ps/\aa (dN.j0 kq a0 Ps=some (r1,r2))/\aa (kq<=k)/\bH w wc)
 case first=>
  have H:=qz.out;clear qz;replace H:=gI H;rcases H with⟨c3,-,-,H⟩|⟨c3,-,-,H⟩
  ·obtain⟨cB,nE⟩:=kT c3;clear c3;(first|rw[cB]|(simp only[dU,fK];rw[cB])|skip)
   replace H:=aa.mk H;go_wp2;go_meet
   case rel=>exact⟨_,(true),bR,H,⟨tT⟩,iL⟩
  ·obtain⟨cB,nE⟩:=kU c3;(first|rw[cB]|(simp only[dU,fK];rw[cB])|skip)
   replace H:=aa.mk H;go_wp2;go_meet
   case rel=>exact⟨_,(decide ((a0.size:Int)>7)),bR,H,⟨tT⟩,iL⟩
 case rest=>
  clear qz;obtain⟨kq,Ps,rfl,HA,tC,⟨mc1,rfl⟩⟩:=hcut;cases kq with
  |zero=>exact absurd HA.out (by simp[dN.j0])
  |succ oz=>
   have H:=HA.out;clear HA;simp only[dN.j0] at H;replace H:=gB H;rcases H with⟨rfl,H⟩|⟨rfl,H⟩
   ·simp only[Option.some.injEq,Prod.mk.injEq] at H;obtain⟨rfl,rfl⟩:=H;go_wp2;go_ret2;exact⟨bR,iL⟩
   ·replace H:=aa.mk H;go_wp2;go_loopg [4,5] oz (fun kq v4 v5 w'=>∃(iG:Int) (iU:Int),v4 = .int .i64 iG/\v5 = .int .i64 iU/\aa (dN.l0 kq a0 iG iU=some (r1,r2))/\aa (kq<=oz)/\bH w w')
    case atStart=>exact⟨(0),(0),bR,bR,H,⟨Nat.le_refl _⟩,iL⟩
    case round=>
     clear H;obtain⟨iG,iU,rfl,rfl,HA,tO,⟨m2,rfl⟩⟩:=hrel;cases gk with
     |zero=>exact absurd HA.out (by simp[dN.l0])
     |succ k2=>
      have H:=HA.out;clear HA;simp only[dN.l0] at H;replace H:=gI H;rcases H with⟨-,jV,-,H⟩|⟨-,jV,-,H⟩
      ·replace H:=gN H;obtain⟨-,jy,-,H⟩:=H;replace H:=gD H;obtain⟨t218,A8,H⟩:=H;replace H:=xE H;rcases H with⟨A9,H⟩|⟨A9,H⟩
       ·replace H:=aa.mk H;have p7:0<=(iU:Int):=ay bM;have q7:iU<(a0.size:Int):=ay bM;have hx7:=bO a0 iU;replace p7:=eq_true p7;replace q7:=eq_true q7;go_wp2_with(first|((with_reducible refine cZ 125 rfl ?_);refine mM 24 rfl Tryz.func125 (jk.calls (bt a0 iU) t218 _ A8.out) fun nd=>?_)|((with_reducible refine cZ 77 rfl ?_);refine mM 27 rfl Tryz.func77 (bD.calls t218 true _ A9.out) fun nd=>?_));go_roundg k2
        case measure=>have:=tC.out;have:=tO.out;omega
        case rel=>exact⟨(wrap64 ((wrap64 (iG*16))+((t218-48)%256))),(wrap64 (iU+1)),bR,bR,H,⟨Fj⟩,iL⟩
       ·replace H:=gI H;rcases H with⟨-,oV,-,H⟩|⟨-,oV,-,H⟩
        ·replace H:=gI H;rcases H with⟨-,nS,-,H⟩|⟨-,nS,-,H⟩
         ·replace H:=aa.mk H;have p7:0<=(iU:Int):=ay bM;have q7:iU<(a0.size:Int):=ay bM;have hx7:=bO a0 iU;replace p7:=eq_true p7;replace q7:=eq_true q7;go_wp2_with(first|((with_reducible refine cZ 125 rfl ?_);refine mM 24 rfl Tryz.func125 (jk.calls (bt a0 iU) t218 _ A8.out) fun nd=>?_)|((with_reducible refine cZ 77 rfl ?_);refine mM 27 rfl Tryz.func77 (bD.calls t218 false _ A9.out) fun nd=>?_));go_roundg k2
          case measure=>have:=tC.out;have:=tO.out;omega
          case rel=>exact⟨(wrap64 ((wrap64 ((wrap64 (iG*16))+((t218-97)%256)))+10)),(wrap64 (iU+1)),bR,bR,H,⟨Fj⟩,iL⟩
         ·simp only[Option.some.injEq,Prod.mk.injEq] at H;obtain⟨rfl,rfl⟩:=H;have p7:0<=(iU:Int):=ay bM;have q7:iU<(a0.size:Int):=ay bM;have hx7:=bO a0 iU;replace p7:=eq_true p7;replace q7:=eq_true q7;exact dN.e0
        ·simp only[Option.some.injEq,Prod.mk.injEq] at H;obtain⟨rfl,rfl⟩:=H;have p7:0<=(iU:Int):=ay bM;have q7:iU<(a0.size:Int):=ay bM;have hx7:=bO a0 iU;replace p7:=eq_true p7;replace q7:=eq_true q7;exact dN.e0
      ·simp only[Option.some.injEq,Prod.mk.injEq] at H;obtain⟨rfl,rfl⟩:=H;go_wp2;go_ret2;exact⟨bR,iL⟩

def fH.l0 : Nat->ByteArray->Int->Int->Option (Bool)
 |0,_,_,_=>none
 |k+1,x0,x1,x5=>if x5<(x0.size:Int) then(if 0<=x5 then(if(bt x0 x5)=x1 then(some true) else(fH.l0 k x0 x1 (wrap64 (x5+1)))) else(none)) else(some false)
def fH.f (k:Nat) (a0:ByteArray) (a1:Int):Option (Bool):=fH.l0 k a0 a1 0
theorem fH.OH : ∀ k,(∀ y0 y1 y2,xC (fH.l0 k y0 y1 y2) (fH.l0 (k+1) y0 y1 y2))
 |0=>fun _ _ _ r h=>by simp[fH.l0] at h
 |k+1=>by
  have ih0:=fH.OH k
  ·intro y0 y1 y2
   unfold fH.l0
   repeat' first|(with_reducible first|exact ih0 ..|exact xC.refl ..|exact xC.none ..|refine xC.ite ?_ ?_|refine xC.bind ?_ (fun _=>?_))|exact ih0 ..
theorem fH.mono : ∀ a0 a1 k,xC (fH.f k a0 a1) (fH.f (k+1) a0 a1):=by
 intro a0 a1 k
 have ih0:=fH.OH k
 unfold fH.f
 repeat' first|(with_reducible first|exact ih0 ..|exact xC.refl ..|exact xC.none ..|refine xC.ite ?_ ?_|refine xC.bind ?_ (fun _=>?_))|exact ih0 ..
theorem fH.calls (k:Nat) (a0:ByteArray) (a1:Int) (r:Bool) (w:World) (h:fH.f k a0 a1=some r) :
  Calls Tryz.prog 186 #[.string a0,.int .u8 a1] w fun e w'=>e = .returned (.bool r)/\bH w w':=by
 have H:=aa.mk h;clear h;unfold fH.f at H;go_enter Tryz.func186,Tryz.ntmps186;go_wp2;go_loopg [5] k (fun kq v5 w'=>∃(bu:Int),v5 = .int .i64 bu/\aa (fH.l0 kq a0 a1 bu=some r)/\aa (kq<=k)/\bH w w')
 case atStart=>exact⟨(0),bR,H,⟨Nat.le_refl _⟩,iL⟩
 case round=>
  clear H;obtain⟨bu,rfl,HA,ig,⟨m1,rfl⟩⟩:=hrel;cases gk with
  |zero=>exact absurd HA.out (by simp[fH.l0])
  |succ k1=>
   have H:=HA;clear HA;simp only[fH.l0] at H;rcases jw H with⟨-,cB,-,H⟩|⟨-,cB,-,H⟩
   ·obtain⟨-,jr,-,H⟩:=nZ H;rcases jw H with⟨c6,-,-,H⟩|⟨c6,-,-,H⟩
    ·obtain⟨jy,pq⟩:=kT c6;clear c6;obtain rfl:=aI H.out;have p5:0<=(bu:Int):=ay bM;have q5:bu<(a0.size:Int):=ay bM;have hx5:=bO a0 bu;replace p5:=eq_true p5;replace q5:=eq_true q5;go_wp2;go_ret;exact⟨bR,iL⟩
    ·obtain⟨jy,pq⟩:=kU c6;have p5:0<=(bu:Int):=ay bM;have q5:bu<(a0.size:Int):=ay bM;have hx5:=bO a0 bu;replace p5:=eq_true p5;replace q5:=eq_true q5;go_wp2;go_roundg k1
     case measure=>have:=ig.out;omega
     case rel=>exact⟨(wrap64 (bu+1)),bR,H,⟨by have:=ig.out;omega⟩,iL⟩
   ·obtain rfl:=aI H.out;go_wp2;go_ret;exact⟨bR,iL⟩


def gH.f (k:Nat) (a0:Int):Option (Bool):=(jk.f a0).bind fun am2=>(if am2>=97 then(if am2<=122 then(some true) else((bD.f a0).bind fun aAF=>(if aAF=true then(some true) else(if a0=96 then(some true) else((fH.f k (⟨#[33,35,36,37,38,39,42,43,45,46,94,95,124,126]⟩:af) a0).bind fun arA=>(some arA)))))) else((bD.f a0).bind fun aAG=>(if aAG=true then(some true) else(if a0=96 then(some true) else((fH.f k (⟨#[33,35,36,37,38,39,42,43,45,46,94,95,124,126]⟩:af) a0).bind fun arB=>(some arB))))))
theorem gH.mono : ∀ a0 k,xC (gH.f k a0) (gH.f (k+1) a0):=by
 intro a0 k
 unfold gH.f
 repeat' first|(with_reducible first|exact fH.mono ..|exact xC.refl ..|exact xC.none ..|refine xC.ite ?_ ?_|refine xC.bind ?_ (fun _=>?_))
theorem gH.e0 {p:Prop} (h:p:=by
  obtain rfl:=aI H.out
  go_enter Tryz.func145,Tryz.ntmps145
  go_wp2_with(first|((with_reducible refine cZ 125 rfl ?_);refine mM 5 rfl Tryz.func125 (jk.calls a0 am2 _ A2.out) fun nd=>?_)|(go_at_call 77;(with_reducible refine(bD.calls a0 false _ A9.out).mono ?_);rintro e w' ⟨rfl,⟨nd,rfl⟩⟩)|(go_at_call 186;(with_reducible refine(fH.calls k (⟨#[33,35,36,37,38,39,42,43,45,46,94,95,124,126]⟩:af) a0 arB _ JR.out).mono ?_);rintro e w' ⟨rfl,⟨nd,rfl⟩⟩)|(go_at_call 77;(with_reducible refine(bD.calls a0 true _ A9.out).mono ?_);rintro e w' ⟨rfl,⟨nd,rfl⟩⟩)|(go_at_call 77;(with_reducible refine(bD.calls a0 false _ A5.out).mono ?_);rintro e w' ⟨rfl,⟨nd,rfl⟩⟩)|(go_at_call 186;(with_reducible refine(fH.calls k (⟨#[33,35,36,37,38,39,42,43,45,46,94,95,124,126]⟩:af) a0 arA _ A8.out).mono ?_);rintro e w' ⟨rfl,⟨nd,rfl⟩⟩)|(go_at_call 77;(with_reducible refine(bD.calls a0 true _ A5.out).mono ?_);rintro e w' ⟨rfl,⟨nd,rfl⟩⟩))
  go_ret
  exact⟨bR,iL⟩):p:=h
theorem gH.calls (k:Nat) (a0:Int) (r:Bool) (w:World) (h:gH.f k a0=some r) :
  Calls Tryz.prog 145 #[.int .u8 a0] w fun e w'=>e = .returned (.bool r)/\bH w w':=by
 have H:=aa.mk h;clear h;unfold gH.f at H;obtain⟨am2,A2,H⟩:=nP H;rcases jw H with⟨-,cB,-,H⟩|⟨-,cB,-,H⟩
 ·rcases jw H with⟨-,jr,-,H⟩|⟨-,jr,-,H⟩
  ·exact gH.e0
  ·rcases lu H with⟨A5,H⟩|⟨A5,H⟩
   ·exact gH.e0
   ·rcases jw H with⟨c7,-,-,H⟩|⟨c7,-,-,H⟩
    ·obtain⟨nR,Ag⟩:=kT c7;clear c7;exact gH.e0
    ·obtain⟨nR,Ag⟩:=kU c7;obtain⟨arA,A8,H⟩:=nP H;exact gH.e0
 ·rcases lu H with⟨A9,H⟩|⟨A9,H⟩
  ·exact gH.e0
  ·rcases jw H with⟨c11,-,-,H⟩|⟨c11,-,-,H⟩
   ·obtain⟨oV,Aq⟩:=kT c11;clear c11;exact gH.e0
   ·obtain⟨oV,Aq⟩:=kU c11;obtain⟨arB,JR,H⟩:=nP H;exact gH.e0

mutual
def eU.j0 : Nat->ByteArray->Bool->Option (Bool)
 |0,_,_=>none
 |k+1,x0,x11=>if x11=true then(some false) else(eU.l0 k x0 0)
def eU.l0 : Nat->ByteArray->Int->Option (Bool)
 |0,_,_=>none
 |k+1,x0,x3=>if x3<(x0.size:Int) then(if 0<=x3 then((gH.f k (bt x0 x3)).bind fun aAH=>(if aAH=true then(eU.l0 k x0 (wrap64 (x3+1))) else(some false))) else(none)) else(some true)
end
def eU.f (k:Nat) (a0:ByteArray):Option (Bool):=if(a0.size:Int)=0 then(eU.j0 k a0 true) else(eU.j0 k a0 (decide ((a0.size:Int)>4000)))
theorem eU.calls (k:Nat) (a0:ByteArray) (r:Bool) (w:World) (h:eU.f k a0=some r) :
  Calls Tryz.prog 97 #[.string a0] w fun e w'=>e = .returned (.bool r)/\bH w w':=by
 have H:=h;clear h;unfold eU.f at H;have qz:=aa.mk H;clear H;go_enter Tryz.func97,Tryz.ntmps97;go_upto_region 1 with(fail);go_cut [11] (fun v11 wc=>∃(kq:Nat) (Oz:Bool),v11 = .bool Oz/\aa (eU.j0 kq a0 Oz=some r)/\aa (kq<=k)/\bH w wc)
 case first=>
  have H:=qz.out;clear qz;replace H:=gI H;rcases H with⟨c3,-,-,H⟩|⟨c3,-,-,H⟩
  ·obtain⟨cB,nE⟩:=kT c3;clear c3;(first|rw[cB]|(simp only[dU,fK];rw[cB])|skip)
   replace H:=aa.mk H;go_wp2;go_meet
   case rel=>exact⟨_,(true),bR,H,⟨tT⟩,iL⟩
  ·obtain⟨cB,nE⟩:=kU c3;(first|rw[cB]|(simp only[dU,fK];rw[cB])|skip)
   replace H:=aa.mk H;go_wp2;go_meet
   case rel=>exact⟨_,(decide ((a0.size:Int)>4000)),bR,H,⟨tT⟩,iL⟩
 case rest=>
  clear qz;obtain⟨kq,Oz,rfl,HA,tC,⟨mc1,rfl⟩⟩:=hcut;cases kq with
  |zero=>exact absurd HA.out (by simp[eU.j0])
  |succ oz=>
   have H:=HA.out;clear HA;simp only[eU.j0] at H;replace H:=gB H;rcases H with⟨rfl,H⟩|⟨rfl,H⟩
   ·obtain rfl:=aI H;go_wp2;go_ret;exact⟨bR,iL⟩
   ·replace H:=aa.mk H;go_wp2;go_loopg [3] oz (fun kq v3 w'=>∃(lZ:Int),v3 = .int .i64 lZ/\aa (eU.l0 kq a0 lZ=some r)/\aa (kq<=oz)/\bH w w')
    case atStart=>exact⟨(0),bR,H,⟨Nat.le_refl _⟩,iL⟩
    case round=>
     clear H;obtain⟨lZ,rfl,HA,tO,⟨m2,rfl⟩⟩:=hrel;cases gk with
     |zero=>exact absurd HA.out (by simp[eU.l0])
     |succ k2=>
      have H:=HA.out;clear HA;simp only[eU.l0] at H;replace H:=gI H;rcases H with⟨-,jV,-,H⟩|⟨-,jV,-,H⟩
      ·replace H:=gN H;obtain⟨-,jy,-,H⟩:=H;replace H:=xE H;rcases H with⟨A8,H⟩|⟨A8,H⟩
       ·replace H:=aa.mk H;have p7:0<=(lZ:Int):=ay bM;have q7:lZ<(a0.size:Int):=ay bM;have hx7:=bO a0 lZ;replace p7:=eq_true p7;replace q7:=eq_true q7;go_wp2_with(((with_reducible refine cZ 145 rfl ?_);refine mM 21 rfl Tryz.func145 (gH.calls k2 (bt a0 lZ) true _ A8.out) fun nd=>?_));go_roundg k2
        case measure=>have:=tC.out;have:=tO.out;omega
        case rel=>exact⟨(wrap64 (lZ+1)),bR,H,⟨Fj⟩,iL⟩
       ·obtain rfl:=aI H;have p7:0<=(lZ:Int):=ay bM;have q7:lZ<(a0.size:Int):=ay bM;have hx7:=bO a0 lZ;replace p7:=eq_true p7;replace q7:=eq_true q7;go_wp2_with(((with_reducible refine cZ 145 rfl ?_);refine mM 21 rfl Tryz.func145 (gH.calls k2 (bt a0 lZ) false _ A8.out) fun nd=>?_));go_ret;exact⟨bR,iL⟩
      ·obtain rfl:=aI H;go_wp2;go_ret;exact⟨bR,iL⟩

def lh.f (a0:Int):Option (Bool):=if a0=9 then(some true) else(if a0>=32 then(some (a0 != 127)) else(some false))
theorem lh.calls (a0:Int) (r:Bool) (w:World) (h:lh.f a0=some r) :
  Calls Tryz.prog 146 #[.int .u8 a0] w fun e w'=>e = .returned (.bool r)/\bH w w':=by
 have H:=aa.mk h;clear h;unfold lh.f at H;rcases jw H with⟨c2,-,-,H⟩|⟨c2,-,-,H⟩
 ·obtain⟨jc,nD⟩:=kT c2;clear c2;obtain rfl:=aI H.out;go_enter Tryz.func146,Tryz.ntmps146;go_wp2;go_ret;exact⟨bR,iL⟩
 ·obtain⟨jc,nD⟩:=kU c2;rcases jw H with⟨-,cB,-,H⟩|⟨-,cB,-,H⟩
  ·obtain rfl:=aI H.out;go_enter Tryz.func146,Tryz.ntmps146;go_wp2;go_ret;exact⟨bR,iL⟩
  ·obtain rfl:=aI H.out;go_enter Tryz.func146,Tryz.ntmps146;go_wp2;go_ret;exact⟨bR,iL⟩


def nk.f (a0:Int):Option (Bool):=if a0=32 then(some true) else(some (a0==9))
theorem nk.calls (a0:Int) (r:Bool) (w:World) (h:nk.f a0=some r) :
  Calls Tryz.prog 147 #[.int .u8 a0] w fun e w'=>e = .returned (.bool r)/\bH w w':=by
 have H:=aa.mk h;clear h;unfold nk.f at H;rcases jw H with⟨c2,-,-,H⟩|⟨c2,-,-,H⟩
 ·obtain⟨jc,nD⟩:=kT c2;clear c2;obtain rfl:=aI H.out;go_enter Tryz.func147,Tryz.ntmps147;go_wp2;go_ret;exact⟨bR,iL⟩
 ·obtain⟨jc,nD⟩:=kU c2;obtain rfl:=aI H.out;go_enter Tryz.func147,Tryz.ntmps147;go_wp2;go_ret;exact⟨bR,iL⟩

mutual
def cu.j1 : Nat->ByteArray->Int->Option (ByteArray)
 |0,_,_=>none
 |k+1,x0,x3=>cu.l1 k x0 x3 (x0.size:Int)
def cu.l1 : Nat->ByteArray->Int->Int->Option (ByteArray)
 |0,_,_,_=>none
 |k+1,x0,x3,x4=>if x4>x3 then(if 0<=(wrap64 (x4-1)) then(if(wrap64 (x4-1))<(x0.size:Int) then((nk.f (bt x0 (wrap64 (x4-1)))).bind fun aAI=>(if aAI=true then(cu.l1 k x0 x3 (wrap64 (x4-1))) else(if 0<=x3 then(if x3<=x4 then(if x4<=(x0.size:Int) then(some (x0.extract (x3:Int).toNat (x4:Int).toNat)) else(none)) else(none)) else(none)))) else(none)) else(none)) else(if 0<=x3 then(if x3<=x4 then(if x4<=(x0.size:Int) then(some (x0.extract (x3:Int).toNat (x4:Int).toNat)) else(none)) else(none)) else(none))
def cu.l0 : Nat->ByteArray->Int->Option (ByteArray)
 |0,_,_=>none
 |k+1,x0,x3=>if x3<(x0.size:Int) then(if 0<=x3 then((nk.f (bt x0 x3)).bind fun aAJ=>(if aAJ=true then(cu.l0 k x0 (wrap64 (x3+1))) else(cu.j1 k x0 x3))) else(none)) else(cu.j1 k x0 x3)
end
def cu.f (k:Nat) (a0:ByteArray):Option (ByteArray):=cu.l0 k a0 0
theorem cu.calls (k:Nat) (a0 r:ByteArray) (w:World) (h:cu.f k a0=some r) :
  Calls Tryz.prog 99 #[.string a0] w fun e w'=>e = .returned (.string r)/\bH w w':=by
 have H:=aa.mk h;clear h;unfold cu.f at H;have qz:=H;clear H;go_enter Tryz.func99,Tryz.ntmps99;go_upto_block 0 with(fail);go_cut [3] (fun v3 wc=>∃(kq:Nat) (dD:Int),v3 = .int .i64 dD/\aa (cu.j1 kq a0 dD=some r)/\aa (kq<=k)/\bH w wc)
 case first=>
  have H:=qz;clear qz;go_wp2;go_loopg [3] k (fun kq v3 w'=>∃(dD:Int),v3 = .int .i64 dD/\aa (cu.l0 kq a0 dD=some r)/\aa (kq<=k)/\bH w w')
  case atStart=>exact⟨(0),bR,H,⟨Nat.le_refl _⟩,iL⟩
  case round=>
   clear H;obtain⟨dD,rfl,HA,ig,⟨m1,rfl⟩⟩:=hrel;cases gk with
   |zero=>exact absurd HA.out (by simp[cu.l0])
   |succ k1=>
    have H:=HA;clear HA;simp only[cu.l0] at H;rcases jw H with⟨-,cB,-,H⟩|⟨-,cB,-,H⟩
    ·(first|rw[cB]|(simp only[dU,fK];rw[cB])|skip)
     obtain⟨-,jr,-,H⟩:=nZ H;rcases lu H with⟨A6,H⟩|⟨A6,H⟩
     ·have p5:0<=(dD:Int):=ay bM;have q5:dD<(a0.size:Int):=ay bM;have hx5:=bO a0 dD;replace p5:=eq_true p5;replace q5:=eq_true q5;go_wp2_with((go_at_call 147;(with_reducible refine(nk.calls (bt a0 dD) true _ A6.out).mono ?_);rintro e w' ⟨rfl,⟨nd,rfl⟩⟩));go_roundg k1
      case measure=>have:=ig.out;omega
      case rel=>exact⟨(wrap64 (dD+1)),bR,H,⟨by have:=ig.out;omega⟩,iL⟩
     ·have p5:0<=(dD:Int):=ay bM;have q5:dD<(a0.size:Int):=ay bM;have hx5:=bO a0 dD;replace p5:=eq_true p5;replace q5:=eq_true q5;go_wp2_with((go_at_call 147;(with_reducible refine(nk.calls (bt a0 dD) false _ A6.out).mono ?_);rintro e w' ⟨rfl,⟨nd,rfl⟩⟩));go_meet
      case rel=>exact⟨_,(dD),bR,H,⟨Md⟩,iL⟩
    ·(first|rw[cB]|(simp only[dU,fK];rw[cB])|skip)
     go_wp2;go_meet
     case rel=>exact⟨_,(dD),bR,H,⟨Md⟩,iL⟩
 case rest=>
  clear qz;obtain⟨kq,dD,rfl,HA,tC,⟨mc1,rfl⟩⟩:=hcut;cases kq with
  |zero=>exact absurd HA.out (by simp[cu.j1])
  |succ oz=>
   have H:=HA;clear HA;simp only[cu.j1] at H;go_wp2;go_loopg [4] oz (fun kq v4 w'=>∃(iG:Int),v4 = .int .i64 iG/\aa (cu.l1 kq a0 dD iG=some r)/\aa (kq<=oz)/\bH w w')
   case atStart=>exact⟨((a0.size:Int)),bR,H,⟨Nat.le_refl _⟩,iL⟩
   case round=>
    clear H;obtain⟨iG,rfl,HA,tO,⟨m2,rfl⟩⟩:=hrel;cases gk with
    |zero=>exact absurd HA.out (by simp[cu.l1])
    |succ k2=>
     have H:=HA;clear HA;simp only[cu.l1] at H;rcases jw H with⟨-,mU,-,H⟩|⟨-,mU,-,H⟩
     ·obtain⟨ji9,QP⟩:∃ j_:Int,(wrap64 (iG-1))=j_:=⟨_,rfl⟩;(first|rw[QP] at H|simp only[QP] at H ⊢)
      have aD0:(IntKind.i64.wrap (iG-1))=ji9:=(dU _).trans QP;obtain⟨-,pX,-,H⟩:=nZ H;obtain⟨-,oV,-,H⟩:=nZ H;rcases lu H with⟨K5,H⟩|⟨K5,H⟩
      ·have SF:0<=((ji9):Int):=ay bM;have SG:(ji9)<(a0.size:Int):=ay bM;have aej:=bO a0 (ji9);replace SF:=eq_true SF;replace SG:=eq_true SG;go_wp2_with((go_at_call 147;(with_reducible refine(nk.calls (bt a0 (ji9)) true _ K5.out).mono ?_);rintro e w' ⟨rfl,⟨nd,rfl⟩⟩));go_roundg k2
       case measure=>have:=tC.out;have:=tO.out;omega
       case rel=>exact⟨(ji9),(by first|rfl|(simp;done)|(simp only[<- QP] <;> (first|rfl|simp))|(simp[*];done)),H,⟨Fj⟩,iL⟩
      ·obtain⟨-,Dh,sQ,H⟩:=nZ H;obtain⟨-,Bu,sS,H⟩:=nZ H;obtain⟨-,Az,sP,H⟩:=nZ H;obtain rfl:=aI H.out;have SF:0<=((ji9):Int):=ay bM;have SG:(ji9)<(a0.size:Int):=ay bM;have aej:=bO a0 (ji9);replace SF:=eq_true SF;replace SG:=eq_true SG;go_wp2_with((go_at_call 147;(with_reducible refine(nk.calls (bt a0 (ji9)) false _ K5.out).mono ?_);rintro e w' ⟨rfl,⟨nd,rfl⟩⟩));go_ret;exact⟨by first|rfl|(simp;done)|(simp only[<- QP] <;> (first|rfl|simp))|(simp[*];done),iL⟩
     ·rcases jw H with⟨-,acE,FP,H⟩|⟨c18,-,-,H⟩
      ·obtain⟨-,Eh,yG,H⟩:=nZ H;obtain⟨-,Dl,uu,H⟩:=nZ H;obtain rfl:=aI H.out;go_wp2;go_ret;exact⟨bR,iL⟩
      ·exact absurd H.out (by simp)

def oo.f (a0:ByteArray) (a1:ByteArray):Option (Bool):=(il.f a0).bind fun ait=>((il.f a1).bind fun aiu=>(some (ait.toList==aiu.toList)))
theorem oo.calls (a0 a1:ByteArray) (r:Bool) (w:World) (h:oo.f a0 a1=some r) :
  Calls Tryz.prog 120 #[.string a0,.string a1] w fun e w'=>e = .returned (.bool r)/\Below w.heap.size w w':=by
 have HB:=aa.mk (Below.refl w.heap.size w);have H:=aa.mk h;clear h;unfold oo.f at H;obtain⟨ait,A3,H⟩:=nP H;obtain⟨aiu,A4,H⟩:=nP H;obtain rfl:=aI H.out;go_enter Tryz.func120,Tryz.ntmps120;go_wp2_with(first|((with_reducible refine cZ 83 rfl ?_);refine iW 6 rfl Tryz.func83 (il.calls a0 ait _ A3.out) fun w5 hb HB=>?_;clear hb)|((with_reducible refine cZ 83 rfl ?_);refine iW 8 rfl Tryz.func83 (il.calls a1 aiu _ A4.out) fun w6 hb HB=>?_;clear hb));go_ret;exact⟨jv,aX⟩


mutual
def bC.l0 : Nat->ByteArray->List ByteArray->Int->Bool->Int->Option (List ByteArray)
 |0,_,_,_,_,_=>none
 |k+1,x0,x3,x4,x5,x6=>if x6<=(x0.size:Int) then(if x6=(x0.size:Int) then(bC.j1 k x0 x3 x4 x5 x6 true) else(if x5=true then(bC.j1 k x0 x3 x4 x5 x6 false) else(if 0<=x6 then(if x6<(x0.size:Int) then(bC.j1 k x0 x3 x4 x5 x6 ((bt x0 x6)==44)) else(none)) else(none)))) else(some x3)
def bC.j1 : Nat->ByteArray->List ByteArray->Int->Bool->Int->Bool->Option (List ByteArray)
 |0,_,_,_,_,_,_=>none
 |k+1,x0,x3,x4,x5,x6,x30=>if x30=true then(if 0<=x4 then(if x4<=x6 then(if x6<=(x0.size:Int) then((cu.f k (x0.extract (x4:Int).toNat (x6:Int).toNat)).bind fun Du=>(if(Du.size:Int)>0 then(if x3.length<8796093022208 then(bC.l0 k x0 (x3 ++ [Du]) (wrap64 (x6+1)) x5 (wrap64 (x6+1))) else(none)) else(bC.l0 k x0 x3 (wrap64 (x6+1)) x5 (wrap64 (x6+1))))) else(none)) else(none)) else(none)) else(if 0<=x6 then(if x6<(x0.size:Int) then(if(bt x0 x6)=34 then(bC.l0 k x0 x3 x4 (!x5) (wrap64 (x6+1))) else(if x5=true then(if(bt x0 x6)=92 then(if(wrap64 (x6+1))<(x0.size:Int) then(bC.l0 k x0 x3 x4 x5 (wrap64 ((wrap64 (x6+1))+1))) else(bC.l0 k x0 x3 x4 x5 (wrap64 (x6+1)))) else(bC.l0 k x0 x3 x4 x5 (wrap64 (x6+1)))) else(bC.l0 k x0 x3 x4 x5 (wrap64 (x6+1))))) else(none)) else(none))
end
def bC.f (k:Nat) (a0:ByteArray):Option (List ByteArray):=if(a0.size:Int)>4000 then(some ([]:List ByteArray)) else(bC.l0 k a0 ([]:List ByteArray) 0 false 0)
theorem bC.e0 {p:Prop} (h:p:=by
  replace H:=aa.mk H
  have p20:0<=(jl:Int):=ay bM
  have q20:jl<(a0.size:Int):=ay bM
  have arC:=bO a0 jl
  replace p20:=eq_true p20
  replace q20:=eq_true q20
  have p23:0<=(jl:Int):=ay bM
  have q23:jl<(a0.size:Int):=ay bM
  have arD:=bO a0 jl
  replace p23:=eq_true p23
  replace q23:=eq_true q23
  go_wp2
  go_roundg kj3
  case measure=>have:=ig.out;have:=HJ3.out;omega
  case rel=>exact⟨(dD),(dH),(true),(wrap64 (jl+1)),bR,bR,bR,H,⟨adv⟩,⟨qE⟩,⟨aX⟩⟩):p:=h
theorem bC.calls (k:Nat) (a0:ByteArray) (r:List ByteArray) (w:World) (h:bC.f k a0=some r) :
  Calls Tryz.prog 122 #[.string a0] w fun e w'=>∃ Df:Value,e = .returned (Df)/\Kd.R Kd.string 9 w' w.heap.size (fun _=>True) Df r/\Below w.heap.size w w':=by
 have HB:=aa.mk (Below.refl w.heap.size w);have H:=h;clear h;unfold bC.f at H;replace H:=gI H;rcases H with⟨c2,-,-,H⟩|⟨c2,-,-,H⟩
 ·have jc:decide (4000<(a0.size:Int))=true:=bK c2;have nD:decide (4000<a0.size)=true:=bK ae;clear c2;obtain rfl:=aI H;go_enter Tryz.func122,Tryz.ntmps122;go_wp2;go_ret;exact⟨_,jv,Hz,aX⟩
 ·have jc:decide (4000<(a0.size:Int))=false:=bQ c2;have nD:decide (4000<a0.size)=false:=bQ ae;clear c2;replace H:=aa.mk H;go_enter Tryz.func122,Tryz.ntmps122;go_wp2;go_loopg [3,4,5,6] k (fun kq v3 v4 v5 v6 w'=>∃(dD:List ByteArray) (dH:Int) (bu:Bool) (jl:Int),v4 = .int .i64 dH/\v5 = .bool bu/\v6 = .int .i64 jl/\aa (bC.l0 kq a0 dD dH bu jl=some r)/\aa (kq<=k)/\aa (Kd.R Kd.string 9 w' w.heap.size (fun _=>True) v3 dD)/\aa (Below w.heap.size w w'))
  case atStart=>exact⟨(([]:List ByteArray)),(0),(false),(0),bR,bR,bR,H,⟨Nat.le_refl _⟩,⟨Hz⟩,⟨aX⟩⟩
  case round=>
   clear H;try clear c2
   try clear jc
   try clear nD
   obtain⟨dD,dH,bu,jl,rfl,rfl,rfl,HA,ig,iV,HB⟩:=hrel;cases gk with
   |zero=>exact absurd HA.out (by simp[bC.l0])
   |succ k1=>
    have H:=HA.out;clear HA;simp only[bC.l0] at H;replace H:=gI H;rcases H with⟨-,cB,-,H⟩|⟨-,cB,-,H⟩
    ·have HC4:=aa.mk H;clear H;go_upto_region 9 with(fail);go_cut [30] (fun v30 wc=>∃(kq:Nat) (aiv:Bool),v30 = .bool aiv/\aa (bC.j1 kq a0 dD dH bu jl aiv=some r)/\aa (kq<=k1)/\aa (Kd.R Kd.string 9 wc w.heap.size (fun _=>True) u3 dD)/\aa (Below w.heap.size w wc))
     case first=>
      have H:=HC4.out;clear HC4;replace H:=gI H;rcases H with⟨c5,-,-,H⟩|⟨c5,-,-,H⟩
      ·obtain⟨jV,rO⟩:=kT c5;clear c5;(first|rw[jV]|(simp only[dU,fK];rw[jV])|skip)
       replace H:=aa.mk H;go_wp2;go_meet
       case rel=>exact⟨_,(true),bR,H,⟨Md⟩,⟨qE⟩,⟨aX⟩⟩
      ·obtain⟨jV,rO⟩:=kU c5;(first|rw[jV]|(simp only[dU,fK];rw[jV])|skip)
       replace H:=gB H;rcases H with⟨rfl,H⟩|⟨rfl,H⟩
       ·replace H:=aa.mk H;go_wp2;go_meet
        case rel=>exact⟨_,(false),bR,H,⟨Md⟩,⟨qE⟩,⟨aX⟩⟩
       ·replace H:=gN H;obtain⟨-,nR,-,H⟩:=H;replace H:=gN H;obtain⟨-,mU,-,H⟩:=H;replace H:=aa.mk H;have p9:0<=(jl:Int):=ay bM;have q9:jl<(a0.size:Int):=ay bM;have hx9:=bO a0 jl;replace p9:=eq_true p9;replace q9:=eq_true q9;go_wp2;go_meet
        case rel=>exact⟨_,(((bt a0 jl)==44)),bR,H,⟨Md⟩,⟨qE⟩,⟨aX⟩⟩
     case rest=>
      clear HC4;try clear c2
      try clear jc
      try clear nD
      try clear cB
      obtain⟨kq,aiv,rfl,HA,HJ3,iV,HB⟩:=hcut;cases kq with
      |zero=>exact absurd HA.out (by simp[bC.j1])
      |succ kj3=>
       have H:=HA.out;clear HA;simp only[bC.j1] at H;replace H:=gB H;rcases H with⟨rfl,H⟩|⟨rfl,H⟩
       ·replace H:=gN H;obtain⟨-,Aq,oV,H⟩:=H;replace H:=gN H;obtain⟨-,yH,nS,H⟩:=H;replace H:=gN H;obtain⟨-,wo,qG,H⟩:=H;replace H:=gD H;obtain⟨Du,A14,H⟩:=H;replace H:=gI H;rcases H with⟨c15,-,-,H⟩|⟨c15,-,-,H⟩
        ·have sQ:decide (0<(Du.size:Int))=true:=bK c15;have Dh:decide (0<Du.size)=true:=bK ae;clear c15;replace H:=gN H;obtain⟨c16,-,-,H⟩:=H;have av5:=aa.mk c16;clear c16;obtain⟨aoS,Pt⟩:∃ y_:List ByteArray,y_=(dD ++ [Du]):=⟨_,rfl⟩;replace H:(bC.l0 kj3 a0 aoS (wrap64 (jl+1)) bu (wrap64 (jl+1)))=some r:=by first|(rw[Pt];with_reducible exact H)|(have kP:=(ax _ _).symm.trans H;rw[Pt];with_reducible exact kP)|(have kP:=(ax _ _).symm.trans H;with_reducible exact kP)|with_reducible exact H|(rw[Pt];exact H)|exact H
         have arE:=aa.mk Pt;clear Pt;replace H:=aa.mk H;go_wp2_with(first|((with_reducible refine cZ 99 rfl ?_);refine mM 35 rfl Tryz.func99 (cu.calls kj3 (a0.extract (dH:Int).toNat (jl:Int).toNat) Du _ A14.out) fun nd=>?_)|((with_reducible refine fO (b:=.append) (xs:=#[.tmp 39,.tmp 41]) rfl ?_);(try(refine kK (by rfl) ?_;dsimp only));at_builtin;refine Kd.kJ Kd.string (w0:=w) w.heap.size rfl (.tmp 39) (.tmp 41) 76 9 (.string ⟨#[]⟩) 16 rfl Tryz.underlying76 Bg rfl aA ae u3 dD Du [.string Du] (fun _=>True) (fun _=>False) rfl rfl ?aP (fun _ hk=>hk.elim) ?aF ?aO ?aB ?aS ?aL ?_;(case aP=>exact rfl);(case aB=>exact aX);(case aF=>exact(fun _ _=>trivial));(case aO=>exact Ma);(case aS=>exact(aN aX));(case aL=>have:=av5.out;omega);intro aD1 gG ho hb hg hat;rw[<- arE.out] at ho;have Ea:=aa.mk (hb);have Eb:=aa.mk (ho);clear HB;clear iV;have HB:=Ea;have aAK:=Eb;clear Ea Eb;clear ho hb hg hat));go_roundg kj3
         case measure=>have:=ig.out;have:=HJ3.out;omega
         case rel=>exact⟨(aoS),(wrap64 (jl+1)),(bu),(wrap64 (jl+1)),bR,bR,bR,H,⟨adv⟩,⟨qE⟩,⟨aX⟩⟩
        ·have sQ:decide (0<(Du.size:Int))=false:=bQ c15;have Dh:decide (0<Du.size)=false:=bQ ae;clear c15;replace H:=aa.mk H;go_wp2_with(((with_reducible refine cZ 99 rfl ?_);refine mM 35 rfl Tryz.func99 (cu.calls kj3 (a0.extract (dH:Int).toNat (jl:Int).toNat) Du _ A14.out) fun nd=>?_));go_roundg kj3
         case measure=>have:=ig.out;have:=HJ3.out;omega
         case rel=>exact⟨(dD),(wrap64 (jl+1)),(bu),(wrap64 (jl+1)),bR,bR,bR,H,⟨adv⟩,⟨qE⟩,⟨aX⟩⟩
       ·replace H:=gN H;obtain⟨-,FP,-,H⟩:=H;replace H:=gN H;obtain⟨-,yG,-,H⟩:=H;replace H:=gI H;rcases H with⟨c21,-,-,H⟩|⟨c21,-,-,H⟩
        ·obtain⟨uw,Dm⟩:=kT c21;clear c21;replace H:=aa.mk H;have p20:0<=(jl:Int):=ay bM;have q20:jl<(a0.size:Int):=ay bM;have arC:=bO a0 jl;replace p20:=eq_true p20;replace q20:=eq_true q20;go_wp2;go_roundg kj3
         case measure=>have:=ig.out;have:=HJ3.out;omega
         case rel=>exact⟨(dD),(dH),(!bu),(wrap64 (jl+1)),bR,bR,bR,H,⟨adv⟩,⟨qE⟩,⟨aX⟩⟩
        ·obtain⟨uw,Dm⟩:=kU c21;replace H:=gB H;rcases H with⟨rfl,H⟩|⟨rfl,H⟩
         ·replace H:=gI H;rcases H with⟨c24,-,-,H⟩|⟨c24,-,-,H⟩
          ·obtain⟨yI,IX⟩:=kT c24;clear c24;replace H:=gI H;rcases H with⟨-,wz,-,H⟩|⟨-,wz,-,H⟩
           ·replace H:=aa.mk H;have p20:0<=(jl:Int):=ay bM;have q20:jl<(a0.size:Int):=ay bM;have arC:=bO a0 jl;replace p20:=eq_true p20;replace q20:=eq_true q20;have p23:0<=(jl:Int):=ay bM;have q23:jl<(a0.size:Int):=ay bM;have arD:=bO a0 jl;replace p23:=eq_true p23;replace q23:=eq_true q23;go_wp2;go_roundg kj3
            case measure=>have:=ig.out;have:=HJ3.out;omega
            case rel=>exact⟨(dD),(dH),(true),(wrap64 ((wrap64 (jl+1))+1)),bR,bR,bR,H,⟨adv⟩,⟨qE⟩,⟨aX⟩⟩
           ·exact bC.e0
          ·obtain⟨yI,IX⟩:=kU c24;exact bC.e0
         ·replace H:=aa.mk H;have p20:0<=(jl:Int):=ay bM;have q20:jl<(a0.size:Int):=ay bM;have arC:=bO a0 jl;replace p20:=eq_true p20;replace q20:=eq_true q20;go_wp2;go_roundg kj3
          case measure=>have:=ig.out;have:=HJ3.out;omega
          case rel=>exact⟨(dD),(dH),(false),(wrap64 (jl+1)),bR,bR,bR,H,⟨adv⟩,⟨qE⟩,⟨aX⟩⟩
    ·obtain rfl:=aI H;go_wp2;go_ret;exact⟨_,jv,qE,aX⟩


mutual
def dE.j0 : Nat->ByteArray->Bool->Option (ByteArray×Bool)
 |0,_,_=>none
 |k+1,x0,x27=>if x27=true then(some ((⟨#[]⟩:af),false)) else(if 1<=(wrap64 ((x0.size:Int)-1)) then(if(wrap64 ((x0.size:Int)-1))<=(x0.size:Int) then(dE.l0 k ([]:List Int) (x0.extract 1 ((wrap64 ((x0.size:Int)-1)):Int).toNat) 0) else(none)) else(none))
def dE.l0 : Nat->List Int->ByteArray->Int->Option (ByteArray×Bool)
 |0,_,_,_=>none
 |k+1,x4,x5,x6=>if x6<(x5.size:Int) then(if 0<=x6 then(if(bt x5 x6)=92 then(if(wrap64 (x6+1))=(x5.size:Int) then(some ((⟨#[]⟩:af),false)) else(if 0<=(wrap64 (x6+1)) then(if(wrap64 (x6+1))<(x5.size:Int) then((lh.f (bt x5 (wrap64 (x6+1)))).bind fun av6=>(if av6=true then(if x4.length<140737488355328 then(dE.l0 k (x4 ++ [bt x5 (wrap64 (x6+1))]) x5 (wrap64 ((wrap64 (x6+1))+1))) else(none)) else(some ((⟨#[]⟩:af),false)))) else(none)) else(none))) else(if(bt x5 x6)=34 then(some ((⟨#[]⟩:af),false)) else((lh.f (bt x5 x6)).bind fun av7=>(if av7=true then(if x4.length<140737488355328 then(dE.l0 k (x4 ++ [bt x5 x6]) x5 (wrap64 (x6+1))) else(none)) else(some ((⟨#[]⟩:af),false)))))) else(none)) else(if(x4.length:Int)>4000 then(some ((⟨#[]⟩:af),false)) else(some (strOfNums x4,true)))
end
def dE.f (k:Nat) (a0:ByteArray):Option (ByteArray×Bool):=if(a0.size:Int)<2 then(dE.j0 k a0 true) else(if(a0.size:Int)>8002 then(dE.j0 k a0 true) else(if 0<(a0.size:Int) then(if(bt a0 0)=34 then(if 0<=(wrap64 ((a0.size:Int)-1)) then(if(wrap64 ((a0.size:Int)-1))<(a0.size:Int) then(dE.j0 k a0 ((bt a0 (wrap64 ((a0.size:Int)-1))) != 34)) else(none)) else(none)) else(dE.j0 k a0 true)) else(none)))
theorem dE.calls (k:Nat) (a0 r1:ByteArray) (r2:Bool) (w:World) (h:dE.f k a0=some (r1,r2)) :
  Calls Tryz.prog 205 #[.string a0] w fun e w'=>e = .returned (.tuple #[.string r1,.bool r2])/\Below w.heap.size w w':=by
 have HB:=aa.mk (Below.refl w.heap.size w);have H:=h;clear h;unfold dE.f at H;have qz:=aa.mk H;clear H;go_enter Tryz.func205,Tryz.ntmps205;go_upto_region 1 with(fail);go_cut [27] (fun v27 wc=>∃(kq:Nat) (Pv:Bool),v27 = .bool Pv/\aa (dE.j0 kq a0 Pv=some (r1,r2))/\aa (kq<=k)/\aa (Below w.heap.size w wc))
 case first=>
  have H:=qz.out;clear qz;replace H:=gI H;rcases H with⟨c3,cB,-,H⟩|⟨c3,cB,-,H⟩
  ·have nE:decide (a0.size<2)=true:=bK ae;clear c3;(first|rw[cB]|(simp only[dU,fK];rw[cB])|skip)
   replace H:=aa.mk H;go_wp2;go_meet
   case rel=>exact⟨_,(true),bR,H,⟨tT⟩,⟨aX⟩⟩
  ·have nE:decide (a0.size<2)=false:=bQ ae;clear c3;(first|rw[cB]|(simp only[dU,fK];rw[cB])|skip)
   replace H:=gI H;rcases H with⟨c4,-,-,H⟩|⟨c4,-,-,H⟩
   ·have jr:decide (8002<(a0.size:Int))=true:=bK c4;have qy:decide (8002<a0.size)=true:=bK ae;clear c4;replace H:=aa.mk H;go_wp2;go_meet
    case rel=>exact⟨_,(true),bR,H,⟨tT⟩,⟨aX⟩⟩
   ·have jr:decide (8002<(a0.size:Int))=false:=bQ c4;have qy:decide (8002<a0.size)=false:=bQ ae;clear c4;replace H:=gN H;obtain⟨c5,jV,-,H⟩:=H;have rO:decide (0<a0.size)=true:=bK ae;clear c5;replace H:=gI H;rcases H with⟨c7,-,-,H⟩|⟨c7,-,-,H⟩
    ·obtain⟨nR,Ag⟩:=kT c7;clear c7;obtain⟨ZU,Wq⟩:∃ j_:Int,(wrap64 ((a0.size:Int)-1))=j_:=⟨_,rfl⟩;(first|rw[Wq] at H|simp only[Wq] at H ⊢)
     have atV:(IntKind.i64.wrap ((a0.size:Int)-1))=ZU:=(dU _).trans Wq;replace H:=gN H;obtain⟨-,pg,-,H⟩:=H;replace H:=gN H;obtain⟨-,pX,-,H⟩:=H;replace H:=aa.mk H;have p6:0<=(0:Int):=ae;have q6:0<a0.size:=(by have:(0:Int)<(a0.size:Int):=ay bM;omega);have hx6:∀ h:0<a0.size,((a0[0]'h).toNat:Int)=bt a0 0:=bO a0 0;clear p6;have qi6:(0<(a0.size:Int))=True:=eq_true (ay bM);replace q6:=eq_true q6;have p11:0<=((ZU):Int):=ay bM;have q11:(ZU)<(a0.size:Int):=ay bM;have atW:=bO a0 (ZU);replace p11:=eq_true p11;replace q11:=eq_true q11;go_wp2;go_meet
     case rel=>exact⟨_,(((bt a0 (ZU)) != 34)),(by first|rfl|(simp;done)|(simp only[<- Wq] <;> (first|rfl|simp))|(simp[*];done)),H,⟨tT⟩,⟨aX⟩⟩
    ·obtain⟨nR,Ag⟩:=kU c7;replace H:=aa.mk H;have p6:0<=(0:Int):=ae;have q6:0<a0.size:=(by have:(0:Int)<(a0.size:Int):=ay bM;omega);have hx6:∀ h:0<a0.size,((a0[0]'h).toNat:Int)=bt a0 0:=bO a0 0;clear p6;have qi6:(0<(a0.size:Int))=True:=eq_true (ay bM);replace q6:=eq_true q6;go_wp2;go_meet
     case rel=>exact⟨_,(true),bR,H,⟨tT⟩,⟨aX⟩⟩
 case rest=>
  clear qz;obtain⟨kq,Pv,rfl,HA,tC,HB⟩:=hcut;cases kq with
  |zero=>exact absurd HA.out (by simp[dE.j0])
  |succ oz=>
   have H:=HA.out;clear HA;simp only[dE.j0] at H;replace H:=gB H;rcases H with⟨rfl,H⟩|⟨rfl,H⟩
   ·simp only[Option.some.injEq,Prod.mk.injEq] at H;obtain⟨rfl,rfl⟩:=H;go_wp2;go_ret2;exact⟨jv,aX⟩
   ·replace H:=gI H;rcases H with⟨-,wo,qG,H⟩|⟨c13,-,-,H⟩
    ·replace H:=gN H;obtain⟨-,Lm,wu,H⟩:=H;replace H:=aa.mk H;go_wp2;generalize(a0.extract 1 ((wrap64 ((a0.size:Int)-1)):Int).toNat)=oC at H ⊢;go_loopg [4,6] oz (fun kq v4 v6 w'=>∃(iG:List Int) (fA:Int),v6 = .int .i64 fA/\aa (dE.l0 kq iG oC fA=some (r1,r2))/\aa (kq<=oz)/\aa (Kd.R (Kd.int .u8) 5 w' w.heap.size (fun _=>True) v4 iG)/\aa (Below w.heap.size w w'))
     case atStart=>exact⟨(([]:List Int)),(0),bR,H,⟨Nat.le_refl _⟩,⟨Hz⟩,⟨aX⟩⟩
     case round=>
      clear H;try clear c13
      try clear qG
      try clear wo
      try clear wu
      try clear Lm
      obtain⟨iG,fA,rfl,HA,tO,rJ,HB⟩:=hrel;cases gk with
      |zero=>exact absurd HA.out (by simp[dE.l0])
      |succ k2=>
       have H:=HA.out;clear HA;simp only[dE.l0] at H;replace H:=gI H;rcases H with⟨-,sQ,-,H⟩|⟨-,sQ,-,H⟩
       ·replace H:=gN H;obtain⟨-,sS,-,H⟩:=H;replace H:=gI H;rcases H with⟨c18,-,-,H⟩|⟨c18,-,-,H⟩
        ·obtain⟨FP,acE⟩:=kT c18;clear c18;replace H:=gI H;rcases H with⟨c19,-,-,H⟩|⟨c19,-,-,H⟩
         ·obtain⟨yG,Eh⟩:=kT c19;clear c19;simp only[Option.some.injEq,Prod.mk.injEq] at H;obtain⟨rfl,rfl⟩:=H;have Sl:0<=(fA:Int):=ay bM;have Sm:fA<(oC.size:Int):=ay bM;have ad9:=bO oC fA;replace Sl:=eq_true Sl;replace Sm:=eq_true Sm;go_wp2;go_ret2;exact⟨jv,aX⟩
         ·obtain⟨yG,Eh⟩:=kU c19;obtain⟨CK,Jr⟩:∃ j_:Int,(wrap64 (fA+1))=j_:=⟨_,rfl⟩;(first|rw[Jr] at H|simp only[Jr] at H ⊢)
          (try rw[Jr] at yG)
          (try rw[Jr] at Eh)
          have aAL:(IntKind.i64.wrap (fA+1))=CK:=(dU _).trans Jr;replace H:=gN H;obtain⟨-,uw,-,H⟩:=H;replace H:=gN H;obtain⟨-,Lg,-,H⟩:=H;replace H:=xE H;rcases H with⟨A24,H⟩|⟨A24,H⟩
          ·replace H:=gN H;obtain⟨YZ,-,-,H⟩:=H;have agK:=aa.mk YZ;clear YZ;obtain⟨aoT,Pw⟩:∃ y_:List Int,y_=(iG ++ [bt oC (CK)]):=⟨_,rfl⟩;replace H:(dE.l0 k2 aoT oC (wrap64 ((CK)+1)))=some (r1,r2):=by first|(rw[Pw];with_reducible exact H)|(have kP:=(ax _ _).symm.trans H;rw[Pw];with_reducible exact kP)|(have kP:=(ax _ _).symm.trans H;with_reducible exact kP)|with_reducible exact H|(rw[Pw];exact H)|exact H
           have arF:=aa.mk Pw;clear Pw;replace H:=aa.mk H;have Sl:0<=(fA:Int):=ay bM;have Sm:fA<(oC.size:Int):=ay bM;have ad9:=bO oC fA;replace Sl:=eq_true Sl;replace Sm:=eq_true Sm;have p23:0<=((CK):Int):=ay bM;have q23:(CK)<(oC.size:Int):=ay bM;have arD:=bO oC (CK);replace p23:=eq_true p23;replace q23:=eq_true q23;go_wp2_with(first|((with_reducible refine cZ 146 rfl ?_);refine nU (some 56) rfl rfl Tryz.func146 dK rfl #[.int .u8 (bt oC (CK))] rfl (by(try simp only[List.map_toArray,List.map_cons,List.map_nil]);first|done|(simp only[Jr];rfl)|rfl|(simp only[List.length_drop,List.length_take];rfl)) ?_;(with_reducible refine(lh.calls (bt oC (CK)) true _ A24.out).mono ?_);rintro e w' ⟨rfl,⟨nd,rfl⟩⟩;refine⟨_,rfl,?_⟩;have p26:0<=((CK):Int):=ay bM;have q26:(CK)<(oC.size:Int):=ay bM;have aF2:=bO oC (CK);replace p26:=eq_true p26;replace q26:=eq_true q26)|((with_reducible refine fO (b:=.append) (xs:=#[.tmp 58,.tmp 62]) rfl ?_);(try(refine kK (by rfl) ?_;dsimp only));at_builtin;refine Kd.kJ (Kd.int .u8) (w0:=w) w.heap.size rfl (.tmp 58) (.tmp 62) 100 5 (.int .u8 0) 1 rfl Tryz.underlying100 info5 rfl aA ae u4 iG (bt oC (CK)) [.int .u8 (bt oC (CK))] (fun _=>True) (fun _=>False) rfl rfl ?aP (fun _ hk=>hk.elim) ?aF ?aO ?aB ?aS ?aL ?_;(case aP=>exact rfl);(case aB=>exact aX);(case aF=>exact(fun _ _=>trivial));(case aO=>exact Qs);(case aS=>exact(aN aX));(case aL=>have:=agK.out;omega);intro aD2 w28 ho hb hg hat;rw[<- arF.out] at ho;have kR:=aa.mk (hb);have lF:=aa.mk (ho);clear HB;clear rJ;have HB:=kR;have aAM:=lF;clear kR lF;clear ho hb hg hat));go_roundg k2
           case measure=>have:=tC.out;have:=tO.out;omega
           case rel=>exact⟨(aoT),(wrap64 ((CK)+1)),(by first|rfl|(simp;done)|(simp only[<- Jr] <;> (first|rfl|simp))|(simp[*];done)),H,⟨Fj⟩,⟨qE⟩,⟨aX⟩⟩
          ·simp only[Option.some.injEq,Prod.mk.injEq] at H;obtain⟨rfl,rfl⟩:=H;have Sl:0<=(fA:Int):=ay bM;have Sm:fA<(oC.size:Int):=ay bM;have ad9:=bO oC fA;replace Sl:=eq_true Sl;replace Sm:=eq_true Sm;have p23:0<=((CK):Int):=ay bM;have q23:(CK)<(oC.size:Int):=ay bM;have arD:=bO oC (CK);replace p23:=eq_true p23;replace q23:=eq_true q23;go_wp2_with(first|((with_reducible refine cZ 146 rfl ?_);refine nU (some 56) rfl rfl Tryz.func146 dK rfl #[.int .u8 (bt oC (CK))] rfl (by(try simp only[List.map_toArray,List.map_cons,List.map_nil]);first|done|(simp only[Jr];rfl)|rfl|(simp only[List.length_drop,List.length_take];rfl)) ?_;(with_reducible refine(lh.calls (bt oC (CK)) false _ A24.out).mono ?_);rintro e w' ⟨rfl,⟨nd,rfl⟩⟩;refine⟨_,rfl,?_⟩));go_ret2;exact⟨by first|rfl|(simp[dP,dQ] <;> rfl)|(simp only[<- Jr];first|rfl|(simp[dP,dQ] <;> rfl))|(simp[*,dP,dQ] <;> rfl),aX⟩
        ·obtain⟨FP,acE⟩:=kU c18;replace H:=gI H;rcases H with⟨QT,-,-,H⟩|⟨QT,-,-,H⟩
         ·obtain⟨IY,Lh⟩:=kT QT;clear QT;simp only[Option.some.injEq,Prod.mk.injEq] at H;obtain⟨rfl,rfl⟩:=H;have Sl:0<=(fA:Int):=ay bM;have Sm:fA<(oC.size:Int):=ay bM;have ad9:=bO oC fA;replace Sl:=eq_true Sl;replace Sm:=eq_true Sm;have p29:0<=(fA:Int):=ay bM;have q29:fA<(oC.size:Int):=ay bM;have hx29:=bO oC fA;replace p29:=eq_true p29;replace q29:=eq_true q29;go_wp2;go_ret2;exact⟨jv,aX⟩
         ·obtain⟨IY,Lh⟩:=kU QT;replace H:=xE H;rcases H with⟨A32,H⟩|⟨A32,H⟩
          ·replace H:=gN H;obtain⟨c35,-,-,H⟩:=H;have agY:=aa.mk c35;clear c35;obtain⟨aoU,Px⟩:∃ y_:List Int,y_=(iG ++ [bt oC fA]):=⟨_,rfl⟩;replace H:(dE.l0 k2 aoU oC (wrap64 (fA+1)))=some (r1,r2):=by first|(rw[Px];with_reducible exact H)|(have kP:=(ax _ _).symm.trans H;rw[Px];with_reducible exact kP)|(have kP:=(ax _ _).symm.trans H;with_reducible exact kP)|with_reducible exact H|(rw[Px];exact H)|exact H
           have arG:=aa.mk Px;clear Px;replace H:=aa.mk H;have Sl:0<=(fA:Int):=ay bM;have Sm:fA<(oC.size:Int):=ay bM;have ad9:=bO oC fA;replace Sl:=eq_true Sl;replace Sm:=eq_true Sm;have p29:0<=(fA:Int):=ay bM;have q29:fA<(oC.size:Int):=ay bM;have hx29:=bO oC fA;replace p29:=eq_true p29;replace q29:=eq_true q29;have p31:0<=(fA:Int):=ay bM;have q31:fA<(oC.size:Int):=ay bM;have hx31:=bO oC fA;replace p31:=eq_true p31;replace q31:=eq_true q31;go_wp2_with(first|((with_reducible refine cZ 146 rfl ?_);refine mM 56 rfl Tryz.func146 (lh.calls (bt oC fA) true _ A32.out) fun nd=>?_;have p34:0<=(fA:Int):=ay bM;have q34:fA<(oC.size:Int):=ay bM;have hx34:=bO oC fA;replace p34:=eq_true p34;replace q34:=eq_true q34)|((with_reducible refine fO (b:=.append) (xs:=#[.tmp 58,.tmp 62]) rfl ?_);(try(refine kK (by rfl) ?_;dsimp only));at_builtin;refine Kd.kJ (Kd.int .u8) (w0:=w) w.heap.size rfl (.tmp 58) (.tmp 62) 100 5 (.int .u8 0) 1 rfl Tryz.underlying100 info5 rfl aA ae u4 iG (bt oC fA) [.int .u8 (bt oC fA)] (fun _=>True) (fun _=>False) rfl rfl ?aP (fun _ hk=>hk.elim) ?aF ?aO ?aB ?aS ?aL ?_;(case aP=>exact rfl);(case aB=>exact aX);(case aF=>exact(fun _ _=>trivial));(case aO=>exact Qs);(case aS=>exact(aN aX));(case aL=>have:=agY.out;omega);intro aD3 w36 ho hb hg hat;rw[<- arG.out] at ho;have kR:=aa.mk (hb);have lF:=aa.mk (ho);clear HB;clear rJ;have HB:=kR;have aAN:=lF;clear kR lF;clear ho hb hg hat));go_roundg k2
           case measure=>have:=tC.out;have:=tO.out;omega
           case rel=>exact⟨(aoU),(wrap64 (fA+1)),bR,H,⟨Fj⟩,⟨qE⟩,⟨aX⟩⟩
          ·simp only[Option.some.injEq,Prod.mk.injEq] at H;obtain⟨rfl,rfl⟩:=H;have Sl:0<=(fA:Int):=ay bM;have Sm:fA<(oC.size:Int):=ay bM;have ad9:=bO oC fA;replace Sl:=eq_true Sl;replace Sm:=eq_true Sm;have p29:0<=(fA:Int):=ay bM;have q29:fA<(oC.size:Int):=ay bM;have hx29:=bO oC fA;replace p29:=eq_true p29;replace q29:=eq_true q29;have p31:0<=(fA:Int):=ay bM;have q31:fA<(oC.size:Int):=ay bM;have hx31:=bO oC fA;replace p31:=eq_true p31;replace q31:=eq_true q31;go_wp2_with(first|((with_reducible refine cZ 146 rfl ?_);refine mM 56 rfl Tryz.func146 (lh.calls (bt oC fA) false _ A32.out) fun nd=>?_));go_ret2;exact⟨jv,aX⟩
       ·replace H:=gI H;rcases H with⟨c37,-,-,H⟩|⟨c37,-,-,H⟩
        ·have Xk:decide (4000<(iG.length:Int))=true:=bK c37;have abI:decide (4000<iG.length)=true:=bK ae;clear c37;simp only[Option.some.injEq,Prod.mk.injEq] at H;obtain⟨rfl,rfl⟩:=H;obtain⟨auD,auE,aec⟩:=Kd.eD rJ.out;subst aec;go_wp2;go_ret2;exact⟨jv,aX⟩
        ·have Xk:decide (4000<(iG.length:Int))=false:=bQ c37;have abI:decide (4000<iG.length)=false:=bQ ae;clear c37;simp only[Option.some.injEq,Prod.mk.injEq] at H;obtain⟨rfl,rfl⟩:=H;obtain⟨auF,auG,aed⟩:=Kd.eD rJ.out;subst aed;have auH:=sJ (P:=Tryz.prog) Tryz.underlying100 Tryz.underlying5 Tryz.underlying9 (Kd.vH rJ.out);go_wp2;go_ret2;exact⟨jv,aX⟩
    ·exact absurd H (by simp)


def jR.f (a0:Int):Option (Bool):=if a0>=0 then(some (decide (a0<=253402300799))) else(some false)
theorem jR.calls (a0:Int) (r:Bool) (w:World) (h:jR.f a0=some r) :
  Calls Tryz.prog 31 #[.int .i64 a0] w fun e w'=>e = .returned (.bool r)/\bH w w':=by
 have H:=aa.mk h;clear h;unfold jR.f at H;rcases jw H with⟨-,jc,-,H⟩|⟨-,jc,-,H⟩
 ·obtain rfl:=aI H.out;go_enter Tryz.func31,Tryz.ntmps31;go_wp2;go_ret;exact⟨bR,iL⟩
 ·obtain rfl:=aI H.out;go_enter Tryz.func31,Tryz.ntmps31;go_wp2;go_ret;exact⟨bR,iL⟩

def bB.l0 : Nat->ByteArray->Int->Int->Option (Int)
 |0,_,_,_=>none
 |k+1,x0,x3,x4=>if x4<(x0.size:Int) then(if 0<=x4 then(if(bt x0 x4)=32 then(bB.l0 k x0 (wrap64 (x3*10)) (wrap64 (x4+1))) else((bD.f (bt x0 x4)).bind fun av8=>(if av8=true then(bB.l0 k x0 (wrap64 ((wrap64 (x3*10))+(((bt x0 x4)-48)%256))) (wrap64 (x4+1))) else(some (-1))))) else(none)) else(some x3)
def bB.f (k:Nat) (a0:ByteArray):Option (Int):=bB.l0 k a0 0 0
theorem bB.calls (k:Nat) (a0:ByteArray) (r:Int) (w:World) (h:bB.f k a0=some r) :
  Calls Tryz.prog 115 #[.string a0] w fun e w'=>e = .returned (.int .i64 r)/\bH w w':=by
 have H:=aa.mk h;clear h;unfold bB.f at H;go_enter Tryz.func115,Tryz.ntmps115;go_wp2;go_loopg [3,4] k (fun kq v3 v4 w'=>∃(dD:Int) (dH:Int),v3 = .int .i64 dD/\v4 = .int .i64 dH/\aa (bB.l0 kq a0 dD dH=some r)/\aa (kq<=k)/\bH w w')
 case atStart=>exact⟨(0),(0),bR,bR,H,⟨Nat.le_refl _⟩,iL⟩
 case round=>
  clear H;obtain⟨dD,dH,rfl,rfl,HA,ig,⟨m1,rfl⟩⟩:=hrel;cases gk with
  |zero=>exact absurd HA.out (by simp[bB.l0])
  |succ k1=>
   have H:=HA;clear HA;simp only[bB.l0] at H;rcases jw H with⟨-,jc,-,H⟩|⟨-,jc,-,H⟩
   ·obtain⟨-,cB,-,H⟩:=nZ H;rcases jw H with⟨c5,-,-,H⟩|⟨c5,-,-,H⟩
    ·obtain⟨jV,rO⟩:=kT c5;clear c5;have p4:0<=(dH:Int):=ay bM;have q4:dH<(a0.size:Int):=ay bM;have hx4:=bO a0 dH;replace p4:=eq_true p4;replace q4:=eq_true q4;go_wp2;go_roundg k1
     case measure=>have:=ig.out;omega
     case rel=>exact⟨(wrap64 (dD*10)),(wrap64 (dH+1)),bR,bR,H,⟨by have:=ig.out;omega⟩,iL⟩
    ·obtain⟨jV,rO⟩:=kU c5;rcases lu H with⟨A7,H⟩|⟨A7,H⟩
     ·have p4:0<=(dH:Int):=ay bM;have q4:dH<(a0.size:Int):=ay bM;have hx4:=bO a0 dH;replace p4:=eq_true p4;replace q4:=eq_true q4;have p6:0<=(dH:Int):=ay bM;have q6:dH<(a0.size:Int):=ay bM;have hx6:=bO a0 dH;replace p6:=eq_true p6;replace q6:=eq_true q6;go_wp2_with(((with_reducible refine cZ 77 rfl ?_);refine mM 20 rfl Tryz.func77 (bD.calls (bt a0 dH) true _ A7.out) fun nd=>?_;have p9:0<=(dH:Int):=ay bM;have q9:dH<(a0.size:Int):=ay bM;have hx9:=bO a0 dH;replace p9:=eq_true p9;replace q9:=eq_true q9));go_roundg k1
      case measure=>have:=ig.out;omega
      case rel=>exact⟨(wrap64 ((wrap64 (dD*10))+(((bt a0 dH)-48)%256))),(wrap64 (dH+1)),bR,bR,H,⟨by have:=ig.out;omega⟩,iL⟩
     ·obtain rfl:=aI H.out;have p4:0<=(dH:Int):=ay bM;have q4:dH<(a0.size:Int):=ay bM;have hx4:=bO a0 dH;replace p4:=eq_true p4;replace q4:=eq_true q4;have p6:0<=(dH:Int):=ay bM;have q6:dH<(a0.size:Int):=ay bM;have hx6:=bO a0 dH;replace p6:=eq_true p6;replace q6:=eq_true q6;go_wp2_with(((with_reducible refine cZ 77 rfl ?_);refine mM 20 rfl Tryz.func77 (bD.calls (bt a0 dH) false _ A7.out) fun nd=>?_));go_ret;exact⟨bR,iL⟩
   ·obtain rfl:=aI H.out;go_wp2;go_ret;exact⟨bR,iL⟩

def iq.f (a0:Int):Option (ByteArray):=if 0<=(wrap64 ((wrap64 (3*a0))-3)) then(if(wrap64 ((wrap64 (3*a0))-3))<=(wrap64 (3*a0)) then(if(wrap64 (3*a0))<=36 then(some ((⟨#[74,97,110,70,101,98,77,97,114,65,112,114,77,97,121,74,117,110,74,117,108,65,117,103,83,101,112,79,99,116,78,111,118,68,101,99]⟩:af).extract ((wrap64 ((wrap64 (3*a0))-3)):Int).toNat ((wrap64 (3*a0)):Int).toNat)) else(none)) else(none)) else(none)
theorem iq.calls (a0:Int) (r:ByteArray) (w:World) (h:iq.f a0=some r) :
  Calls Tryz.prog 160 #[.int .i64 a0] w fun e w'=>e = .returned (.string r)/\bH w w':=by
 have H:=aa.mk h;clear h;unfold iq.f at H;obtain⟨ji2,am3⟩:∃ j_:Int,(wrap64 ((wrap64 (3*a0))-3))=j_:=⟨_,rfl⟩;(first|rw[am3] at H|simp only[am3] at H ⊢)
 have aD4:(IntKind.i64.wrap ((wrap64 (3*a0))-3))=ji2:=(dU _).trans am3;rcases jw H with⟨-,nE,cB,H⟩|⟨c3,-,-,H⟩
 ·obtain⟨-,qy,jr,H⟩:=nZ H;obtain⟨-,rO,jV,H⟩:=nZ H;obtain rfl:=aI H.out;go_enter Tryz.func160,Tryz.ntmps160;go_wp2;go_ret;exact⟨by first|rfl|(simp;done)|(simp only[<- am3] <;> (first|rfl|simp))|(simp[*];done),iL⟩
 ·exact absurd H.out (by simp)

def fD.l0 : Nat->ByteArray->Int->Option (Int)
 |0,_,_=>none
 |k+1,x0,x3=>if x3<=12 then((iq.f x3).bind fun acF=>(if acF.toList=x0.toList then(some x3) else(fD.l0 k x0 (wrap64 (x3+1))))) else(some (-1))
def fD.f (k:Nat) (a0:ByteArray):Option (Int):=fD.l0 k a0 1
theorem fD.calls (k:Nat) (a0:ByteArray) (r:Int) (w:World) (h:fD.f k a0=some r) :
  Calls Tryz.prog 116 #[.string a0] w fun e w'=>e = .returned (.int .i64 r)/\bH w w':=by
 have H:=aa.mk h;clear h;unfold fD.f at H;go_enter Tryz.func116,Tryz.ntmps116;go_wp2;go_loopg [3] k (fun kq v3 w'=>∃(dD:Int),v3 = .int .i64 dD/\aa (fD.l0 kq a0 dD=some r)/\aa (kq<=k)/\bH w w')
 case atStart=>exact⟨(1),bR,H,⟨Nat.le_refl _⟩,iL⟩
 case round=>
  clear H;obtain⟨dD,rfl,HA,ig,⟨m1,rfl⟩⟩:=hrel;cases gk with
  |zero=>exact absurd HA.out (by simp[fD.l0])
  |succ k1=>
   have H:=HA;clear HA;simp only[fD.l0] at H;rcases jw H with⟨-,jc,-,H⟩|⟨-,jc,-,H⟩
   ·obtain⟨acF,A3,H⟩:=nP H;rcases jw H with⟨c4,-,-,H⟩|⟨c4,-,-,H⟩
    ·obtain⟨jr,qy⟩:=kT c4;clear c4;obtain rfl:=aI H.out;go_wp2_with(((with_reducible refine cZ 160 rfl ?_);refine mM 9 rfl Tryz.func160 (iq.calls dD acF _ A3.out) fun nd=>?_));go_ret;exact⟨bR,iL⟩
    ·obtain⟨jr,qy⟩:=kU c4;go_wp2_with(((with_reducible refine cZ 160 rfl ?_);refine mM 9 rfl Tryz.func160 (iq.calls dD acF _ A3.out) fun nd=>?_));go_roundg k1
     case measure=>have:=ig.out;omega
     case rel=>exact⟨(wrap64 (dD+1)),bR,H,⟨by have:=ig.out;omega⟩,iL⟩
   ·obtain rfl:=aI H.out;go_wp2;go_ret;exact⟨bR,iL⟩

def nA.f (a0:Int):Option (Bool):=if(Int.tmod a0 4)=0 then(if(Int.tmod a0 100)=0 then(some ((Int.tmod a0 400)==0)) else(some true)) else(some false)
theorem nA.calls (a0:Int) (r:Bool) (w:World) (h:nA.f a0=some r) :
  Calls Tryz.prog 227 #[.int .i64 a0] w fun e w'=>e = .returned (.bool r)/\bH w w':=by
 have H:=aa.mk h;clear h;unfold nA.f at H;rcases jw H with⟨c2,-,-,H⟩|⟨c2,-,-,H⟩
 ·obtain⟨jc,nD⟩:=kT c2;clear c2;rcases jw H with⟨c3,-,-,H⟩|⟨c3,-,-,H⟩
  ·obtain⟨cB,nE⟩:=kT c3;clear c3;obtain rfl:=aI H.out;go_enter Tryz.func227,Tryz.ntmps227;go_wp2;go_ret;exact⟨bR,iL⟩
  ·obtain⟨cB,nE⟩:=kU c3;obtain rfl:=aI H.out;go_enter Tryz.func227,Tryz.ntmps227;go_wp2;go_ret;exact⟨bR,iL⟩
 ·obtain⟨jc,nD⟩:=kU c2;obtain rfl:=aI H.out;go_enter Tryz.func227,Tryz.ntmps227;go_wp2;go_ret;exact⟨bR,iL⟩


def jS.f (a0:Int) (a1:Int):Option (Int):=if a1=2 then((nA.f a0).bind fun av9=>(if av9=true then(some 29) else(some 28))) else(if a1=4 then(some 30) else(if a1=6 then(some 30) else(if a1=9 then(some 30) else(if a1=11 then(some 30) else(some 31)))))
theorem jS.e0 {p:Prop} (h:p:=by
  obtain rfl:=aI H.out
  go_enter Tryz.func204,Tryz.ntmps204
  go_wp2_with(first|((with_reducible refine cZ 227 rfl ?_);refine mM 8 rfl Tryz.func227 (nA.calls a0 false _ A4.out) fun nd=>?_)|((with_reducible refine cZ 227 rfl ?_);refine mM 8 rfl Tryz.func227 (nA.calls a0 true _ A4.out) fun nd=>?_))
  go_ret
  exact⟨bR,iL⟩):p:=h
theorem jS.calls (a0 a1 r:Int) (w:World) (h:jS.f a0 a1=some r) :
  Calls Tryz.prog 204 #[.int .i64 a0,.int .i64 a1] w fun e w'=>e = .returned (.int .i64 r)/\bH w w':=by
 have H:=aa.mk h;clear h;unfold jS.f at H;rcases jw H with⟨c3,-,-,H⟩|⟨c3,-,-,H⟩
 ·obtain⟨cB,nE⟩:=kT c3;clear c3;rcases lu H with⟨A4,H⟩|⟨A4,H⟩
  ·exact jS.e0
  ·exact jS.e0
 ·obtain⟨cB,nE⟩:=kU c3;rcases jw H with⟨c6,-,-,H⟩|⟨c6,-,-,H⟩
  ·obtain⟨jy,pq⟩:=kT c6;clear c6;obtain rfl:=aI H.out;go_enter Tryz.func204,Tryz.ntmps204;go_wp2;go_ret;exact⟨bR,iL⟩
  ·obtain⟨jy,pq⟩:=kU c6;rcases jw H with⟨c7,-,-,H⟩|⟨c7,-,-,H⟩
   ·obtain⟨nR,Ag⟩:=kT c7;clear c7;obtain rfl:=aI H.out;go_enter Tryz.func204,Tryz.ntmps204;go_wp2;go_ret;exact⟨bR,iL⟩
   ·obtain⟨nR,Ag⟩:=kU c7;rcases jw H with⟨c8,-,-,H⟩|⟨c8,-,-,H⟩
    ·obtain⟨mU,za⟩:=kT c8;clear c8;obtain rfl:=aI H.out;go_enter Tryz.func204,Tryz.ntmps204;go_wp2;go_ret;exact⟨bR,iL⟩
    ·obtain⟨mU,za⟩:=kU c8;rcases jw H with⟨c9,-,-,H⟩|⟨c9,-,-,H⟩
     ·obtain⟨pg,xy⟩:=kT c9;clear c9;obtain rfl:=aI H.out;go_enter Tryz.func204,Tryz.ntmps204;go_wp2;go_ret;exact⟨bR,iL⟩
     ·obtain⟨pg,xy⟩:=kU c9;obtain rfl:=aI H.out;go_enter Tryz.func204,Tryz.ntmps204;go_wp2;go_ret;exact⟨bR,iL⟩


def dW.f (ak:Int) (au:Int) (az:Int) (aJ:Int) (aD:Int) (di:Int):Option (Bool):=if ak>=1970 then(if ak<=9999 then(if au>=1 then(if au<=12 then(if az>=1 then((jS.f ak au).bind fun aiw=>(if az<=aiw then(if aJ>=0 then(if aJ<=23 then(if aD>=0 then(if aD<=59 then(if di>=0 then(some (decide (di<=59))) else(some false)) else(some false)) else(some false)) else(some false)) else(some false)) else(some false))) else(some false)) else(some false)) else(some false)) else(some false)) else(some false)
def dW.T1 : Bool×List (List Nat×List Nat):=(true,[([],[]),([0],[0]),([1],[1]),([2],[2]),([3],[3]),([4,3],[3,4]),([5,3],[3,5]),([3,6],[3,6]),([7,3],[7]),([8],[8]),([9,8],[8,9]),([10,8],[8,10]),([8,11],[8,11]),([12,8],[12]),([13],[13]),([14,13],[13,14]),([15,13],[13,15]),([13,16],[13,16]),([17,13],[17]),([18],[18]),([19,18],[18,19]),([20,18],[18,20]),([18,21],[18,21]),([22,18],[22]),([23],[23]),([24,23],[23,24]),([23],[23]),([26,23],[23,26]),([23],[23]),([28,23],[23,28]),([27,29,23,23],[23,27,29]),([25,30,23],[23,25,30]),([23,31],[23,31]),([32,30],[32]),([33],[33]),([34,33],[33,34]),([35,33],[33,35]),([33,36],[33,36]),([37,33],[37]),([38],[38]),([39,38],[38,39]),([40,38],[38,40]),([38,41],[38,41]),([42,38],[42]),([43],[43]),([44,43],[43,44]),([45,43],[43,45]),([43,46],[43,46]),([47,43],[47]),([48],[48]),([49,48],[48,49]),([50,48],[48,50]),([48,51],[48,51]),([52,48],[52]),([53],[53]),([54,53],[53,54]),([55,53],[53,55]),([53,56],[53,56]),([57,53],[57]),([58],[58]),([59,58],[58,59]),([60,58],[58,60]),([58,61],[58,61]),([62,58,0,1,2,3,4,5,6,7,8,9,10,11,12,13,14,15,16,17,18,19,20,21,22,23,24,25,26,27,28,29,30,31,32,33,34,35,36,37,38,39,40,41,42,43,44,45,46,47,48,49,50,51,52,53,54,55,56,57,58,59,60,61,62],[62])])
def dW.B1 : List Nat:=[0,1,3,7,15,31,63,127,255,511,1023,2047,4095,8191,16383,32767,65535,131071,262143,524287,1048575,2097151,4194303,8388607,16777215,33554431,16777215,83886079,16777215,285212671,1023410175,2147483647,4294967295,8589934591,17179869183,34359738367,68719476735,137438953471,274877906943,549755813887,1099511627775,2199023255551,4398046511103,8796093022207,17592186044415,35184372088831,70368744177663,140737488355327,281474976710655,562949953421311,1125899906842623,2251799813685247,4503599627370495,9007199254740991,18014398509481983,36028797018963967,72057594037927935,144115188075855871,288230376151711743,576460752303423487,1152921504606846975,2305843009213693951,4611686018427387903,9223372036854775807]
theorem dW.yo : nL .any (opsOf Tryz.f202 1)=dW.T1:=by kernel_rfl
theorem dW.rP : jf dW.T1.2 dW.B1=true:=by kernel_rfl
theorem dW.e0 {p:Prop} (h:p:=by
  obtain rfl:=aI H.out
  go_enter Tryz.func202,Tryz.ntmps202
  try go_wp2_with(((with_reducible refine lT 1 rfl ?_);refine jL #[.int .i64 ak,.int .i64 au,.int .i64 az,.int .i64 aJ,.int .i64 aD,.int .i64 di] 117 ?_;intro Kr hg gG hbox hb;have Py:=aa.mk (hbox);have aAO:=lJ hg;replace HB:=fw hb;clear hb hbox hg))
  replace Py:=aa.mk (eu Py.out)
  replace HB:=aa.mk (bE HB.out)
  refine jP (n:=64) (S:=fun w'=>w'.cell? ⟨Kr,0,none⟩=some (.int .i64 ak)/\w'.cell? ⟨Kr,1,none⟩=some (.int .i64 au)/\w'.cell? ⟨Kr,2,none⟩=some (.int .i64 az)/\w'.cell? ⟨Kr,3,none⟩=some (.int .i64 aJ)/\w'.cell? ⟨Kr,4,none⟩=some (.int .i64 aD)/\w'.cell? ⟨Kr,5,none⟩=some (.int .i64 di)) (ds:=[]) (pI Py) (fun hHeld=>?_);refine dw dW.yo dW.rP (fun HT_ HW_=>?_)
  generalize gG.drew=jH at Py HB hHeld ⊢
  repeat(first|refine lC ?_ (hy:=Or.inl ⟨by rfl,TE⟩)|refine dA ?_|(refine fG (fun K hK=>?_);refine jZ Tryz.func204 dK rfl #[.int .i64 ak,.int .i64 au] (by rfl) rfl rfl Bd ?_;(with_reducible refine(jS.calls ak au aiw _ A7.out).mono ?_);rintro e w' ⟨rfl,⟨nd,rfl⟩⟩;refine⟨_,rfl,?_⟩;refine hK.out _ _ (pI Py) (fun hHeld=>?_);clear hK K;refine bY ?_))
  refine kI (fP HT_.out dK) ?_
  try go_wp2
  go_ret
  exact⟨jv,aX⟩):p:=h
theorem dW.calls (ak au:Int) (az aJ:Int) (aD di:Int) (r:Bool) (w:World) (h:dW.f ak au az aJ aD di=some r) :
  Calls Tryz.prog 202 #[.agg #[.int .i64 ak,.int .i64 au,.int .i64 az,.int .i64 aJ,.int .i64 aD,.int .i64 di]] w fun e w'=>e = .returned (.bool r)/\Below w.heap.size w w':=by
 have zL:=Tryz.underlying117;have HB:=aa.mk (Below.refl w.heap.size w);have H:=aa.mk h;clear h;unfold dW.f at H;rcases jw H with⟨-,jc,-,H⟩|⟨-,jc,-,H⟩
 ·rcases jw H with⟨-,cB,-,H⟩|⟨-,cB,-,H⟩
  ·rcases jw H with⟨-,jr,-,H⟩|⟨-,jr,-,H⟩
   ·rcases jw H with⟨-,jV,-,H⟩|⟨-,jV,-,H⟩
    ·rcases jw H with⟨-,jy,-,H⟩|⟨-,jy,-,H⟩
     ·obtain⟨aiw,A7,H⟩:=nP H;rcases jw H with⟨-,mU,-,H⟩|⟨-,mU,-,H⟩
      ·rcases jw H with⟨-,pg,-,H⟩|⟨-,pg,-,H⟩
       ·rcases jw H with⟨-,pX,-,H⟩|⟨-,pX,-,H⟩
        ·rcases jw H with⟨-,oV,-,H⟩|⟨-,oV,-,H⟩
         ·rcases jw H with⟨-,nS,-,H⟩|⟨-,nS,-,H⟩
          ·rcases jw H with⟨-,qG,-,H⟩|⟨-,qG,-,H⟩
           ·exact dW.e0
           ·exact dW.e0
          ·exact dW.e0
         ·exact dW.e0
        ·exact dW.e0
       ·exact dW.e0
      ·exact dW.e0
     ·exact dW.e0
    ·exact dW.e0
   ·exact dW.e0
  ·exact dW.e0
 ·exact dW.e0


def kM.f (a0:Int):Option (Int):=(nA.f a0).bind fun awc=>(if awc=true then(some 366) else(some 365))
theorem kM.e0 {p:Prop} (h:p:=by
  obtain rfl:=aI H.out
  go_enter Tryz.func203,Tryz.ntmps203
  go_wp2_with(first|((with_reducible refine cZ 227 rfl ?_);refine mM 4 rfl Tryz.func227 (nA.calls a0 false _ A2.out) fun nd=>?_)|((with_reducible refine cZ 227 rfl ?_);refine mM 4 rfl Tryz.func227 (nA.calls a0 true _ A2.out) fun nd=>?_))
  go_ret
  exact⟨bR,iL⟩):p:=h
theorem kM.calls (a0 r:Int) (w:World) (h:kM.f a0=some r) :
  Calls Tryz.prog 203 #[.int .i64 a0] w fun e w'=>e = .returned (.int .i64 r)/\bH w w':=by
 have H:=aa.mk h;clear h;unfold kM.f at H;rcases lu H with⟨A2,H⟩|⟨A2,H⟩
 ·exact kM.e0
 ·exact kM.e0

mutual
def dI.l0 : Nat->Int->Int->Int->Int->Int->Int->Int->Int->Option (Int×Bool)
 |0,_,_,_,_,_,_,_,_=>none
 |k+1,x4,x5,BL,EB,Js,EC,ED,EE=>if x5<BL then((kM.f x5).bind fun acG=>(dI.l0 k (wrap64 (x4+acG)) (wrap64 (x5+1)) BL EB Js EC ED EE)) else(dI.l1 k x4 1 BL EB Js EC ED EE)
def dI.l1 : Nat->Int->Int->Int->Int->Int->Int->Int->Int->Option (Int×Bool)
 |0,_,_,_,_,_,_,_,_=>none
 |k+1,x4,x6,BL,EB,Js,EC,ED,EE=>if x6<EB then((jS.f BL x6).bind fun acH=>(dI.l1 k (wrap64 (x4+acH)) (wrap64 (x6+1)) BL EB Js EC ED EE)) else(some (wrap64 ((wrap64 ((wrap64 ((wrap64 ((wrap64 ((wrap64 (x4*24))+EC))*60))+ED))*60))+EE),true))
end
def dI.f (k:Nat) (ak:Int) (au:Int) (az:Int) (aJ:Int) (aD:Int) (di:Int):Option (Int×Bool):=(dW.f ak au az aJ aD di).bind fun awd=>(if awd=true then(dI.l0 k (wrap64 (az-1)) 1970 ak au az aJ aD di) else(some (0,false)))
theorem dI.calls (k:Nat) (ak au:Int) (az aJ:Int) (aD di r1:Int) (r2:Bool) (w:World) (h:dI.f k ak au az aJ aD di=some (r1,r2)) :
  Calls Tryz.prog 159 #[.agg #[.int .i64 ak,.int .i64 au,.int .i64 az,.int .i64 aJ,.int .i64 aD,.int .i64 di]] w fun e w'=>e = .returned (.tuple #[.int .i64 r1,.bool r2])/\Below w.heap.size w w':=by
 have zL:=Tryz.underlying117;have HB:=aa.mk (Below.refl w.heap.size w);have H:=aa.mk h;clear h;unfold dI.f at H;rcases lu H with⟨A2,H⟩|⟨A2,H⟩
 ·go_enter Tryz.func159,Tryz.ntmps159;go_wp2_with(first|((with_reducible refine lT 1 rfl ?_);refine jL #[.int .i64 ak,.int .i64 au,.int .i64 az,.int .i64 aJ,.int .i64 aD,.int .i64 di] 117 ?_;intro Pz hg w4 hbox hb;have yx:=aa.mk (hbox);have arH:=lJ hg;replace HB:=fw hb;clear hb hbox hg;have _:=nN yx)|((with_reducible refine cZ 202 rfl ?_);refine iW 8 rfl Tryz.func202 (dW.calls ak au az aJ aD di true _ A2.out) fun w6 hb HB=>?_;replace yx:=eF (g:=Pz) hb;clear hb;have _:=nN yx));go_loopg [4,5] k (fun kq v4 v5 w'=>∃(dH:Int) (bu:Int),v4 = .int .i64 dH/\v5 = .int .i64 bu/\aa (dI.l0 kq dH bu ak au az aJ aD di=some (r1,r2))/\aa (kq<=k)/\aa (w'.heap[Pz]? = some (.cells #[.int .i64 ak,.int .i64 au,.int .i64 az,.int .i64 aJ,.int .i64 aD,.int .i64 di] 117 (0,0)))/\aa (Below w.heap.size w w'))
  case atStart=>exact⟨(wrap64 (az-1)),(1970),bR,bR,H,⟨Nat.le_refl _⟩,⟨oQ⟩,⟨aX⟩⟩
  case round=>
   clear H;obtain⟨dH,bu,rfl,rfl,HA,ig,yx,HB⟩:=hrel;cases gk with
   |zero=>exact absurd HA.out (by simp[dI.l0])
   |succ k1=>
    have H:=HA;clear HA;simp only[dI.l0] at H;rcases jw H with⟨-,mU,-,H⟩|⟨-,mU,-,H⟩
    ·obtain⟨acG,A9,H⟩:=nP H;have _:=nN yx;go_wp2_with(((with_reducible refine cZ 203 rfl ?_);refine mM 21 rfl Tryz.func203 (kM.calls bu acG _ A9.out) fun nd=>?_));go_roundg k1
     case measure=>have:=ig.out;omega
     case rel=>exact⟨(wrap64 (dH+acG)),(wrap64 (bu+1)),bR,bR,H,⟨by have:=ig.out;omega⟩,⟨oQ⟩,⟨aX⟩⟩
    ·have _:=nN yx;go_wp2;go_loopg [4,6] k1 (fun kq v4 v6 w'=>∃(iG:Int) (fA:Int),v4 = .int .i64 iG/\v6 = .int .i64 fA/\aa (dI.l1 kq iG fA ak au az aJ aD di=some (r1,r2))/\aa (kq<=k1)/\aa (w'.heap[Pz]? = some (.cells #[.int .i64 ak,.int .i64 au,.int .i64 az,.int .i64 aJ,.int .i64 aD,.int .i64 di] 117 (0,0)))/\aa (Below w.heap.size w w'))
     case atStart=>exact⟨(dH),(1),bR,bR,H,⟨Nat.le_refl _⟩,⟨oQ⟩,⟨aX⟩⟩
     case round=>
      clear H;try clear mU
      obtain⟨iG,fA,rfl,rfl,HA,tO,yx,HB⟩:=hrel;cases gk with
      |zero=>exact absurd HA.out (by simp[dI.l1])
      |succ k2=>
       have H:=HA;clear HA;simp only[dI.l1] at H;rcases jw H with⟨-,nS,-,H⟩|⟨-,nS,-,H⟩
       ·obtain⟨acH,K5,H⟩:=nP H;have _:=nN yx;go_wp2_with(((with_reducible refine cZ 204 rfl ?_);refine mM 33 rfl Tryz.func204 (jS.calls ak fA acH _ K5.out) fun nd=>?_));go_roundg k2
        case measure=>have:=ig.out;have:=tO.out;omega
        case rel=>exact⟨(wrap64 (iG+acH)),(wrap64 (fA+1)),bR,bR,H,⟨TI⟩,⟨oQ⟩,⟨aX⟩⟩
       ·simp only[Option.some.injEq,Prod.mk.injEq] at H;obtain⟨rfl,rfl⟩:=H;have _:=nN yx;go_wp2;go_ret2;exact⟨jv,aX⟩
 ·simp only[Option.some.injEq,Prod.mk.injEq] at H;obtain⟨rfl,rfl⟩:=H;go_enter Tryz.func159,Tryz.ntmps159;go_wp2_with(first|((with_reducible refine lT 1 rfl ?_);refine jL #[.int .i64 ak,.int .i64 au,.int .i64 az,.int .i64 aJ,.int .i64 aD,.int .i64 di] 117 ?_;intro Pz hg gG hbox hb;have yx:=aa.mk (hbox);have arH:=lJ hg;replace HB:=fw hb;clear hb hbox hg;have _:=nN yx)|((with_reducible refine cZ 202 rfl ?_);refine iW 8 rfl Tryz.func202 (dW.calls ak au az aJ aD di false _ A2.out) fun jH hb HB=>?_;replace yx:=eF (g:=Pz) hb;clear hb));go_ret2;exact⟨jv,aX⟩


def iY.f (k:Nat) (a0:Int) (a1:Int) (a2:Int) (a3:ByteArray):Option (Int):=if 0<=2 then(if 2<=(a3.size:Int) then((bB.f k (a3.extract 0 2)).bind fun SH=>(if 3<=5 then(if 5<=(a3.size:Int) then((bB.f k (a3.extract 3 5)).bind fun SI=>(if 6<=8 then(if 8<=(a3.size:Int) then((bB.f k (a3.extract 6 8)).bind fun SK=>((dI.f k a0 a1 a2 SH SI SK).bind fun aix=>(if aix.2=true then(some aix.1) else(some (-1))))) else(none)) else(none))) else(none)) else(none))) else(none)) else(none)
def iY.T1 : Bool×List (List Nat×List Nat):=(true,[([],[]),([],[]),([],[]),([],[]),([3],[3]),([4],[4]),([],[]),([6],[6]),([7,5],[7]),([],[]),([9],[9]),([10,8],[10]),([0,1,2,5,8,11],[0,1,2,5,8,11]),([12,11],[12]),([13],[13]),([14],[14]),([14],[14]),([15,13,0,1,2,3,4,5,6,7,8,9,10,11,12,13,14,15],[15]),([16,17,0,1,2,3,4,5,6,7,8,9,10,11,12,13,14,15,16,17],[16])])
def iY.B1 : List Nat:=[0,0,0,0,8,24,0,64,248,0,512,2040,4095,8191,16383,32767,32767,65535,262143]
theorem iY.yo : nL .any (opsOf Tryz.f114 1)=iY.T1:=by kernel_rfl
theorem iY.rP : jf iY.T1.2 iY.B1=true:=by kernel_rfl
theorem iY.calls (k:Nat) (a0 a1 a2:Int) (a3:ByteArray) (r:Int) (w:World) (h:iY.f k a0 a1 a2 a3=some r) :
  Calls Tryz.prog 114 #[.int .i64 a0,.int .i64 a1,.int .i64 a2,.string a3] w fun e w'=>e = .returned (.int .i64 r)/\Below w.heap.size w w':=by
 have zL:=Tryz.underlying117;have HB:=aa.mk (Below.refl w.heap.size w);have H:=h;clear h;unfold iY.f at H;replace H:=gI H;rcases H with⟨-,rO,jV,H⟩|⟨c5,-,-,H⟩
 ·replace H:=gN H;obtain⟨-,pq,jy,H⟩:=H;replace H:=gD H;obtain⟨SH,A7,H⟩:=H;replace H:=gN H;obtain⟨-,za,mU,H⟩:=H;replace H:=gN H;obtain⟨-,xy,pg,H⟩:=H;replace H:=gD H;obtain⟨SI,JQ,H⟩:=H;replace H:=gN H;obtain⟨-,Aq,oV,H⟩:=H;replace H:=gN H;obtain⟨-,yH,nS,H⟩:=H;replace H:=gD H;obtain⟨SK,K5,H⟩:=H;replace H:=gD H;obtain⟨⟨aoV,aD5⟩,A14,H⟩:=H;dsimp only at H;replace H:=gB H;rcases H with⟨rfl,H⟩|⟨rfl,H⟩
  ·obtain rfl:=aI H;go_enter Tryz.func114,Tryz.ntmps114;try go_wp2
   replace HB:=aa.mk (bE HB.out);refine jP (n:=19) (S:=fun w'=>True) (ds:=[]) trivial (fun hHeld=>?_);refine dw iY.yo iY.rP (fun HT_ HW_=>?_);generalize w.drew=gG at HB hHeld ⊢;repeat(first|refine dA ?_)
   refine bq 6 (some 18) ?_;refine bq 7 (some 19) ?_;refine bq 9 (some 21) ?_;refine bq 10 (some 22) ?_;refine fG (fun K hK=>?_);refine BZ Tryz.func115 (bB.calls k (a3.extract 0 2) SH _ A7.out) fun nd=>?_;refine hK.out _ _ trivial (fun hHeld=>?_);clear hK K;refine bY ?_;refine fG (fun K hK=>?_);refine BZ Tryz.func115 (bB.calls k (a3.extract 3 5) SI _ JQ.out) fun nd=>?_;refine hK.out _ _ trivial (fun hHeld=>?_);clear hK K;refine bY ?_;refine fG (fun K hK=>?_);refine BZ Tryz.func115 (bB.calls k (a3.extract 6 8) SK _ K5.out) fun nd=>?_;refine hK.out _ _ trivial (fun hHeld=>?_);clear hK K;refine bY ?_;repeat(first|refine dA ?_)
   refine fG (fun K hK=>?_);refine EY Tryz.func159 (dI.calls k a0 a1 a2 SH SI SK aoV true _ A14.out) fun jH hb=>?_;replace HB:=fw hb;(try clear hb)
   refine hK.out _ _ trivial (fun hHeld=>?_);clear hK K;refine bY ?_;repeat(first|refine dA ?_)
   refine kI (fP HT_.out dK) ?_;try go_wp2
   go_ret;exact⟨jv,aX⟩
  ·obtain rfl:=aI H;go_enter Tryz.func114,Tryz.ntmps114;try go_wp2
   replace HB:=aa.mk (bE HB.out);refine jP (n:=19) (S:=fun w'=>True) (ds:=[]) trivial (fun hHeld=>?_);refine dw iY.yo iY.rP (fun HT_ HW_=>?_);generalize w.drew=gG at HB hHeld ⊢;repeat(first|refine dA ?_)
   refine bq 6 (some 18) ?_;refine bq 7 (some 19) ?_;refine bq 9 (some 21) ?_;refine bq 10 (some 22) ?_;refine fG (fun K hK=>?_);refine BZ Tryz.func115 (bB.calls k (a3.extract 0 2) SH _ A7.out) fun nd=>?_;refine hK.out _ _ trivial (fun hHeld=>?_);clear hK K;refine bY ?_;refine fG (fun K hK=>?_);refine BZ Tryz.func115 (bB.calls k (a3.extract 3 5) SI _ JQ.out) fun nd=>?_;refine hK.out _ _ trivial (fun hHeld=>?_);clear hK K;refine bY ?_;refine fG (fun K hK=>?_);refine BZ Tryz.func115 (bB.calls k (a3.extract 6 8) SK _ K5.out) fun nd=>?_;refine hK.out _ _ trivial (fun hHeld=>?_);clear hK K;refine bY ?_;repeat(first|refine dA ?_)
   refine fG (fun K hK=>?_);refine EY Tryz.func159 (dI.calls k a0 a1 a2 SH SI SK aoV false _ A14.out) fun jH hb=>?_;replace HB:=fw hb;(try clear hb)
   refine hK.out _ _ trivial (fun hHeld=>?_);clear hK K;refine bY ?_;repeat(first|refine dA ?_)
   refine kI (fP HT_.out dK) ?_;try go_wp2
   go_ret;exact⟨jv,aX⟩
 ·exact absurd H (by simp)


mutual
def dn.l0 : Nat->Int->Int->Int->Int->Int->Int->Int->Option (Int×Int×Int×Int×Int×Int×Bool)
 |0,_,_,_,_,_,_,_=>none
 |k+1,x4,wG,zZ,Jt,EF,EG,EH=>(kM.f wG).bind fun acI=>(if x4>=acI then((kM.f wG).bind fun acJ=>(dn.l0 k (wrap64 (x4-acJ)) (wrap64 (wG+1)) zZ Jt EF EG EH)) else(dn.l1 k x4 wG zZ Jt EF EG EH))
def dn.l1 : Nat->Int->Int->Int->Int->Int->Int->Int->Option (Int×Int×Int×Int×Int×Int×Bool)
 |0,_,_,_,_,_,_,_=>none
 |k+1,x4,wG,zZ,Jt,EF,EG,EH=>(jS.f wG zZ).bind fun acK=>(if x4>=acK then((jS.f wG zZ).bind fun acL=>(dn.l1 k (wrap64 (x4-acL)) wG (wrap64 (zZ+1)) Jt EF EG EH)) else(some (wG,zZ,wrap64 (x4+1),EF,EG,EH,true)))
end
def dn.f (k:Nat) (a0:Int):Option (Int×Int×Int×Int×Int×Int×Bool):=(jR.f a0).bind fun awe=>(if awe=true then(dn.l0 k (wrap64 (Int.tdiv a0 86400)) 1970 1 0 (Int.tmod (wrap64 (Int.tdiv a0 3600)) 24) (Int.tmod (wrap64 (Int.tdiv a0 60)) 60) (Int.tmod a0 60)) else(some (0,0,0,0,0,0,false)))
theorem dn.calls (k:Nat) (a0 r1:Int) (r2 r3:Int) (r4 r5 r6:Int) (r7:Bool) (w:World) (h:dn.f k a0=some (r1,r2,r3,r4,r5,r6,r7)) :
  Calls Tryz.prog 161 #[.int .i64 a0] w fun e w'=>e = .returned (.tuple #[.agg #[.int .i64 r1,.int .i64 r2,.int .i64 r3,.int .i64 r4,.int .i64 r5,.int .i64 r6],.bool r7])/\Below w.heap.size w w':=by
 have zL:=Tryz.underlying117;have HB:=aa.mk (Below.refl w.heap.size w);have H:=aa.mk h;clear h;unfold dn.f at H;rcases lu H with⟨A2,H⟩|⟨A2,H⟩
 ·go_enter Tryz.func161,Tryz.ntmps161;go_wp2_with(first|((with_reducible refine lT 2 rfl ?_);refine jL #[.int .i64 0,.int .i64 0,.int .i64 0,.int .i64 0,.int .i64 0,.int .i64 0] 117 ?_;intro wH hg w4 hbox hb;have nz:=aa.mk (hbox);have arI:=lJ hg;replace HB:=fw hb;clear hb hbox hg)|((with_reducible refine cZ 31 rfl ?_);refine mM 7 rfl Tryz.func31 (jR.calls a0 true _ A2.out) fun nd=>?_;(try(rw[ko w4];generalize hq_:World.drewN w4 _=w4;have kR:aa (w4.heap[wH]? = some (.cells #[.int .i64 0,.int .i64 0,.int .i64 0,.int .i64 0,.int .i64 0,.int .i64 0] 117 (0,0))):=⟨Zd⟩;have lF:aa (Below w.heap.size w w4):=⟨by rw[<- hq_];exact aX⟩;clear nz HB hq_;have nz:=kR;have HB:=lF;clear kR lF)))|((with_reducible refine lT 5 rfl ?_);refine jL #[.int .i64 0,.int .i64 0,.int .i64 0,.int .i64 0,.int .i64 0,.int .i64 0] 117 ?_;intro uQ hg w5 hbox hb;have jX:=aa.mk (hbox);have aAP:=lJ hg;have vz:=CZ (g:=wH) hg;have xV:=DL vz;replace nz:=eF (g:=wH) hb;replace HB:=fw hb;clear hb hbox hg;have as4:=xV.out;have as5:=vz.out;have _:=nN jX));go_loopg [4] k (fun kq v4 w'=>∃(dH:Int) (ku:Int),v4 = .int .i64 dH/\aa (dn.l0 kq dH ku 1 0 (Int.tmod (wrap64 (Int.tdiv a0 3600)) 24) (Int.tmod (wrap64 (Int.tdiv a0 60)) 60) (Int.tmod a0 60)=some (r1,r2,r3,r4,r5,r6,r7))/\aa (kq<=k)/\aa (w'.heap[wH]? = some (.cells #[.int .i64 0,.int .i64 0,.int .i64 0,.int .i64 0,.int .i64 0,.int .i64 0] 117 (0,0)))/\aa (w'.heap[uQ]? = some (.cells #[.int .i64 ku,.int .i64 1,.int .i64 0,.int .i64 (Int.tmod (wrap64 (Int.tdiv a0 3600)) 24),.int .i64 (Int.tmod (wrap64 (Int.tdiv a0 60)) 60),.int .i64 (Int.tmod a0 60)] 117 (0,0)))/\aa (Below w.heap.size w w'))
  case atStart=>exact⟨(wrap64 (Int.tdiv a0 86400)),(1970),bR,H,⟨Nat.le_refl _⟩,⟨oQ⟩,⟨oQ⟩,⟨aX⟩⟩
  case round=>
   clear H;obtain⟨dH,ku,rfl,HA,ig,nz,jX,HB⟩:=hrel;cases gk with
   |zero=>exact absurd HA.out (by simp[dn.l0])
   |succ k1=>
    have H:=HA;clear HA;simp only[dn.l0] at H;obtain⟨acI,A8,H⟩:=nP H;rcases jw H with⟨-,pg,-,H⟩|⟨-,pg,-,H⟩
    ·obtain⟨acJ,JQ,H⟩:=nP H;have auS:=xV.out;have auT:=vz.out;have _:=TB jX;have abW:wr.cell? ⟨uQ,3,none⟩=some (.int .i64 (Int.tmod (wrap64 (Int.tdiv a0 3600)) 24)):=(ah jX.out 3).trans rfl;have abX:wr.cell? ⟨uQ,4,none⟩=some (.int .i64 (Int.tmod (wrap64 (Int.tdiv a0 60)) 60)):=(ah jX.out 4).trans rfl;have abY:=Gj jX;have _:=TC jX;go_wp2_with(first|((with_reducible refine cZ 203 rfl ?_);refine mM 24 rfl Tryz.func203 (kM.calls ku acI _ A8.out) fun nd=>?_;(try(rw[ko wr];generalize hq_:World.drewN wr _=wr;have kR:aa (wr.heap[wH]? = some (.cells #[.int .i64 0,.int .i64 0,.int .i64 0,.int .i64 0,.int .i64 0,.int .i64 0] 117 (0,0))):=⟨Zd⟩;have lF:aa (wr.heap[uQ]? = some (.cells #[.int .i64 ku,.int .i64 1,.int .i64 0,.int .i64 (Int.tmod (wrap64 (Int.tdiv a0 3600)) 24),.int .i64 (Int.tmod (wrap64 (Int.tdiv a0 60)) 60),.int .i64 (Int.tmod a0 60)] 117 (0,0))):=⟨ae3⟩;have uy:aa (Below w.heap.size w wr):=⟨by rw[<- hq_];exact aX⟩;clear nz jX HB hq_;have nz:=kR;have jX:=lF;have HB:=uy;clear kR lF uy;have _:=nN nz;have _:=nN jX)))|((with_reducible refine cZ 203 rfl ?_);refine mM 29 rfl Tryz.func203 (kM.calls ku acJ _ JQ.out) fun nd=>?_;(try(rw[ko wr];generalize hq_:World.drewN wr _=wr;have kR:aa (wr.heap[wH]? = some (.cells #[.int .i64 0,.int .i64 0,.int .i64 0,.int .i64 0,.int .i64 0,.int .i64 0] 117 (0,0))):=⟨Zd⟩;have lF:aa (wr.heap[uQ]? = some (.cells #[.int .i64 ku,.int .i64 1,.int .i64 0,.int .i64 (Int.tmod (wrap64 (Int.tdiv a0 3600)) 24),.int .i64 (Int.tmod (wrap64 (Int.tdiv a0 60)) 60),.int .i64 (Int.tmod a0 60)] 117 (0,0))):=⟨ae3⟩;have uy:aa (Below w.heap.size w wr):=⟨by rw[<- hq_];exact aX⟩;clear nz jX HB hq_;have nz:=kR;have jX:=lF;have HB:=uy;clear kR lF uy;have _:=nN nz;have _:=nN jX))));go_roundg k1
     case measure=>have:=ig.out;omega
     case rel=>exact⟨(wrap64 (dH-acJ)),(wrap64 (ku+1)),bR,H,⟨by have:=ig.out;omega⟩,⟨oQ⟩,⟨oQ⟩,⟨aX⟩⟩
    ·have aD6:=xV.out;have aD7:=vz.out;have _:=TB jX;have M9:wr.cell? ⟨uQ,3,none⟩=some (.int .i64 (Int.tmod (wrap64 (Int.tdiv a0 3600)) 24)):=(ah jX.out 3).trans rfl;have Na:wr.cell? ⟨uQ,4,none⟩=some (.int .i64 (Int.tmod (wrap64 (Int.tdiv a0 60)) 60)):=(ah jX.out 4).trans rfl;have Nb:=Gj jX;have _:=TC jX;go_wp2_with(first|((with_reducible refine cZ 203 rfl ?_);refine mM 24 rfl Tryz.func203 (kM.calls ku acI _ A8.out) fun nd=>?_));go_loopg [4] k1 (fun kq v4 w'=>∃(iG:Int) (oO:Int),v4 = .int .i64 iG/\aa (dn.l1 kq iG ku oO 0 (Int.tmod (wrap64 (Int.tdiv a0 3600)) 24) (Int.tmod (wrap64 (Int.tdiv a0 60)) 60) (Int.tmod a0 60)=some (r1,r2,r3,r4,r5,r6,r7))/\aa (kq<=k1)/\aa (w'.heap[wH]? = some (.cells #[.int .i64 0,.int .i64 0,.int .i64 0,.int .i64 0,.int .i64 0,.int .i64 0] 117 (0,0)))/\aa (w'.heap[uQ]? = some (.cells #[.int .i64 ku,.int .i64 oO,.int .i64 0,.int .i64 (Int.tmod (wrap64 (Int.tdiv a0 3600)) 24),.int .i64 (Int.tmod (wrap64 (Int.tdiv a0 60)) 60),.int .i64 (Int.tmod a0 60)] 117 (0,0)))/\aa (Below w.heap.size w w'))
     case atStart=>exact⟨(dH),(1),bR,H,⟨Nat.le_refl _⟩,⟨oQ⟩,⟨oQ⟩,⟨aX⟩⟩
     case round=>
      clear H;try clear c9
      try clear pg
      try clear M9
      try clear Na
      try clear Nb
      obtain⟨iG,oO,rfl,HA,tO,nz,jX,HB⟩:=hrel;cases gk with
      |zero=>exact absurd HA.out (by simp[dn.l1])
      |succ k2=>
       have H:=HA;clear HA;simp only[dn.l1] at H;obtain⟨acK,UI,H⟩:=nP H;rcases jw H with⟨-,sS,-,H⟩|⟨-,sS,-,H⟩
       ·obtain⟨acL,WV,H⟩:=nP H;have af7:=xV.out;have af8:=vz.out;have _:=TB jX;have Nc:wr.cell? ⟨uQ,3,none⟩=some (.int .i64 (Int.tmod (wrap64 (Int.tdiv a0 3600)) 24)):=(ah jX.out 3).trans rfl;have Nf:wr.cell? ⟨uQ,4,none⟩=some (.int .i64 (Int.tmod (wrap64 (Int.tdiv a0 60)) 60)):=(ah jX.out 4).trans rfl;have Ng:=Gj jX;have _:=TC jX;go_wp2_with(first|((with_reducible refine cZ 204 rfl ?_);refine mM 40 rfl Tryz.func204 (jS.calls ku oO acK _ UI.out) fun nd=>?_;(try(rw[ko wr];generalize hq_:World.drewN wr _=wr;have kR:aa (wr.heap[wH]? = some (.cells #[.int .i64 0,.int .i64 0,.int .i64 0,.int .i64 0,.int .i64 0,.int .i64 0] 117 (0,0))):=⟨Zd⟩;have lF:aa (wr.heap[uQ]? = some (.cells #[.int .i64 ku,.int .i64 oO,.int .i64 0,.int .i64 (Int.tmod (wrap64 (Int.tdiv a0 3600)) 24),.int .i64 (Int.tmod (wrap64 (Int.tdiv a0 60)) 60),.int .i64 (Int.tmod a0 60)] 117 (0,0))):=⟨ae3⟩;have uy:aa (Below w.heap.size w wr):=⟨by rw[<- hq_];exact aX⟩;clear nz jX HB hq_;have nz:=kR;have jX:=lF;have HB:=uy;clear kR lF uy;have _:=nN nz;have _:=nN jX)))|((with_reducible refine cZ 204 rfl ?_);refine mM 47 rfl Tryz.func204 (jS.calls ku oO acL _ WV.out) fun nd=>?_;(try(rw[ko wr];generalize hq_:World.drewN wr _=wr;have kR:aa (wr.heap[wH]? = some (.cells #[.int .i64 0,.int .i64 0,.int .i64 0,.int .i64 0,.int .i64 0,.int .i64 0] 117 (0,0))):=⟨Zd⟩;have lF:aa (wr.heap[uQ]? = some (.cells #[.int .i64 ku,.int .i64 oO,.int .i64 0,.int .i64 (Int.tmod (wrap64 (Int.tdiv a0 3600)) 24),.int .i64 (Int.tmod (wrap64 (Int.tdiv a0 60)) 60),.int .i64 (Int.tmod a0 60)] 117 (0,0))):=⟨ae3⟩;have uy:aa (Below w.heap.size w wr):=⟨by rw[<- hq_];exact aX⟩;clear nz jX HB hq_;have nz:=kR;have jX:=lF;have HB:=uy;clear kR lF uy;have _:=nN nz;have _:=nN jX))));go_roundg k2
        case measure=>have:=ig.out;have:=tO.out;omega
        case rel=>exact⟨(wrap64 (iG-acL)),(wrap64 (oO+1)),bR,H,⟨TI⟩,⟨oQ⟩,⟨oQ⟩,⟨aX⟩⟩
       ·simp only[Option.some.injEq,Prod.mk.injEq] at H;obtain⟨rfl,rfl,rfl,rfl,rfl,rfl,rfl⟩:=H;have aD8:=xV.out;have aD9:=vz.out;have _:=TB jX;have axz:wr.cell? ⟨uQ,3,none⟩=some (.int .i64 (Int.tmod (wrap64 (Int.tdiv a0 3600)) 24)):=(ah jX.out 3).trans rfl;have axA:wr.cell? ⟨uQ,4,none⟩=some (.int .i64 (Int.tmod (wrap64 (Int.tdiv a0 60)) 60)):=(ah jX.out 4).trans rfl;have axB:=Gj jX;have _:=TC jX;go_wp2_with(first|((with_reducible refine cZ 204 rfl ?_);refine mM 40 rfl Tryz.func204 (jS.calls ku oO acK _ UI.out) fun nd=>?_;(try(rw[ko wr];generalize hq_:World.drewN wr _=wr;have kR:aa (wr.heap[wH]? = some (.cells #[.int .i64 0,.int .i64 0,.int .i64 0,.int .i64 0,.int .i64 0,.int .i64 0] 117 (0,0))):=⟨Zd⟩;have lF:aa (wr.heap[uQ]? = some (.cells #[.int .i64 ku,.int .i64 oO,.int .i64 0,.int .i64 (Int.tmod (wrap64 (Int.tdiv a0 3600)) 24),.int .i64 (Int.tmod (wrap64 (Int.tdiv a0 60)) 60),.int .i64 (Int.tmod a0 60)] 117 (0,0))):=⟨ae3⟩;have uy:aa (Below w.heap.size w wr):=⟨by rw[<- hq_];exact aX⟩;clear nz jX HB hq_;have nz:=kR;have jX:=lF;have HB:=uy;clear kR lF uy;have _:=nN nz;have _:=nN jX));have _:=nN nz));refine TD wH 117 #[.int .i64 ku,.int .i64 oO,.int .i64 (wrap64 (iG+1)),.int .i64 (Int.tmod (wrap64 (Int.tdiv a0 3600)) 24),.int .i64 (Int.tmod (wrap64 (Int.tdiv a0 60)) 60),.int .i64 (Int.tmod a0 60)] Tryz.underlying117 ?_;exact⟨jv,aX⟩
 ·simp only[Option.some.injEq,Prod.mk.injEq] at H;obtain⟨rfl,rfl,rfl,rfl,rfl,rfl,rfl⟩:=H;go_enter Tryz.func161,Tryz.ntmps161;go_wp2_with(first|((with_reducible refine lT 2 rfl ?_);refine jL #[.int .i64 0,.int .i64 0,.int .i64 0,.int .i64 0,.int .i64 0,.int .i64 0] 117 ?_;intro wH hg w23 hbox hb;have nz:=aa.mk (hbox);have arI:=lJ hg;replace HB:=fw hb;clear hb hbox hg)|((with_reducible refine cZ 31 rfl ?_);refine mM 7 rfl Tryz.func31 (jR.calls a0 false _ A2.out) fun nd=>?_;(try(rw[ko w23];generalize hq_:World.drewN w23 _=w23;have kR:aa (w23.heap[wH]? = some (.cells #[.int .i64 0,.int .i64 0,.int .i64 0,.int .i64 0,.int .i64 0,.int .i64 0] 117 (0,0))):=⟨Zd⟩;have lF:aa (Below w.heap.size w w23):=⟨by rw[<- hq_];exact aX⟩;clear nz HB hq_;have nz:=kR;have HB:=lF;clear kR lF));have _:=nN nz));refine TD wH 117 #[.int .i64 0,.int .i64 0,.int .i64 0,.int .i64 0,.int .i64 0,.int .i64 0] Tryz.underlying117 ?_;exact⟨jv,aX⟩


def ky.f (a0:Int):Option (Int):=(jR.f a0).bind fun awf=>(if awf=true then(some (Int.tmod (wrap64 ((wrap64 (Int.tdiv a0 86400))+3)) 7)) else(some (-1)))
theorem ky.e0 {p:Prop} (h:p:=by
  obtain rfl:=aI H.out
  go_enter Tryz.func163,Tryz.ntmps163
  go_wp2_with(first|((with_reducible refine cZ 31 rfl ?_);refine mM 4 rfl Tryz.func31 (jR.calls a0 false _ A2.out) fun nd=>?_)|((with_reducible refine cZ 31 rfl ?_);refine mM 4 rfl Tryz.func31 (jR.calls a0 true _ A2.out) fun nd=>?_))
  go_ret
  exact⟨bR,iL⟩):p:=h
theorem ky.calls (a0 r:Int) (w:World) (h:ky.f a0=some r) :
  Calls Tryz.prog 163 #[.int .i64 a0] w fun e w'=>e = .returned (.int .i64 r)/\bH w w':=by
 have H:=aa.mk h;clear h;unfold ky.f at H;rcases lu H with⟨A2,H⟩|⟨A2,H⟩
 ·exact ky.e0
 ·exact ky.e0

def kN.f (a0:Int):Option (ByteArray):=if a0=0 then(some (⟨#[77,111,110,100,97,121]⟩:af)) else(if a0=1 then(some (⟨#[84,117,101,115,100,97,121]⟩:af)) else(if a0=2 then(some (⟨#[87,101,100,110,101,115,100,97,121]⟩:af)) else(if a0=3 then(some (⟨#[84,104,117,114,115,100,97,121]⟩:af)) else(if a0=4 then(some (⟨#[70,114,105,100,97,121]⟩:af)) else(if a0=5 then(some (⟨#[83,97,116,117,114,100,97,121]⟩:af)) else(some (⟨#[83,117,110,100,97,121]⟩:af)))))))
theorem kN.calls (a0:Int) (r:ByteArray) (w:World) (h:kN.f a0=some r) :
  Calls Tryz.prog 162 #[.int .i64 a0] w fun e w'=>e = .returned (.string r)/\bH w w':=by
 have H:=aa.mk h;clear h;unfold kN.f at H;rcases jw H with⟨c2,-,-,H⟩|⟨c2,-,-,H⟩
 ·obtain⟨jc,nD⟩:=kT c2;clear c2;obtain rfl:=aI H.out;go_enter Tryz.func162,Tryz.ntmps162;go_wp2;go_ret;exact⟨bR,iL⟩
 ·obtain⟨jc,nD⟩:=kU c2;rcases jw H with⟨c3,-,-,H⟩|⟨c3,-,-,H⟩
  ·obtain⟨cB,nE⟩:=kT c3;clear c3;obtain rfl:=aI H.out;go_enter Tryz.func162,Tryz.ntmps162;go_wp2;go_ret;exact⟨bR,iL⟩
  ·obtain⟨cB,nE⟩:=kU c3;rcases jw H with⟨c4,-,-,H⟩|⟨c4,-,-,H⟩
   ·obtain⟨jr,qy⟩:=kT c4;clear c4;obtain rfl:=aI H.out;go_enter Tryz.func162,Tryz.ntmps162;go_wp2;go_ret;exact⟨bR,iL⟩
   ·obtain⟨jr,qy⟩:=kU c4;rcases jw H with⟨c5,-,-,H⟩|⟨c5,-,-,H⟩
    ·obtain⟨jV,rO⟩:=kT c5;clear c5;obtain rfl:=aI H.out;go_enter Tryz.func162,Tryz.ntmps162;go_wp2;go_ret;exact⟨bR,iL⟩
    ·obtain⟨jV,rO⟩:=kU c5;rcases jw H with⟨c6,-,-,H⟩|⟨c6,-,-,H⟩
     ·obtain⟨jy,pq⟩:=kT c6;clear c6;obtain rfl:=aI H.out;go_enter Tryz.func162,Tryz.ntmps162;go_wp2;go_ret;exact⟨bR,iL⟩
     ·obtain⟨jy,pq⟩:=kU c6;rcases jw H with⟨c7,-,-,H⟩|⟨c7,-,-,H⟩
      ·obtain⟨nR,Ag⟩:=kT c7;clear c7;obtain rfl:=aI H.out;go_enter Tryz.func162,Tryz.ntmps162;go_wp2;go_ret;exact⟨bR,iL⟩
      ·obtain⟨nR,Ag⟩:=kU c7;obtain rfl:=aI H.out;go_enter Tryz.func162,Tryz.ntmps162;go_wp2;go_ret;exact⟨bR,iL⟩

def eY.l0 : Nat->Int->ByteArray->Option (ByteArray)
 |0,_,_=>none
 |k+1,x1,x5=>if(x5.size:Int)<x1 then(if 1+x5.size<=9223372036854775807 then(eY.l0 k x1 ((⟨#[48]⟩:af)++x5)) else(none)) else(some x5)
def eY.f (k:Nat) (a0:Int) (a1:Int):Option (ByteArray):=(bI.f k a0).bind fun acM=>(eY.l0 k a1 acM)
theorem eY.calls (k:Nat) (a0 a1:Int) (r:ByteArray) (w:World) (h:eY.f k a0 a1=some r) :
  Calls Tryz.prog 164 #[.int .i64 a0,.int .i64 a1] w fun e w'=>e = .returned (.string r)/\Below w.heap.size w w':=by
 have HB:=aa.mk (Below.refl w.heap.size w);have H:=aa.mk h;clear h;unfold eY.f at H;obtain⟨acM,A3,H⟩:=nP H;go_enter Tryz.func164,Tryz.ntmps164;go_wp2_with(first|((with_reducible refine cZ 102 rfl ?_);refine iW 7 rfl Tryz.func102 (bI.calls k a0 acM _ A3.out) fun w4 hb HB=>?_;clear hb));go_loopg [5] k (fun kq v5 w'=>∃(bu:ByteArray),v5 = .string bu/\aa (eY.l0 kq a1 bu=some r)/\aa (kq<=k)/\aa (Below w.heap.size w w'))
 case atStart=>exact⟨(acM),bR,H,⟨Nat.le_refl _⟩,⟨aX⟩⟩
 case round=>
  clear H;obtain⟨bu,rfl,HA,ig,HB⟩:=hrel;cases gk with
  |zero=>exact absurd HA.out (by simp[eY.l0])
  |succ k1=>
   have H:=HA;clear HA;simp only[eY.l0] at H;rcases jw H with⟨-,jV,-,H⟩|⟨-,jV,-,H⟩
   ·obtain⟨c6,pq,jy,H⟩:=nZ H;try have agN:=eq_false (Nat.not_lt.2 c6)
    go_wp2;go_roundg k1
    case measure=>have:=ig.out;omega
    case rel=>exact⟨((⟨#[48]⟩:af)++bu),bR,H,⟨by have:=ig.out;omega⟩,⟨aX⟩⟩
   ·obtain rfl:=aI H.out;go_wp2;go_ret;exact⟨jv,aX⟩


def iw.f (k:Nat) (ak:Int) (au:Int) (az:Int) (aJ:Int) (aD:Int) (di:Int):Option (ByteArray):=(eY.f k aJ 2).bind fun PD=>(if PD.size+1<=9223372036854775807 then((eY.f k aD 2).bind fun SL=>(if(PD++(⟨#[58]⟩:af)).size+SL.size<=9223372036854775807 then(if((PD++(⟨#[58]⟩:af))++SL).size+1<=9223372036854775807 then((eY.f k di 2).bind fun acN=>(if(((PD++(⟨#[58]⟩:af))++SL)++(⟨#[58]⟩:af)).size+acN.size<=9223372036854775807 then(some ((((PD++(⟨#[58]⟩:af))++SL)++(⟨#[58]⟩:af))++acN)) else(none))) else(none)) else(none))) else(none))
def iw.T1 : Bool×List (List Nat×List Nat):=(true,[([],[]),([0],[0]),([1],[1]),([2],[2]),([],[]),([4],[4]),([5,2],[5]),([3,6],[3,6]),([7],[7]),([],[]),([9],[9]),([10,6],[10]),([8,11],[8,11]),([12,11,0,1,2,3,4,5,6,7,8,9,10,11,12],[12])])
def iw.B1 : List Nat:=[0,1,3,7,0,16,55,127,255,0,512,1655,4095,8191]
theorem iw.yo : nL .any (opsOf Tryz.f165 1)=iw.T1:=by kernel_rfl
theorem iw.rP : jf iw.T1.2 iw.B1=true:=by kernel_rfl
theorem iw.calls (k:Nat) (ak au:Int) (az aJ:Int) (aD di:Int) (r:ByteArray) (w:World) (h:iw.f k ak au az aJ aD di=some r) :
  Calls Tryz.prog 165 #[.agg #[.int .i64 ak,.int .i64 au,.int .i64 az,.int .i64 aJ,.int .i64 aD,.int .i64 di]] w fun e w'=>e = .returned (.string r)/\Below w.heap.size w w':=by
 have zL:=Tryz.underlying117;have HB:=aa.mk (Below.refl w.heap.size w);have H:=aa.mk h;clear h;unfold iw.f at H;obtain⟨PD,A2,H⟩:=nP H;rcases jw H with⟨c3,nE,cB,H⟩|⟨c3,-,-,H⟩
 ·try have Mv:=eq_false (Nat.not_lt.2 c3)
  obtain⟨SL,A4,H⟩:=nP H;obtain⟨c5,rO,jV,H⟩:=nZ H;try have akA:=eq_false (Nat.not_lt.2 c5)
  try(have GQ:=c5;simp only[ByteArray.size_append,si,List.length_cons,List.length_nil,Nat.zero_add,Nat.reduceAdd] at GQ;replace GQ:=eq_false (Nat.not_lt.2 GQ))
  obtain⟨c6,pq,jy,H⟩:=nZ H;try have agN:=eq_false (Nat.not_lt.2 c6)
  try(have OA:=c6;simp only[ByteArray.size_append,si,List.length_cons,List.length_nil,Nat.zero_add,Nat.reduceAdd] at OA;replace OA:=eq_false (Nat.not_lt.2 OA))
  obtain⟨acN,A7,H⟩:=nP H;obtain⟨c8,za,mU,H⟩:=nZ H;try have aqV:=eq_false (Nat.not_lt.2 c8)
  try(have aau:=c8;simp only[ByteArray.size_append,si,List.length_cons,List.length_nil,Nat.zero_add,Nat.reduceAdd] at aau;replace aau:=eq_false (Nat.not_lt.2 aau))
  obtain rfl:=aI H.out;go_enter Tryz.func165,Tryz.ntmps165;try go_wp2_with(((with_reducible refine lT 1 rfl ?_);refine Fp #[.int .i64 ak,.int .i64 au,.int .i64 az,.int .i64 aJ,.int .i64 aD,.int .i64 di] 117 ?_;clear HB;intro CL gG AZ aAQ HB))
  replace AZ:=aa.mk (eu AZ.out);replace HB:=aa.mk (bE HB.out);refine jP (n:=14) (S:=fun w'=>w'.cell? ⟨CL,0,none⟩=some (.int .i64 ak)/\w'.cell? ⟨CL,1,none⟩=some (.int .i64 au)/\w'.cell? ⟨CL,2,none⟩=some (.int .i64 az)/\w'.cell? ⟨CL,3,none⟩=some (.int .i64 aJ)/\w'.cell? ⟨CL,4,none⟩=some (.int .i64 aD)/\w'.cell? ⟨CL,5,none⟩=some (.int .i64 di)) (ds:=[]) (pI AZ) (fun hHeld=>?_);refine dw iw.yo iw.rP (fun HT_ HW_=>?_);generalize gG.drew=jH at AZ HB hHeld ⊢;repeat(first|refine lC ?_ (hy:=Or.inl ⟨by rfl,TE⟩)|refine dA ?_)
  refine bq 4 (some 7) ?_;refine fB 5 (some 8) (hy:=Or.inl ⟨by rfl,TE⟩) ?_;refine bq 9 (some 12) ?_;refine fB 10 (some 13) (hy:=Or.inl ⟨by rfl,TE⟩) ?_;refine fG (fun K hK=>?_);refine EY Tryz.func164 (eY.calls k aJ 2 PD _ A2.out) fun mP hb=>?_;replace AZ:=eF (g:=CL) hb;replace HB:=fw hb;(try clear hb)
  refine hK.out _ _ (pI AZ) (fun hHeld=>?_);clear hK K;refine bY ?_;repeat(first|refine dA ?_)
  refine fG (fun K hK=>?_);refine EY Tryz.func164 (eY.calls k aD 2 SL _ A4.out) fun mP hb=>?_;replace AZ:=eF (g:=CL) hb;replace HB:=fw hb;(try clear hb)
  refine hK.out _ _ (pI AZ) (fun hHeld=>?_);clear hK K;refine bY ?_;repeat(first|refine dA ?_)
  refine fG (fun K hK=>?_);refine EY Tryz.func164 (eY.calls k di 2 acN _ A7.out) fun mP hb=>?_;replace AZ:=eF (g:=CL) hb;replace HB:=fw hb;(try clear hb)
  refine hK.out _ _ (pI AZ) (fun hHeld=>?_);clear hK K;refine bY ?_;repeat(first|refine dA ?_)
  refine kI (fP HT_.out dK) ?_;try go_wp2
  go_ret;exact⟨jv,aX⟩
 ·exact absurd H.out (by simp)


def gU.f (k:Nat) (a0:Int):Option (ByteArray):=(dn.f k a0).bind fun Ba=>(if Ba.2.2.2.2.2.2=true then((ky.f a0).bind fun acO=>((kN.f acO).bind fun tQ=>(if 0<=3 then(if 3<=(tQ.size:Int) then(if(tQ.extract 0 3).size+2<=9223372036854775807 then((eY.f k Ba.2.2.1 2).bind fun wI=>(if((tQ.extract 0 3)++(⟨#[44,32]⟩:af)).size+wI.size<=9223372036854775807 then(if(((tQ.extract 0 3)++(⟨#[44,32]⟩:af))++wI).size+1<=9223372036854775807 then((iq.f Ba.2.1).bind fun z8=>(if((((tQ.extract 0 3)++(⟨#[44,32]⟩:af))++wI)++(⟨#[32]⟩:af)).size+z8.size<=9223372036854775807 then(if(((((tQ.extract 0 3)++(⟨#[44,32]⟩:af))++wI)++(⟨#[32]⟩:af))++z8).size+1<=9223372036854775807 then((eY.f k Ba.1 4).bind fun EI=>(if((((((tQ.extract 0 3)++(⟨#[44,32]⟩:af))++wI)++(⟨#[32]⟩:af))++z8)++(⟨#[32]⟩:af)).size+EI.size<=9223372036854775807 then(if(((((((tQ.extract 0 3)++(⟨#[44,32]⟩:af))++wI)++(⟨#[32]⟩:af))++z8)++(⟨#[32]⟩:af))++EI).size+1<=9223372036854775807 then((iw.f k Ba.1 Ba.2.1 Ba.2.2.1 Ba.2.2.2.1 Ba.2.2.2.2.1 Ba.2.2.2.2.2.1).bind fun PE=>(if((((((((tQ.extract 0 3)++(⟨#[44,32]⟩:af))++wI)++(⟨#[32]⟩:af))++z8)++(⟨#[32]⟩:af))++EI)++(⟨#[32]⟩:af)).size+PE.size<=9223372036854775807 then(if(((((((((tQ.extract 0 3)++(⟨#[44,32]⟩:af))++wI)++(⟨#[32]⟩:af))++z8)++(⟨#[32]⟩:af))++EI)++(⟨#[32]⟩:af))++PE).size+4<=9223372036854775807 then(some ((((((((((tQ.extract 0 3)++(⟨#[44,32]⟩:af))++wI)++(⟨#[32]⟩:af))++z8)++(⟨#[32]⟩:af))++EI)++(⟨#[32]⟩:af))++PE)++(⟨#[32,71,77,84]⟩:af))) else(none)) else(none))) else(none)) else(none))) else(none)) else(none))) else(none)) else(none))) else(none)) else(none)) else(none)))) else(some (⟨#[]⟩:af)))
def gU.T4 : Bool×List (List Nat×List Nat):=(true,[([],[]),([0],[0]),([1,1],[1]),([2],[2]),([3],[3]),([],[]),([5],[5]),([6,2],[6]),([4,7],[4,7]),([8],[8]),([],[]),([10],[10]),([11,7],[11]),([9,12],[9,12]),([13],[13]),([],[]),([15],[15]),([16,12],[16]),([14,17],[14,17]),([18],[18]),([],[]),([20,17],[20]),([19,21],[19,21]),([22],[22]),([23,21,0,1,2,3,4,5,6,7,8,9,10,11,12,13,14,15,16,17,18,19,20,21,22,23],[23])])
def gU.B4 : List Nat:=[0,1,3,7,15,0,32,103,255,511,0,1024,3303,8191,16383,0,32768,105703,262143,524287,0,1285351,4194303,8388607,16777215]
theorem gU.aaz : nL .any (opsOf Tryz.f117 4)=gU.T4:=by kernel_rfl
theorem gU.O6 : jf gU.T4.2 gU.B4=true:=by kernel_rfl
theorem gU.calls (k:Nat) (a0:Int) (r:ByteArray) (w:World) (h:gU.f k a0=some r) :
  Calls Tryz.prog 117 #[.int .i64 a0] w fun e w'=>e = .returned (.string r)/\Below w.heap.size w w':=by
 have zL:=Tryz.underlying117;have HB:=aa.mk (Below.refl w.heap.size w);have H:=h;clear h;unfold gU.f at H;replace H:=gD H;obtain⟨⟨Ju,Jv,Jw,LA,LB,LC,aEa⟩,A2,H⟩:=H;dsimp only at H;replace H:=gB H;rcases H with⟨rfl,H⟩|⟨rfl,H⟩
 ·replace H:=gD H;obtain⟨acO,A4,H⟩:=H;replace H:=gD H;obtain⟨tQ,A5,H⟩:=H;replace H:=gN H;obtain⟨-,pq,jy,H⟩:=H;replace H:=gN H;obtain⟨-,Ag,nR,H⟩:=H;replace H:=gN H;obtain⟨c8,za,mU,H⟩:=H;try have aqV:=eq_false (Nat.not_lt.2 c8)
  try have c8m:(9223372036854775807<min 3 tQ.size+2)=False:=by have h_:=aqV;simpa only[ByteArray.size_extract,Nat.sub_zero] using h_
  replace H:=gD H;obtain⟨wI,A9,H⟩:=H;replace H:=gN H;obtain⟨c10,Aw,pX,H⟩:=H;try have aoR:=eq_false (Nat.not_lt.2 c10)
  try(have acP:=c10;simp only[ByteArray.size_append,si,List.length_cons,List.length_nil,Nat.zero_add,Nat.reduceAdd] at acP;replace acP:=eq_false (Nat.not_lt.2 acP))
  try have aF3:(9223372036854775807<min 3 tQ.size+2+wI.size)=False:=by have h_:=acP;simpa only[ByteArray.size_extract,Nat.sub_zero] using h_
  replace H:=gN H;obtain⟨c11,Aq,oV,H⟩:=H;try have ahd:=eq_false (Nat.not_lt.2 c11)
  try(have LD:=c11;simp only[ByteArray.size_append,si,List.length_cons,List.length_nil,Nat.zero_add,Nat.reduceAdd] at LD;replace LD:=eq_false (Nat.not_lt.2 LD))
  try have azS:(9223372036854775807<min 3 tQ.size+2+wI.size+1)=False:=by have h_:=LD;simpa only[ByteArray.size_extract,Nat.sub_zero] using h_
  replace H:=gD H;obtain⟨z8,JR,H⟩:=H;replace H:=gN H;obtain⟨c13,wo,qG,H⟩:=H;try have ab1:=eq_false (Nat.not_lt.2 c13)
  try(have Bv:=c13;simp only[ByteArray.size_append,si,List.length_cons,List.length_nil,Nat.zero_add,Nat.reduceAdd] at Bv;replace Bv:=eq_false (Nat.not_lt.2 Bv))
  try have azT:(9223372036854775807<min 3 tQ.size+2+wI.size+1+z8.size)=False:=by have h_:=Bv;simpa only[ByteArray.size_extract,Nat.sub_zero] using h_
  replace H:=gN H;obtain⟨c14,Lm,wu,H⟩:=H;try have ab2:=eq_false (Nat.not_lt.2 c14)
  try(have Bw:=c14;simp only[ByteArray.size_append,si,List.length_cons,List.length_nil,Nat.zero_add,Nat.reduceAdd] at Bw;replace Bw:=eq_false (Nat.not_lt.2 Bw))
  try have au0:(9223372036854775807<min 3 tQ.size+2+wI.size+1+z8.size+1)=False:=by have h_:=Bw;simpa only[ByteArray.size_extract,Nat.sub_zero] using h_
  replace H:=gD H;obtain⟨EI,UI,H⟩:=H;replace H:=gN H;obtain⟨c16,Bu,sS,H⟩:=H;try have avc:=eq_false (Nat.not_lt.2 c16)
  try(have Lt:=c16;simp only[ByteArray.size_append,si,List.length_cons,List.length_nil,Nat.zero_add,Nat.reduceAdd] at Lt;replace Lt:=eq_false (Nat.not_lt.2 Lt))
  try have aF4:(9223372036854775807<min 3 tQ.size+2+wI.size+1+z8.size+1+EI.size)=False:=by have h_:=Lt;simpa only[ByteArray.size_extract,Nat.sub_zero] using h_
  replace H:=gN H;obtain⟨c17,Az,sP,H⟩:=H;try have awg:=eq_false (Nat.not_lt.2 c17)
  try(have LF:=c17;simp only[ByteArray.size_append,si,List.length_cons,List.length_nil,Nat.zero_add,Nat.reduceAdd] at LF;replace LF:=eq_false (Nat.not_lt.2 LF))
  try have aF5:(9223372036854775807<min 3 tQ.size+2+wI.size+1+z8.size+1+EI.size+1)=False:=by have h_:=LF;simpa only[ByteArray.size_extract,Nat.sub_zero] using h_
  replace H:=gD H;obtain⟨PE,ZV,H⟩:=H;replace H:=gN H;obtain⟨c19,Eh,yG,H⟩:=H;try have aoC:=eq_false (Nat.not_lt.2 c19)
  try(have Jb:=c19;simp only[ByteArray.size_append,si,List.length_cons,List.length_nil,Nat.zero_add,Nat.reduceAdd] at Jb;replace Jb:=eq_false (Nat.not_lt.2 Jb))
  try have azV:(9223372036854775807<min 3 tQ.size+2+wI.size+1+z8.size+1+EI.size+1+PE.size)=False:=by have h_:=Jb;simpa only[ByteArray.size_extract,Nat.sub_zero] using h_
  replace H:=gN H;obtain⟨c20,Dl,uu,H⟩:=H;try have Xt:=eq_false (Nat.not_lt.2 c20)
  try(have xS:=c20;simp only[ByteArray.size_append,si,List.length_cons,List.length_nil,Nat.zero_add,Nat.reduceAdd] at xS;replace xS:=eq_false (Nat.not_lt.2 xS))
  try have au1:(9223372036854775807<min 3 tQ.size+2+wI.size+1+z8.size+1+EI.size+1+PE.size+4)=False:=by have h_:=xS;simpa only[ByteArray.size_extract,Nat.sub_zero] using h_
  obtain rfl:=aI H;go_enter Tryz.func117,Tryz.ntmps117;try go_wp2_with(first|((with_reducible refine cZ 161 rfl ?_);refine iW 7 rfl Tryz.func161 (dn.calls k a0 Ju Jv Jw LA LB LC true _ A2.out) fun gG hb HB=>?_;clear hb)|((with_reducible refine lT 3 rfl ?_);refine jL #[.int .i64 0,.int .i64 0,.int .i64 0,.int .i64 0,.int .i64 0,.int .i64 0] 117 ?_;intro mF hg jH hbox hb;have rZ:=aa.mk (hbox);have arJ:=lJ hg;replace HB:=fw hb;clear hb hbox hg;have _:=nN rZ))
  have yJ:aa (((((((jH.setCell ⟨mF,0,none⟩ (.int .i64 Ju)).setCell ⟨mF,1,none⟩ (.int .i64 Jv)).setCell ⟨mF,2,none⟩ (.int .i64 Jw)).setCell ⟨mF,3,none⟩ (.int .i64 LA)).setCell ⟨mF,4,none⟩ (.int .i64 LB)).setCell ⟨mF,5,none⟩ (.int .i64 LC)).heap[mF]? = some (.cells #[.int .i64 Ju,.int .i64 Jv,.int .i64 Jw,.int .i64 LA,.int .i64 LB,.int .i64 LC] 117 (0,0))):=⟨oQ⟩;have uW:aa (Below w.heap.size w ((((((jH.setCell ⟨mF,0,none⟩ (.int .i64 Ju)).setCell ⟨mF,1,none⟩ (.int .i64 Jv)).setCell ⟨mF,2,none⟩ (.int .i64 Jw)).setCell ⟨mF,3,none⟩ (.int .i64 LA)).setCell ⟨mF,4,none⟩ (.int .i64 LB)).setCell ⟨mF,5,none⟩ (.int .i64 LC))):=⟨aX⟩;(try clear rZ)
  (try clear HB)
  generalize((((((jH.setCell ⟨mF,0,none⟩ (.int .i64 Ju)).setCell ⟨mF,1,none⟩ (.int .i64 Jv)).setCell ⟨mF,2,none⟩ (.int .i64 Jw)).setCell ⟨mF,3,none⟩ (.int .i64 LA)).setCell ⟨mF,4,none⟩ (.int .i64 LB)).setCell ⟨mF,5,none⟩ (.int .i64 LC))=uo at yJ uW ⊢;have rZ:=yJ;have HB:=uW;clear yJ uW;replace rZ:=aa.mk (eu rZ.out);replace HB:=aa.mk (bE HB.out);refine jP (n:=25) (S:=fun w'=>w'.cell? ⟨mF,0,none⟩=some (.int .i64 Ju)/\w'.cell? ⟨mF,1,none⟩=some (.int .i64 Jv)/\w'.cell? ⟨mF,2,none⟩=some (.int .i64 Jw)/\w'.cell? ⟨mF,3,none⟩=some (.int .i64 LA)/\w'.cell? ⟨mF,4,none⟩=some (.int .i64 LB)/\w'.cell? ⟨mF,5,none⟩=some (.int .i64 LC)) (ds:=[]) (pI rZ) (fun hHeld=>?_);refine dw gU.aaz gU.O6 (fun HT_ HW_=>?_);generalize uo.drew=Af at rZ HB hHeld ⊢;repeat(first|refine dA ?_)
  refine bq 5 (some 17) ?_;refine fB 6 (some 18) (hy:=Or.inl ⟨by rfl,TE⟩) ?_;refine bq 10 (some 22) ?_;refine fB 11 (some 23) (hy:=Or.inl ⟨by rfl,TE⟩) ?_;refine bq 15 (some 27) ?_;refine fB 16 (some 28) (hy:=Or.inl ⟨by rfl,TE⟩) ?_;refine fB 20 (some 32) (hy:=Or.inl ⟨by rfl,TE⟩) ?_;refine fG (fun K hK=>?_);refine BZ Tryz.func163 (ky.calls a0 acO _ A4.out) fun nd=>?_;refine hK.out _ _ (pI rZ) (fun hHeld=>?_);clear hK K;refine bY ?_;refine fG (fun K hK=>?_);refine BZ Tryz.func162 (kN.calls acO tQ _ A5.out) fun nd=>?_;refine hK.out _ _ (pI rZ) (fun hHeld=>?_);clear hK K;refine bY ?_;repeat(first|refine dA ?_)
  refine fG (fun K hK=>?_);refine EY Tryz.func164 (eY.calls k Jw 2 wI _ A9.out) fun Cu hb=>?_;replace rZ:=eF (g:=mF) hb;replace HB:=fw hb;(try clear hb)
  refine hK.out _ _ (pI rZ) (fun hHeld=>?_);clear hK K;refine bY ?_;repeat(first|refine dA ?_)
  refine fG (fun K hK=>?_);refine BZ Tryz.func160 (iq.calls Jv z8 _ JR.out) fun nd=>?_;refine hK.out _ _ (pI rZ) (fun hHeld=>?_);clear hK K;refine bY ?_;repeat(first|refine dA ?_)
  refine fG (fun K hK=>?_);refine EY Tryz.func164 (eY.calls k Ju 4 EI _ UI.out) fun Cu hb=>?_;replace rZ:=eF (g:=mF) hb;replace HB:=fw hb;(try clear hb)
  refine hK.out _ _ (pI rZ) (fun hHeld=>?_);clear hK K;refine bY ?_;repeat(first|refine dA ?_)
  refine fG (fun K hK=>?_);refine EY Tryz.func165 (iw.calls k Ju Jv Jw LA LB LC PE _ ZV.out) fun Cu hb=>?_;replace rZ:=eF (g:=mF) hb;replace HB:=fw hb;(try clear hb)
  refine hK.out _ _ (pI rZ) (fun hHeld=>?_);clear hK K;refine bY ?_;repeat(first|refine dA ?_)
  refine kI (fP HT_.out dK) ?_;try go_wp2
  go_ret;exact⟨jv,aX⟩
 ·obtain rfl:=aI H;go_enter Tryz.func117,Tryz.ntmps117;go_wp2_with(first|((with_reducible refine cZ 161 rfl ?_);refine iW 7 rfl Tryz.func161 (dn.calls k a0 Ju Jv Jw LA LB LC false _ A2.out) fun Kb hb HB=>?_;clear hb)|((with_reducible refine lT 3 rfl ?_);refine jL #[.int .i64 0,.int .i64 0,.int .i64 0,.int .i64 0,.int .i64 0,.int .i64 0] 117 ?_;intro mF hg jH hbox hb;have rZ:=aa.mk (hbox);have arJ:=lJ hg;replace HB:=fw hb;clear hb hbox hg;have _:=nN rZ));go_ret;exact⟨jv,aX⟩

end Go.Proofs.YtfhllanhldbkkaaGreatDoor.P
