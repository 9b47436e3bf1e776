import Derived.Test.YtfhllanhldbkkaaGreatDoorPx0
import Derived.Test.YtfhllanhldbkkaaGreatDoorWC
namespace Go.Proofs.YtfhllanhldbkkaaGreatDoor.P
open Go.RowKit Go.Proofs.YtfhllanhldbkkaaGreatDoorW.PrintWords Go.Proofs.YtfhllanhldbkkaaGreatDoorW.PrintLast Go.Proofs.YtfhllanhldbkkaaGreatDoorW.PrintMore
attribute [local go_sem] max2_int min2_int max_two min_two max_three min_three max_four min_four   -- for this text's walks alone
set_option linter.unusedVariables false
set_option linter.unusedSimpArgs false

def spec_l1lower.f (a0:Int):Option (Int):=if a0≥65 then(if a0≤90 then(some ((a0+32)%256)) else(some a0)) else(some a0)
set_option maxHeartbeats 8000000 in
set_option maxRecDepth 100000 in
theorem spec_l1lower.calls (a0:Int) (r:Int) (w:World) (h:spec_l1lower.f a0=some r) :
  Calls Tryz.prog 125 #[.int .u8 a0] w fun e w'=>e = .returned (.int .u8 r)∧Drawn0 w w':=by
 have H:=h
 clear h
 unfold spec_l1lower.f at H
 replace H:=gI H
 rcases H with⟨c2,-,-,H⟩|⟨c2,-,-,H⟩
 ·have c2b0:decide (65≤a0)=true:=decide_eq_true c2
  clear c2
  replace H:=gI H
  rcases H with⟨-,c3b0,-,H⟩|⟨-,c3b0,-,H⟩
  ·obtain rfl:=Option.some.inj H
   go_enter Tryz.func125,Tryz.ntmps125
   go_wp2
   go_ret
   exact⟨gq4,gq5⟩
  ·obtain rfl:=Option.some.inj H
   go_enter Tryz.func125,Tryz.ntmps125
   go_wp2
   go_ret
   exact⟨gq4,gq5⟩
 ·have c2b0:decide (65≤a0)=false:=decide_eq_false c2
  clear c2
  obtain rfl:=Option.some.inj H
  go_enter Tryz.func125,Tryz.ntmps125
  go_wp2
  go_ret
  exact⟨gq4,gq5⟩

theorem l1lower_low (c:Int) (h0:0≤c) (h1:c≤255):spec_l1lower.f c=some (low c):=by
 unfold spec_l1lower.f low
 by_cases h:c≥65
 ·rw[if_pos h]
  by_cases h2:c≤90
  ·rw[if_pos h2,if_pos ⟨by omega,h2⟩];congr 1;omega
  ·rw[if_neg h2,if_neg (by omega)]
 ·rw[if_neg h,if_neg (by omega)]
def spec_Fold.f (a0:ByteArray):Option (ByteArray):=if a0.size≤9223372036854775807 then some (foldS a0) else none
set_option maxHeartbeats 8000000 in
set_option maxRecDepth 100000 in
theorem spec_Fold.calls (a0:ByteArray) (r:ByteArray) (w:World) (h:spec_Fold.f a0=some r) :
  Calls Tryz.prog 83 #[.string a0] w fun e w'=>e = .returned (.string r)∧Below w.heap.size w w':=by
 unfold spec_Fold.f at h
 by_cases hs:a0.size≤9223372036854775807
 case neg=>rw[if_neg hs] at h;cases h
 rw[if_pos hs] at h
 obtain rfl:=Option.some.inj h
 clear h
 have kb:=fun W=>print_bytes (P:=Tryz.prog) 9 100 5 Tryz.underlying9 Tryz.underlying100 Tryz.underlying5 a0 W
 have hrow0:BRow (Lib.bytesWorld w 5 a0) w.heap.size 5 (lowTo a0 0):=by rw[lowTo_zero];exact BRow.new w 5 a0
 have hbel0:Below w.heap.size w (Lib.bytesWorld w 5 a0):=bytes_below (Below.refl _ _) (Nat.le_refl _) 5 a0
 go_enter Tryz.func83,Tryz.ntmps83
 go_wp2
 clear kb
 go_loopw [4] (fun i wr=>∃ k:Nat,k≤a0.size∧i = .int .i64 k∧BRow wr w.heap.size 5 (lowTo a0 k)∧Below w.heap.size w wr) (fun i _=>a0.size-(intOf i).toNat)
 case atStart=>exact⟨0,Nat.zero_le _,rfl,hrow0,hbel0⟩
 case round=>
  obtain⟨k,hk,rfl,hrow,hbel⟩:=hrel
  clear hrow0 hbel0
  by_cases hlt:k<a0.size
  ·have hcell:=hrow.cell k (by rw[lowTo_length];exact hlt)
   rw[lowTo_at a0 k hlt] at hcell
   have hfree:=hrow.free k (by rw[lowTo_length];exact hlt)
   have hr:=bt_range a0 (k:Int)
   have hl:=l1lower_low (bt a0 k) hr.1 hr.2
   have Hrow:=Aside0.mk hrow
   have Hbel:=Aside0.mk hbel
   clear hrow hbel
   go_wp2_with(go_at_call 125;refine(spec_l1lower.calls _ _ _ hl).mono ?_;rintro e w' ⟨rfl,⟨nd,rfl⟩⟩)
   exact⟨⟨k+1,by omega,by go_num,by rw[← lowTo_succ a0 k hlt];exact(Hrow.out.drewN nd).set k (by rw[lowTo_length];exact hlt) _,(below_drewN1 Hbel.out nd).setCell (Nat.le_refl _) _⟩,by simp[intOf];omega⟩
  ·obtain rfl:k=a0.size:=by omega
   have kc:=fun c=>BRow.str (P:=Tryz.prog) (src:=100) (dst:=9) hrow Tryz.underlying100 Tryz.underlying5 Tryz.underlying9 a0.size c (lowTo_length a0 _)
   rw[lowTo_all] at kc
   have Hbel:=Aside0.mk hbel
   clear hrow hbel
   go_wp2
   go_ret
   exact⟨rfl,Hbel.out⟩

def spec_l1digit.f (a0:Int):Option (Bool):=if a0≥48 then(some (decide (a0≤57))) else(some false)
set_option maxHeartbeats 8000000 in
set_option maxRecDepth 100000 in
theorem spec_l1digit.calls (a0:Int) (r:Bool) (w:World) (h:spec_l1digit.f a0=some r) :
  Calls Tryz.prog 77 #[.int .u8 a0] w fun e w'=>e = .returned (.bool r)∧Drawn0 w w':=by
 have H:=h
 clear h
 unfold spec_l1digit.f at H
 replace H:=gI H
 rcases H with⟨c2,-,-,H⟩|⟨c2,-,-,H⟩
 ·have c2b0:decide (48≤a0)=true:=decide_eq_true c2
  clear c2
  obtain rfl:=Option.some.inj H
  go_enter Tryz.func77,Tryz.ntmps77
  go_wp2
  go_ret
  exact⟨gq4,gq5⟩
 ·have c2b0:decide (48≤a0)=false:=decide_eq_false c2
  clear c2
  obtain rfl:=Option.some.inj H
  go_enter Tryz.func77,Tryz.ntmps77
  go_wp2
  go_ret
  exact⟨gq4,gq5⟩


mutual
def spec_DecText.j0 : Nat→Int→Bool→Option (ByteArray)
 |0,_,_=>none
 |k+1,x0,x8=>if x8=true then(some (⟨#[]⟩:ByteArray)) else(if x0<10 then(some (strOfNums (([(wrap64 (48+x0))%256]:List Int)))) else((spec_DecText.f k (wrap64 (Int.tdiv x0 10))).bind fun t197=>((some (([(wrap64 (48+(Int.tmod x0 10)))%256]:List Int):List Int)).bind fun y198=>(if t197.size+(strOfNums y198).size≤9223372036854775807 then(some (t197++(strOfNums y198))) else(none)))))
def spec_DecText.f : Nat→Int→Option (ByteArray)
 |0,_=>none
 |k+1,a0=>if a0<0 then(spec_DecText.j0 k a0 true) else(spec_DecText.j0 k a0 (decide (a0>999999999999999)))
end
def spec_DecText.T5 : Bool×List (List Nat×List Nat):=(true,[([],[]),([0],[0]),([1],[1]),([],[]),([3],[3]),([4],[4]),([5],[5]),([6],[6]),([7],[7]),([2,8],[2,8]),([9,2,0,1,2,3,4,5,6,7,8,9],[9])])
def spec_DecText.B5 : List Nat:=[0,1,3,0,8,24,56,120,248,511,1023]
theorem spec_DecText.tab5 : rtab .any (opsOf Tryz.f102 5)=spec_DecText.T5:=by kernel_rfl
theorem spec_DecText.bits5 : waitsOk spec_DecText.T5.2 spec_DecText.B5=true:=by kernel_rfl
set_option maxHeartbeats 8000000 in
set_option maxRecDepth 100000 in
theorem spec_DecText.calls (k:Nat):∀(a0:Int) (r:ByteArray) (w:World) (h:spec_DecText.f k a0=some r),
  Calls Tryz.prog 102 #[.int .i64 a0] w fun e w'=>e = .returned (.string r)∧Below w.heap.size w w':=by
 induction k using Nat.strongRecOn with
 |_ k ih=>
 intro a0 r w h
 cases k with
 |zero=>exact absurd h (by simp[spec_DecText.f])
 |succ k=>
 simp only[spec_DecText.f] at h
 have HB:=Aside0.mk (Below.refl w.heap.size w)
 have H:(if a0<0 then(spec_DecText.j0 k a0 true) else(spec_DecText.j0 k a0 (decide (a0>999999999999999))))=some r:=h
 clear h
 have HC2:=Aside0.mk H
 clear H
 go_enter Tryz.func102,Tryz.ntmps102
 go_upto_region 1 with(fail)
 go_cut [8] (fun v8 wc=>∃(kq:Nat) (x8_1:Bool),v8 = .bool x8_1∧Aside0 (spec_DecText.j0 kq a0 x8_1=some r)∧Aside0 (kq≤k)∧Aside0 (Below w.heap.size w wc))
 case first=>
  have H:=HC2.out
  clear HC2
  replace H:=gI H
  rcases H with⟨-,c3b0,-,H⟩|⟨-,c3b0,-,H⟩
  ·(first|rw[c3b0]|(simp only[i64_w,i32_w];rw[c3b0])|skip)
   have H':=Aside0.mk H
   clear H
   go_wp2
   go_meet
   case rel=>exact⟨_,(true),gq4,H',⟨gq8⟩,⟨gBe⟩⟩
  ·(first|rw[c3b0]|(simp only[i64_w,i32_w];rw[c3b0])|skip)
   have H':=Aside0.mk H
   clear H
   go_wp2
   go_meet
   case rel=>exact⟨_,(decide (a0>999999999999999)),gq4,H',⟨gq8⟩,⟨gBe⟩⟩
 case rest=>
  clear HC2
  obtain⟨kq,x8_1,rfl,HA,HJ1,HB⟩:=hcut
  cases kq with
  |zero=>exact absurd HA.out (by simp[spec_DecText.j0])
  |succ kj1=>
   have H:=HA.out
   clear HA
   simp only[spec_DecText.j0] at H
   replace H:=gB H
   rcases H with⟨rfl,H⟩|⟨rfl,H⟩
   ·obtain rfl:=Option.some.inj H
    go_wp2
    go_ret
    exact⟨gq2,gBe⟩
   ·replace H:=gI H
    rcases H with⟨-,c5b0,-,H⟩|⟨-,c5b0,-,H⟩
    ·obtain⟨y194,hy194⟩:∃ y_:List Int,y_=(([(wrap64 (48+a0))%256]:List Int)):=⟨_,rfl⟩
     replace H:(some (strOfNums y194))=some r:=by first|(rw[hy194];with_reducible exact H)|(have H2_:=(Option.bind_some _ _).symm.trans H;rw[hy194];with_reducible exact H2_)|(have H2_:=(Option.bind_some _ _).symm.trans H;with_reducible exact H2_)|with_reducible exact H|(rw[hy194];exact H)|exact H
     have Ny194:=Aside0.mk hy194
     clear hy194
     obtain rfl:=Option.some.inj H
     go_wp2_with(first|((with_reducible refine gate_dst (N:=14) rfl ?_);refine Kd.R_lit (Kd.int .u8) _ 5 ?hg (N:=14) ?hd (xs:=([(wrap64 (48+a0))%256]:List Int)) (inner:=[.int .u8 ((wrap64 (48+a0))%256)]) (ok:=fun _=>True) (okp:=fun _=>True) ?hr ?hp (fun _ hk=>hk) trivial (Below.refl _ _) (Nat.le_refl _) (by simp) ?_;(case hd=>rfl);(case hg=>rfl);(case hr=>first|(go_simp;done)|(go_simp;rfl));(case hp=>exact(Reps.one (show Kd.M (Kd.int .u8) _ _ _ ((wrap64 (48+a0))%256) [.int .u8 ((wrap64 (48+a0))%256)] from rfl) (Reps.none _ _)));intro v195 w6 ho7 hb hg_ hnew_;clear hg_ hnew_;(first|rw[← Ny194.out] at ho7|(simp only[Int.reduceToNat] at ho7;rw[← Ny194.out] at ho7));have HO196:=Aside0.mk (Kd.R_lower ho7 (below_size gBe));replace HB:=beA hb;clear hb ho7;have hcv8:=own_string (P:=Tryz.prog) Tryz.underlying100 Tryz.underlying5 Tryz.underlying9 (Kd.own_of_R HO196.out)))
     go_ret
     exact⟨gq2,gBe⟩
    ·replace H:=gD H
     obtain⟨t197,A9,H⟩:=H
     obtain⟨y198,hy198⟩:∃ y_:List Int,y_=(([(wrap64 (48+(Int.tmod a0 10)))%256]:List Int)):=⟨_,rfl⟩
     replace H:(if t197.size+(strOfNums y198).size≤9223372036854775807 then(some (t197++(strOfNums y198))) else(none))=some r:=by first|(rw[hy198];with_reducible exact H)|(have H2_:=(Option.bind_some _ _).symm.trans H;rw[hy198];with_reducible exact H2_)|(have H2_:=(Option.bind_some _ _).symm.trans H;with_reducible exact H2_)|with_reducible exact H|(rw[hy198];exact H)|exact H
     have Ny198:=Aside0.mk hy198
     clear hy198
     replace H:=gI H
     rcases H with⟨c10,c10b1,c10b0,H⟩|⟨c10,-,-,H⟩
     ·try have c10b2:(9223372036854775807<t197.size+(strOfNums y198).size)=False:=eq_false (Nat.not_lt.2 c10)
      obtain rfl:=Option.some.inj H
      try go_wp2
      replace HB:=Aside0.mk (below_drew1 HB.out)
      refine start_ (n:=11) (S:=fun w'=>True) (ds:=[]) #[false,false,false,false,false,false,false,false,false,false,false] (by kernel_rfl) rfl rfl trivial (fun hHeld=>?_);refine with_tabW spec_DecText.tab5 spec_DecText.bits5 (fun HT_ HW_=>?_)
      generalize wc.drew=w11 at HB hHeld ⊢
      refine pureT 0 (some 16) ?_
      refine pureT 1 (some 17) ?_
      refine pureT 3 (some 19) ?_
      refine pureT 4 (some 20) ?_
      refine pureT 5 (some 21) ?_
      refine pureT 6 (some 22) ?_
      refine join_ (σ:=Value) 2 #[true,true,true,true,true,true,true,true,true,false,false] (fun s_=>[(18,.string t197),(23,s_),(24,.string (strOfNums y198))]) (fun s_ w'=>(Kd.R (Kd.int .u8) 5 w' w.heap.size (fun _=>True) s_ y198)∧(Below w.heap.size w w')) ?_ ?_
      rotate_left
      ·intro hCont
       refine two_ (i:=2) (j:=7) (Ni:=some 18) (Nj:=some 23) #[true,true,true,true,true,true,true,false,false,false,false] #[true,true,false,true,true,true,true,true,false,false,false] rfl rfl rfl rfl (two_of HT_.out (by kernel_rfl)) (by decide) (by decide) (fun K hK=>?_) (fun K hK=>?_)
       ·skip
        refine goes_ Tryz.func102 (by kernel_rfl) rfl #[.int .i64 (wrap64 (Int.tdiv a0 10))] (by rfl) rfl rfl gq0 ?_
        with_reducible refine(ih kj1 (by have:=HJ1.out;omega) (wrap64 (Int.tdiv a0 10)) t197 _ A9.out).mono ?_
        rintro e w12 ⟨rfl,hb⟩
        refine⟨_,rfl,?_⟩
        replace HB:=beA hb
        (try clear hb)
        refine hK.out _ _ trivial (fun hHeld=>?_)
        clear hK K
        refine normA (some 18) ?_
        refine one_ (i:=7) (N:=some 23) #[true,true,true,true,true,true,true,true,false,false,false] rfl rfl (one_of HT_.out (by kernel_rfl)) (by decide) (fun K hK=>?_)
        refine Kd.R_lit_step (Kd.int .u8) _ 5 ?hg (N:=23) ?hd (xs:=([(wrap64 (48+(Int.tmod a0 10)))%256]:List Int)) (inner:=[.int .u8 ((wrap64 (48+(Int.tmod a0 10)))%256)]) (ok:=fun _=>True) (okp:=fun _=>True) ?hr ?hp (fun _ hk=>hk) trivial (Below.refl _ _) (Nat.le_refl _) (by simp) ?_;(case hd=>rfl);(case hg=>rfl);(case hr=>first|(go_simp;done)|(go_simp;rfl));(case hp=>exact(Reps.one (show Kd.M (Kd.int .u8) _ _ _ ((wrap64 (48+(Int.tmod a0 10)))%256) [.int .u8 ((wrap64 (48+(Int.tmod a0 10)))%256)] from rfl) (Reps.none _ _)))
        intro v199 w13 ho14 hb hg_ hnew_
        clear hg_ hnew_
        (first|rw[← Ny198.out] at ho14|(simp only[Int.reduceToNat] at ho14;rw[← Ny198.out] at ho14))
        have HO200:=Aside0.mk (Kd.R_lower ho14 (below_size gBe))
        replace HB:=beA hb
        clear hb ho14
        refine hK.out _ _ trivial (fun hHeld=>?_)
        clear hK K
        refine normA (some 23) ?_
        refine one_ (i:=8) (N:=some 24) #[true,true,true,true,true,true,true,true,true,false,false] rfl rfl (one_of HT_.out (by kernel_rfl)) (by decide) (fun K hK=>?_)
        have hcv15:=own_string (P:=Tryz.prog) Tryz.underlying100 Tryz.underlying5 Tryz.underlying9 (Kd.own_of_R HO200.out)
        refine value_ (w1:=?_) (v:=?_) (by rfl) rfl ?_ ?_
        rotate_left 2
        ·go_simp
         constructor
         ·rfl
         ·rfl
        clear hcv15
        refine hK.out _ _ trivial (fun hHeld=>?_)
        clear hK K
        refine normA (some 24) ?_
        exact norm_ gq50 (hCont (v199) _ ⟨gq70,gBe⟩)
       ·skip
        refine Kd.R_lit_step (Kd.int .u8) _ 5 ?hg (N:=23) ?hd (xs:=([(wrap64 (48+(Int.tmod a0 10)))%256]:List Int)) (inner:=[.int .u8 ((wrap64 (48+(Int.tmod a0 10)))%256)]) (ok:=fun _=>True) (okp:=fun _=>True) ?hr ?hp (fun _ hk=>hk) trivial (Below.refl _ _) (Nat.le_refl _) (by simp) ?_;(case hd=>rfl);(case hg=>rfl);(case hr=>first|(go_simp;done)|(go_simp;rfl));(case hp=>exact(Reps.one (show Kd.M (Kd.int .u8) _ _ _ ((wrap64 (48+(Int.tmod a0 10)))%256) [.int .u8 ((wrap64 (48+(Int.tmod a0 10)))%256)] from rfl) (Reps.none _ _)))
        intro v199 w12 ho13 hb hg_ hnew_
        clear hg_ hnew_
        (first|rw[← Ny198.out] at ho13|(simp only[Int.reduceToNat] at ho13;rw[← Ny198.out] at ho13))
        have HO200:=Aside0.mk (Kd.R_lower ho13 (below_size gBe))
        replace HB:=beA hb
        clear hb ho13
        refine hK.out _ _ trivial (fun hHeld=>?_)
        clear hK K
        refine normA (some 23) ?_
        refine two_ (i:=2) (j:=8) (Ni:=some 18) (Nj:=some 24) #[true,true,true,true,true,true,true,true,false,false,false] #[true,true,false,true,true,true,true,true,true,false,false] rfl rfl rfl rfl (two_of HT_.out (by kernel_rfl)) (by decide) (by decide) (fun K hK=>?_) (fun K hK=>?_)
        ·skip
         refine goes_ Tryz.func102 (by kernel_rfl) rfl #[.int .i64 (wrap64 (Int.tdiv a0 10))] (by rfl) rfl rfl gq0 ?_
         with_reducible refine(ih kj1 (by have:=HJ1.out;omega) (wrap64 (Int.tdiv a0 10)) t197 _ A9.out).mono ?_
         rintro e w14 ⟨rfl,hb⟩
         refine⟨_,rfl,?_⟩
         replace HO200:=Aside0.mk (Kd.R_below gq70 hb)
         replace HB:=beA hb
         (try clear hb)
         (try clear hk)
         refine hK.out _ _ trivial (fun hHeld=>?_)
         clear hK K
         refine normA (some 18) ?_
         refine one_ (i:=8) (N:=some 24) #[true,true,true,true,true,true,true,true,true,false,false] rfl rfl (one_of HT_.out (by kernel_rfl)) (by decide) (fun K hK=>?_)
         have hcv15:=own_string (P:=Tryz.prog) Tryz.underlying100 Tryz.underlying5 Tryz.underlying9 (Kd.own_of_R HO200.out)
         refine value_ (w1:=?_) (v:=?_) (by rfl) rfl ?_ ?_
         rotate_left 2
         ·go_simp
          constructor
          ·rfl
          ·rfl
         clear hcv15
         refine hK.out _ _ trivial (fun hHeld=>?_)
         clear hK K
         refine normA (some 24) ?_
         exact norm_ gq50 (hCont (v199) _ ⟨gq70,gBe⟩)
        ·skip
         have hcv14:=own_string (P:=Tryz.prog) Tryz.underlying100 Tryz.underlying5 Tryz.underlying9 (Kd.own_of_R HO200.out)
         refine value_ (w1:=?_) (v:=?_) (by rfl) rfl ?_ ?_
         rotate_left 2
         ·go_simp
          constructor
          ·rfl
          ·rfl
         clear hcv14
         refine hK.out _ _ trivial (fun hHeld=>?_)
         clear hK K
         refine normA (some 24) ?_
         refine one_ (i:=2) (N:=some 18) #[true,true,true,true,true,true,true,true,true,false,false] rfl rfl (one_of HT_.out (by kernel_rfl)) (by decide) (fun K hK=>?_)
         refine goes_ Tryz.func102 (by kernel_rfl) rfl #[.int .i64 (wrap64 (Int.tdiv a0 10))] (by rfl) rfl rfl gq0 ?_
         with_reducible refine(ih kj1 (by have:=HJ1.out;omega) (wrap64 (Int.tdiv a0 10)) t197 _ A9.out).mono ?_
         rintro e w15 ⟨rfl,hb⟩
         refine⟨_,rfl,?_⟩
         replace HO200:=Aside0.mk (Kd.R_below gq70 hb)
         replace HB:=beA hb
         (try clear hb)
         (try clear hk)
         refine hK.out _ _ trivial (fun hHeld=>?_)
         clear hK K
         refine normA (some 18) ?_
         exact norm_ gq50 (hCont (v199) _ ⟨gq70,gBe⟩)
      rintro v199 w16 ⟨h0_,h1_⟩
      have n0_:Aside0 (Kd.R (Kd.int .u8) 5 w16 w.heap.size (fun _=>True) v199 y198):=⟨h0_⟩
      have n1_:Aside0 (Below w.heap.size w w16):=⟨h1_⟩
      clear HB
      clear h0_ h1_
      have HO200:=n0_
      have HB:=n1_
      clear n0_ n1_
      have hHeld:=trivial
      refine norm_ (a':=?_) ?_ ?_
      rotate_left
      ·simp only[putAll,Act.put,List.setIfInBounds_toArray,List.set_cons_zero,List.set_cons_succ]
       rfl
      refine pureT 9 (some 25) ?_
      refine pureT 10 (some 2) ?_
      refine done_ (done_of HT_.out (by kernel_rfl)) ?_
      try go_wp2
      go_ret
      exact⟨gq2,gBe⟩
     ·exact absurd H (by simp)


mutual
def spec_ReadDec.j0 : Nat→ByteArray→Bool→Option (Int×Bool)
 |0,_,_=>none
 |k+1,x0,x13=>if x13=true then(some (0,false)) else(spec_ReadDec.l0 k x0 0 0)
def spec_ReadDec.l0 : Nat→ByteArray→Int→Int→Option (Int×Bool)
 |0,_,_,_=>none
 |k+1,x0,x4,x5=>if x5<(x0.size:Int) then(if 0≤x5 then((spec_l1digit.f (bt x0 x5)).bind fun t201=>(if t201=true then(spec_ReadDec.l0 k x0 (wrap64 ((wrap64 (x4*10))+(((bt x0 x5)-48)%256))) (wrap64 (x5+1))) else(some (0,false)))) else(none)) else((spec_DecText.f k x4).bind fun t202=>(if t202.toList=x0.toList then(some (x4,true)) else(some (0,false))))
end
def spec_ReadDec.f (k:Nat) (a0:ByteArray):Option (Int×Bool):=if(a0.size:Int)=0 then(spec_ReadDec.j0 k a0 true) else(spec_ReadDec.j0 k a0 (decide ((a0.size:Int)>15)))
theorem spec_ReadDec.e0 {p:Prop} (h:p:=by
  go_wp2_with(first|((with_reducible refine gate_callee (f:=102) rfl ?_);refine goesL_ (some 34) rfl rfl Tryz.func102 (by kernel_rfl) rfl #[.int .i64 x4_2] rfl gq0 ?_;(with_reducible refine(spec_DecText.calls k2 x4_2 t202 _ A11.out).mono ?_);rintro e wq0a ⟨rfl,hb⟩;refine⟨_,rfl,?_⟩;replace HB:=beA hb;(try clear hb);(try clear hb2);(try clear hk);(try clear hi))|((with_reducible refine gate_callee (f:=77) rfl ?_);refine goesL_ (some 23) rfl rfl Tryz.func77 (by kernel_rfl) rfl #[.int .u8 (bt a0 x5_2)] rfl gq0 ?_;(with_reducible refine(spec_l1digit.calls (bt a0 x5_2) false _ A8.out).mono ?_);rintro e w' ⟨rfl,⟨nd,rfl⟩⟩;refine⟨_,rfl,?_⟩))
  go_ret2
  exact⟨gq2,gBe⟩):p:=h
set_option maxHeartbeats 8000000 in
set_option maxRecDepth 100000 in
theorem spec_ReadDec.calls (k:Nat) (a0:ByteArray) (r1:Int) (r2:Bool) (w:World) (h:spec_ReadDec.f k a0=some (r1,r2)) :
  Calls Tryz.prog 141 #[.string a0] w fun e w'=>e = .returned (.tuple #[.int .i64 r1,.bool r2])∧Below w.heap.size w w':=by
 have HB:=Aside0.mk (Below.refl w.heap.size w)
 have H:=h
 clear h
 unfold spec_ReadDec.f at H
 have HC2:=Aside0.mk H
 clear H
 go_enter Tryz.func141,Tryz.ntmps141
 go_upto_region 1 with(fail)
 go_cut [13] (fun v13 wc=>∃(kq:Nat) (x13_1:Bool),v13 = .bool x13_1∧Aside0 (spec_ReadDec.j0 kq a0 x13_1=some (r1,r2))∧Aside0 (kq≤k)∧Aside0 (Below w.heap.size w wc))
 case first=>
  have H:=HC2.out
  clear HC2
  replace H:=gI H
  rcases H with⟨c3,-,-,H⟩|⟨c3,-,-,H⟩
  ·have c3b0:((a0.size:Int)==0)=true:=beq_iff_eq.mpr c3
   have c3b1:((a0.size:Int) != 0)=false:=bne_eq_false_iff_eq.mpr c3
   clear c3
   (first|rw[c3b0]|(simp only[i64_w,i32_w];rw[c3b0])|skip)
   have H':=Aside0.mk H
   clear H
   go_wp2
   go_meet
   case rel=>exact⟨_,(true),gq4,H',⟨gq8⟩,⟨gBe⟩⟩
  ·have c3b0:((a0.size:Int)==0)=false:=beq_eq_false_iff_ne.mpr c3
   have c3b1:((a0.size:Int) != 0)=true:=bne_iff_ne.mpr c3
   (first|rw[c3b0]|(simp only[i64_w,i32_w];rw[c3b0])|skip)
   have H':=Aside0.mk H
   clear H
   go_wp2
   go_meet
   case rel=>exact⟨_,(decide ((a0.size:Int)>15)),gq4,H',⟨gq8⟩,⟨gBe⟩⟩
 case rest=>
  clear HC2
  obtain⟨kq,x13_1,rfl,HA,HJ1,HB⟩:=hcut
  cases kq with
  |zero=>exact absurd HA.out (by simp[spec_ReadDec.j0])
  |succ kj1=>
   have H:=HA.out
   clear HA
   simp only[spec_ReadDec.j0] at H
   replace H:=gB H
   rcases H with⟨rfl,H⟩|⟨rfl,H⟩
   ·simp only[Option.some.injEq,Prod.mk.injEq] at H
    obtain⟨rfl,rfl⟩:=H
    go_wp2
    go_ret2
    exact⟨gq2,gBe⟩
   ·have H':=Aside0.mk H
    clear H
    go_wp2
    go_loopg [4,5] kj1 (fun kq v4 v5 w'=>∃(x4_2:Int) (x5_2:Int),v4 = .int .i64 x4_2∧v5 = .int .i64 x5_2∧Aside0 (spec_ReadDec.l0 kq a0 x4_2 x5_2=some (r1,r2))∧Aside0 (kq≤kj1)∧Aside0 (Below w.heap.size w w'))
    case atStart=>exact⟨(0),(0),gq4,gq4,H',⟨Nat.le_refl _⟩,⟨gBe⟩⟩
    case round=>
     clear H'
     obtain⟨x4_2,x5_2,rfl,rfl,HA,HK2,HB⟩:=hrel
     cases gk with
     |zero=>exact absurd HA.out (by simp[spec_ReadDec.l0])
     |succ k2=>
      have H:=HA.out
      clear HA
      simp only[spec_ReadDec.l0] at H
      replace H:=gI H
      rcases H with⟨-,c5b0,-,H⟩|⟨-,c5b0,-,H⟩
      ·replace H:=gN H
       obtain⟨-,c6b0,-,H⟩:=H
       replace H:=gD H
       obtain⟨t201,A8,H⟩:=H
       replace H:=gB H
       rcases H with⟨rfl,H⟩|⟨rfl,H⟩
       ·have H':=Aside0.mk H
        clear H
        have p7:0≤(x5_2:Int):=of_decide_eq_true gq3
        have q7:x5_2<(a0.size:Int):=of_decide_eq_true gq3
        have hx7:=bt_at a0 x5_2
        replace p7:=eq_true p7
        replace q7:=eq_true q7
        go_wp2_with(((with_reducible refine gate_callee (f:=77) rfl ?_);refine goesL_ (some 23) rfl rfl Tryz.func77 (by kernel_rfl) rfl #[.int .u8 (bt a0 x5_2)] rfl gq0 ?_;(with_reducible refine(spec_l1digit.calls (bt a0 x5_2) true _ A8.out).mono ?_);rintro e w' ⟨rfl,⟨nd,rfl⟩⟩;refine⟨_,rfl,?_⟩;have p10:0≤(x5_2:Int):=of_decide_eq_true gq3;have q10:x5_2<(a0.size:Int):=of_decide_eq_true gq3;have hx10:=bt_at a0 x5_2;replace p10:=eq_true p10;replace q10:=eq_true q10))
        go_roundg k2
        case measure=>have:=HJ1.out;have:=HK2.out;omega
        case rel=>exact⟨(wrap64 ((wrap64 (x4_2*10))+(((bt a0 x5_2)-48)%256))),(wrap64 (x5_2+1)),gq4,gq4,H',⟨gq44⟩,⟨gBe⟩⟩
       ·simp only[Option.some.injEq,Prod.mk.injEq] at H
        obtain⟨rfl,rfl⟩:=H
        have p7:0≤(x5_2:Int):=of_decide_eq_true gq3
        have q7:x5_2<(a0.size:Int):=of_decide_eq_true gq3
        have hx7:=bt_at a0 x5_2
        replace p7:=eq_true p7
        replace q7:=eq_true q7
        exact spec_ReadDec.e0
      ·replace H:=gD H
       obtain⟨t202,A11,H⟩:=H
       replace H:=gI H
       rcases H with⟨c12,-,-,H⟩|⟨c12,-,-,H⟩
       ·have c12b0:(t202.toList==a0.toList)=true:=beq_iff_eq.mpr c12
        have c12b1:(t202.toList != a0.toList)=false:=bne_eq_false_iff_eq.mpr c12
        clear c12
        simp only[Option.some.injEq,Prod.mk.injEq] at H
        obtain⟨rfl,rfl⟩:=H
        exact spec_ReadDec.e0
       ·have c12b0:(t202.toList==a0.toList)=false:=beq_eq_false_iff_ne.mpr c12
        have c12b1:(t202.toList != a0.toList)=true:=bne_iff_ne.mpr c12
        simp only[Option.some.injEq,Prod.mk.injEq] at H
        obtain⟨rfl,rfl⟩:=H
        exact spec_ReadDec.e0


mutual
def spec_ReadHex.j0 : Nat→ByteArray→Bool→Option (Int×Bool)
 |0,_,_=>none
 |k+1,x0,x14=>if x14=true then(some (0,false)) else(spec_ReadHex.l0 k x0 0 0)
def spec_ReadHex.l0 : Nat→ByteArray→Int→Int→Option (Int×Bool)
 |0,_,_,_=>none
 |k+1,x0,x4,x5=>if x5<(x0.size:Int) then(if 0≤x5 then((spec_l1lower.f (bt x0 x5)).bind fun t218=>((spec_l1digit.f t218).bind fun t219=>(if t219=true then(spec_ReadHex.l0 k x0 (wrap64 ((wrap64 (x4*16))+((t218-48)%256))) (wrap64 (x5+1))) else(if t218≥97 then(if t218≤102 then(spec_ReadHex.l0 k x0 (wrap64 ((wrap64 ((wrap64 (x4*16))+((t218-97)%256)))+10)) (wrap64 (x5+1))) else(some (0,false))) else(some (0,false)))))) else(none)) else(some (x4,true))
end
def spec_ReadHex.f (k:Nat) (a0:ByteArray):Option (Int×Bool):=if(a0.size:Int)=0 then(spec_ReadHex.j0 k a0 true) else(spec_ReadHex.j0 k a0 (decide ((a0.size:Int)>7)))
theorem spec_ReadHex.e0 {p:Prop} (h:p:=by
  go_wp2_with(first|((with_reducible refine gate_callee (f:=125) rfl ?_);refine goesL_ (some 24) rfl rfl Tryz.func125 (by kernel_rfl) rfl #[.int .u8 (bt a0 x5_2)] rfl gq0 ?_;(with_reducible refine(spec_l1lower.calls (bt a0 x5_2) t218 _ A8.out).mono ?_);rintro e w' ⟨rfl,⟨nd,rfl⟩⟩;refine⟨_,rfl,?_⟩)|((with_reducible refine gate_callee (f:=77) rfl ?_);refine goesL_ (some 27) rfl rfl Tryz.func77 (by kernel_rfl) rfl #[.int .u8 t218] rfl gq0 ?_;(with_reducible refine(spec_l1digit.calls t218 false _ A9.out).mono ?_);rintro e w' ⟨rfl,⟨nd,rfl⟩⟩;refine⟨_,rfl,?_⟩))
  go_ret2
  exact⟨gq4,gq5⟩):p:=h
set_option maxHeartbeats 8000000 in
set_option maxRecDepth 100000 in
theorem spec_ReadHex.calls (k:Nat) (a0:ByteArray) (r1:Int) (r2:Bool) (w:World) (h:spec_ReadHex.f k a0=some (r1,r2)) :
  Calls Tryz.prog 211 #[.string a0] w fun e w'=>e = .returned (.tuple #[.int .i64 r1,.bool r2])∧Drawn0 w w':=by
 have H:=h
 clear h
 unfold spec_ReadHex.f at H
 have HC2:=Aside0.mk H
 clear H
 go_enter Tryz.func211,Tryz.ntmps211
 go_upto_region 1 with(fail)
 go_cut [14] (fun v14 wc=>∃(kq:Nat) (x14_1:Bool),v14 = .bool x14_1∧Aside0 (spec_ReadHex.j0 kq a0 x14_1=some (r1,r2))∧Aside0 (kq≤k)∧Drawn0 w wc)
 case first=>
  have H:=HC2.out
  clear HC2
  replace H:=gI H
  rcases H with⟨c3,-,-,H⟩|⟨c3,-,-,H⟩
  ·have c3b0:((a0.size:Int)==0)=true:=beq_iff_eq.mpr c3
   have c3b1:((a0.size:Int) != 0)=false:=bne_eq_false_iff_eq.mpr c3
   clear c3
   (first|rw[c3b0]|(simp only[i64_w,i32_w];rw[c3b0])|skip)
   have H':=Aside0.mk H
   clear H
   go_wp2
   go_meet
   case rel=>exact⟨_,(true),gq4,H',⟨gq8⟩,gq5⟩
  ·have c3b0:((a0.size:Int)==0)=false:=beq_eq_false_iff_ne.mpr c3
   have c3b1:((a0.size:Int) != 0)=true:=bne_iff_ne.mpr c3
   (first|rw[c3b0]|(simp only[i64_w,i32_w];rw[c3b0])|skip)
   have H':=Aside0.mk H
   clear H
   go_wp2
   go_meet
   case rel=>exact⟨_,(decide ((a0.size:Int)>7)),gq4,H',⟨gq8⟩,gq5⟩
 case rest=>
  clear HC2
  obtain⟨kq,x14_1,rfl,HA,HJ1,⟨mc1,rfl⟩⟩:=hcut
  cases kq with
  |zero=>exact absurd HA.out (by simp[spec_ReadHex.j0])
  |succ kj1=>
   have H:=HA.out
   clear HA
   simp only[spec_ReadHex.j0] at H
   replace H:=gB H
   rcases H with⟨rfl,H⟩|⟨rfl,H⟩
   ·simp only[Option.some.injEq,Prod.mk.injEq] at H
    obtain⟨rfl,rfl⟩:=H
    go_wp2
    go_ret2
    exact⟨gq4,gq5⟩
   ·have H':=Aside0.mk H
    clear H
    go_wp2
    go_loopg [4,5] kj1 (fun kq v4 v5 w'=>∃(x4_2:Int) (x5_2:Int),v4 = .int .i64 x4_2∧v5 = .int .i64 x5_2∧Aside0 (spec_ReadHex.l0 kq a0 x4_2 x5_2=some (r1,r2))∧Aside0 (kq≤kj1)∧Drawn0 w w')
    case atStart=>exact⟨(0),(0),gq4,gq4,H',⟨Nat.le_refl _⟩,gq5⟩
    case round=>
     clear H'
     obtain⟨x4_2,x5_2,rfl,rfl,HA,HK2,⟨m2,rfl⟩⟩:=hrel
     cases gk with
     |zero=>exact absurd HA.out (by simp[spec_ReadHex.l0])
     |succ k2=>
      have H:=HA.out
      clear HA
      simp only[spec_ReadHex.l0] at H
      replace H:=gI H
      rcases H with⟨-,c5b0,-,H⟩|⟨-,c5b0,-,H⟩
      ·replace H:=gN H
       obtain⟨-,c6b0,-,H⟩:=H
       replace H:=gD H
       obtain⟨t218,A8,H⟩:=H
       replace H:=gD H
       obtain⟨t219,A9,H⟩:=H
       replace H:=gB H
       rcases H with⟨rfl,H⟩|⟨rfl,H⟩
       ·have H':=Aside0.mk H
        clear H
        have p7:0≤(x5_2:Int):=of_decide_eq_true gq3
        have q7:x5_2<(a0.size:Int):=of_decide_eq_true gq3
        have hx7:=bt_at a0 x5_2
        replace p7:=eq_true p7
        replace q7:=eq_true q7
        go_wp2_with(first|((with_reducible refine gate_callee (f:=125) rfl ?_);refine goesL_ (some 24) rfl rfl Tryz.func125 (by kernel_rfl) rfl #[.int .u8 (bt a0 x5_2)] rfl gq0 ?_;(with_reducible refine(spec_l1lower.calls (bt a0 x5_2) t218 _ A8.out).mono ?_);rintro e w' ⟨rfl,⟨nd,rfl⟩⟩;refine⟨_,rfl,?_⟩)|((with_reducible refine gate_callee (f:=77) rfl ?_);refine goesL_ (some 27) rfl rfl Tryz.func77 (by kernel_rfl) rfl #[.int .u8 t218] rfl gq0 ?_;(with_reducible refine(spec_l1digit.calls t218 true _ A9.out).mono ?_);rintro e w' ⟨rfl,⟨nd,rfl⟩⟩;refine⟨_,rfl,?_⟩))
        go_roundg k2
        case measure=>have:=HJ1.out;have:=HK2.out;omega
        case rel=>exact⟨(wrap64 ((wrap64 (x4_2*16))+((t218-48)%256))),(wrap64 (x5_2+1)),gq4,gq4,H',⟨gq44⟩,gq5⟩
       ·replace H:=gI H
        rcases H with⟨c11,-,-,H⟩|⟨c11,-,-,H⟩
        ·have c11b0:decide (97≤t218)=true:=decide_eq_true c11
         clear c11
         replace H:=gI H
         rcases H with⟨-,c12b0,-,H⟩|⟨-,c12b0,-,H⟩
         ·have H':=Aside0.mk H
          clear H
          have p7:0≤(x5_2:Int):=of_decide_eq_true gq3
          have q7:x5_2<(a0.size:Int):=of_decide_eq_true gq3
          have hx7:=bt_at a0 x5_2
          replace p7:=eq_true p7
          replace q7:=eq_true q7
          go_wp2_with(first|((with_reducible refine gate_callee (f:=125) rfl ?_);refine goesL_ (some 24) rfl rfl Tryz.func125 (by kernel_rfl) rfl #[.int .u8 (bt a0 x5_2)] rfl gq0 ?_;(with_reducible refine(spec_l1lower.calls (bt a0 x5_2) t218 _ A8.out).mono ?_);rintro e w' ⟨rfl,⟨nd,rfl⟩⟩;refine⟨_,rfl,?_⟩)|((with_reducible refine gate_callee (f:=77) rfl ?_);refine goesL_ (some 27) rfl rfl Tryz.func77 (by kernel_rfl) rfl #[.int .u8 t218] rfl gq0 ?_;(with_reducible refine(spec_l1digit.calls t218 false _ A9.out).mono ?_);rintro e w' ⟨rfl,⟨nd,rfl⟩⟩;refine⟨_,rfl,?_⟩))
          go_roundg k2
          case measure=>have:=HJ1.out;have:=HK2.out;omega
          case rel=>exact⟨(wrap64 ((wrap64 ((wrap64 (x4_2*16))+((t218-97)%256)))+10)),(wrap64 (x5_2+1)),gq4,gq4,H',⟨gq44⟩,gq5⟩
         ·simp only[Option.some.injEq,Prod.mk.injEq] at H
          obtain⟨rfl,rfl⟩:=H
          have p7:0≤(x5_2:Int):=of_decide_eq_true gq3
          have q7:x5_2<(a0.size:Int):=of_decide_eq_true gq3
          have hx7:=bt_at a0 x5_2
          replace p7:=eq_true p7
          replace q7:=eq_true q7
          exact spec_ReadHex.e0
        ·have c11b0:decide (97≤t218)=false:=decide_eq_false c11
         clear c11
         simp only[Option.some.injEq,Prod.mk.injEq] at H
         obtain⟨rfl,rfl⟩:=H
         have p7:0≤(x5_2:Int):=of_decide_eq_true gq3
         have q7:x5_2<(a0.size:Int):=of_decide_eq_true gq3
         have hx7:=bt_at a0 x5_2
         replace p7:=eq_true p7
         replace q7:=eq_true q7
         exact spec_ReadHex.e0
      ·simp only[Option.some.injEq,Prod.mk.injEq] at H
       obtain⟨rfl,rfl⟩:=H
       go_wp2
       go_ret2
       exact⟨gq4,gq5⟩

def spec_l1has.l0 : Nat→ByteArray→Int→Int→Option (Bool)
 |0,_,_,_=>none
 |k+1,x0,x1,x5=>if x5<(x0.size:Int) then(if 0≤x5 then(if(bt x0 x5)=x1 then(some true) else(spec_l1has.l0 k x0 x1 (wrap64 (x5+1)))) else(none)) else(some false)
def spec_l1has.f (k:Nat) (a0:ByteArray) (a1:Int):Option (Bool):=spec_l1has.l0 k a0 a1 0
theorem spec_l1has.mono_l : ∀ k,(∀ y0 y1 y2,LeO (spec_l1has.l0 k y0 y1 y2) (spec_l1has.l0 (k+1) y0 y1 y2))
 |0=>fun _ _ _ r h=>by simp[spec_l1has.l0] at h
 |k+1=>by
  have ih0:=spec_l1has.mono_l k
  ·intro y0 y1 y2
   unfold spec_l1has.l0
   repeat' first
   |(with_reducible exact ih0 ..)
   |(with_reducible exact LeO.refl ..)
   |(with_reducible exact LeO.none ..)
   |(with_reducible refine LeO.ite ?_ ?_)
   |(with_reducible refine LeO.bind ?_ (fun _=>?_))
   |exact ih0 ..
theorem spec_l1has.mono : ∀ a0 a1 k,LeO (spec_l1has.f k a0 a1) (spec_l1has.f (k+1) a0 a1):=by
 intro a0 a1 k
 have ih0:=spec_l1has.mono_l k
 unfold spec_l1has.f
 repeat' first
   |(with_reducible exact ih0 ..)
   |(with_reducible exact LeO.refl ..)
   |(with_reducible exact LeO.none ..)
   |(with_reducible refine LeO.ite ?_ ?_)
   |(with_reducible refine LeO.bind ?_ (fun _=>?_))
   |exact ih0 ..
set_option maxHeartbeats 8000000 in
set_option maxRecDepth 100000 in
theorem spec_l1has.calls (k:Nat) (a0:ByteArray) (a1:Int) (r:Bool) (w:World) (h:spec_l1has.f k a0 a1=some r) :
  Calls Tryz.prog 186 #[.string a0,.int .u8 a1] w fun e w'=>e = .returned (.bool r)∧Drawn0 w w':=by
 have H:=h
 clear h
 unfold spec_l1has.f at H
 have H':=Aside0.mk H
 clear H
 go_enter Tryz.func186,Tryz.ntmps186
 go_wp2
 go_loopg [5] k (fun kq v5 w'=>∃(x5_1:Int),v5 = .int .i64 x5_1∧Aside0 (spec_l1has.l0 kq a0 a1 x5_1=some r)∧Aside0 (kq≤k)∧Drawn0 w w')
 case atStart=>exact⟨(0),gq4,H',⟨Nat.le_refl _⟩,gq5⟩
 case round=>
  clear H'
  obtain⟨x5_1,rfl,HA,HK1,⟨m1,rfl⟩⟩:=hrel
  cases gk with
  |zero=>exact absurd HA.out (by simp[spec_l1has.l0])
  |succ k1=>
   have H:=HA.out
   clear HA
   simp only[spec_l1has.l0] at H
   replace H:=gI H
   rcases H with⟨-,c3b0,-,H⟩|⟨-,c3b0,-,H⟩
   ·replace H:=gN H
    obtain⟨-,c4b0,-,H⟩:=H
    replace H:=gI H
    rcases H with⟨c6,-,-,H⟩|⟨c6,-,-,H⟩
    ·have c6b0:((bt a0 x5_1)==a1)=true:=beq_iff_eq.mpr c6
     have c6b1:((bt a0 x5_1) != a1)=false:=bne_eq_false_iff_eq.mpr c6
     clear c6
     obtain rfl:=Option.some.inj H
     have p5:0≤(x5_1:Int):=of_decide_eq_true gq3
     have q5:x5_1<(a0.size:Int):=of_decide_eq_true gq3
     have hx5:=bt_at a0 x5_1
     replace p5:=eq_true p5
     replace q5:=eq_true q5
     go_wp2
     go_ret
     exact⟨gq4,gq5⟩
    ·have c6b0:((bt a0 x5_1)==a1)=false:=beq_eq_false_iff_ne.mpr c6
     have c6b1:((bt a0 x5_1) != a1)=true:=bne_iff_ne.mpr c6
     have H':=Aside0.mk H
     clear H
     have p5:0≤(x5_1:Int):=of_decide_eq_true gq3
     have q5:x5_1<(a0.size:Int):=of_decide_eq_true gq3
     have hx5:=bt_at a0 x5_1
     replace p5:=eq_true p5
     replace q5:=eq_true q5
     go_wp2
     go_roundg k1
     case measure=>have:=HK1.out;omega
     case rel=>exact⟨(wrap64 (x5_1+1)),gq4,H',⟨by have:=HK1.out;omega⟩,gq5⟩
   ·obtain rfl:=Option.some.inj H
    go_wp2
    go_ret
    exact⟨gq4,gq5⟩


def spec_l1tchar.f (k:Nat) (a0:Int):Option (Bool):=(spec_l1lower.f a0).bind fun t372=>(if t372≥97 then(if t372≤122 then(some true) else((spec_l1digit.f a0).bind fun t373=>(if t373=true then(some true) else(if a0=96 then(some true) else((spec_l1has.f k (⟨#[33,35,36,37,38,39,42,43,45,46,94,95,124,126]⟩:ByteArray) a0).bind fun t374=>(some t374)))))) else((spec_l1digit.f a0).bind fun t375=>(if t375=true then(some true) else(if a0=96 then(some true) else((spec_l1has.f k (⟨#[33,35,36,37,38,39,42,43,45,46,94,95,124,126]⟩:ByteArray) a0).bind fun t376=>(some t376))))))
theorem spec_l1tchar.mono : ∀ a0 k,LeO (spec_l1tchar.f k a0) (spec_l1tchar.f (k+1) a0):=by
 intro a0 k
 unfold spec_l1tchar.f
 repeat' first
   |(with_reducible exact spec_l1has.mono ..)
   |(with_reducible exact LeO.refl ..)
   |(with_reducible exact LeO.none ..)
   |(with_reducible refine LeO.ite ?_ ?_)
   |(with_reducible refine LeO.bind ?_ (fun _=>?_))
theorem spec_l1tchar.e0 {p:Prop} (h:p:=by
  obtain rfl:=Option.some.inj H
  go_enter Tryz.func145,Tryz.ntmps145
  go_wp2_with(first|((with_reducible refine gate_callee (f:=125) rfl ?_);refine goesL_ (some 5) rfl rfl Tryz.func125 (by kernel_rfl) rfl #[.int .u8 a0] rfl gq0 ?_;(with_reducible refine(spec_l1lower.calls a0 t372 _ A2.out).mono ?_);rintro e w' ⟨rfl,⟨nd,rfl⟩⟩;refine⟨_,rfl,?_⟩)|(go_at_call 77;(with_reducible refine(spec_l1digit.calls a0 false _ A9.out).mono ?_);rintro e w' ⟨rfl,⟨nd,rfl⟩⟩)|(go_at_call 186;(with_reducible refine(spec_l1has.calls k (⟨#[33,35,36,37,38,39,42,43,45,46,94,95,124,126]⟩:ByteArray) a0 t376 _ A12.out).mono ?_);rintro e w' ⟨rfl,⟨nd,rfl⟩⟩)|(go_at_call 77;(with_reducible refine(spec_l1digit.calls a0 true _ A9.out).mono ?_);rintro e w' ⟨rfl,⟨nd,rfl⟩⟩)|(go_at_call 77;(with_reducible refine(spec_l1digit.calls a0 false _ A5.out).mono ?_);rintro e w' ⟨rfl,⟨nd,rfl⟩⟩)|(go_at_call 186;(with_reducible refine(spec_l1has.calls k (⟨#[33,35,36,37,38,39,42,43,45,46,94,95,124,126]⟩:ByteArray) a0 t374 _ A8.out).mono ?_);rintro e w' ⟨rfl,⟨nd,rfl⟩⟩)|(go_at_call 77;(with_reducible refine(spec_l1digit.calls a0 true _ A5.out).mono ?_);rintro e w' ⟨rfl,⟨nd,rfl⟩⟩))
  go_ret
  exact⟨gq4,gq5⟩):p:=h
set_option maxHeartbeats 8000000 in
set_option maxRecDepth 100000 in
theorem spec_l1tchar.calls (k:Nat) (a0:Int) (r:Bool) (w:World) (h:spec_l1tchar.f k a0=some r) :
  Calls Tryz.prog 145 #[.int .u8 a0] w fun e w'=>e = .returned (.bool r)∧Drawn0 w w':=by
 have H:=h
 clear h
 unfold spec_l1tchar.f at H
 replace H:=gD H
 obtain⟨t372,A2,H⟩:=H
 replace H:=gI H
 rcases H with⟨c3,-,-,H⟩|⟨c3,-,-,H⟩
 ·have c3b0:decide (97≤t372)=true:=decide_eq_true c3
  clear c3
  replace H:=gI H
  rcases H with⟨-,c4b0,-,H⟩|⟨-,c4b0,-,H⟩
  ·exact spec_l1tchar.e0
  ·replace H:=gD H
   obtain⟨t373,A5,H⟩:=H
   replace H:=gB H
   rcases H with⟨rfl,H⟩|⟨rfl,H⟩
   ·exact spec_l1tchar.e0
   ·replace H:=gI H
    rcases H with⟨c7,-,-,H⟩|⟨c7,-,-,H⟩
    ·have c7b0:(a0==96)=true:=beq_iff_eq.mpr c7
     have c7b1:(a0 != 96)=false:=bne_eq_false_iff_eq.mpr c7
     clear c7
     exact spec_l1tchar.e0
    ·have c7b0:(a0==96)=false:=beq_eq_false_iff_ne.mpr c7
     have c7b1:(a0 != 96)=true:=bne_iff_ne.mpr c7
     replace H:=gD H
     obtain⟨t374,A8,H⟩:=H
     exact spec_l1tchar.e0
 ·have c3b0:decide (97≤t372)=false:=decide_eq_false c3
  clear c3
  replace H:=gD H
  obtain⟨t375,A9,H⟩:=H
  replace H:=gB H
  rcases H with⟨rfl,H⟩|⟨rfl,H⟩
  ·exact spec_l1tchar.e0
  ·replace H:=gI H
   rcases H with⟨c11,-,-,H⟩|⟨c11,-,-,H⟩
   ·have c11b0:(a0==96)=true:=beq_iff_eq.mpr c11
    have c11b1:(a0 != 96)=false:=bne_eq_false_iff_eq.mpr c11
    clear c11
    exact spec_l1tchar.e0
   ·have c11b0:(a0==96)=false:=beq_eq_false_iff_ne.mpr c11
    have c11b1:(a0 != 96)=true:=bne_iff_ne.mpr c11
    replace H:=gD H
    obtain⟨t376,A12,H⟩:=H
    exact spec_l1tchar.e0

mutual
def spec_Token.j0 : Nat→ByteArray→Bool→Option (Bool)
 |0,_,_=>none
 |k+1,x0,x11=>if x11=true then(some false) else(spec_Token.l0 k x0 0)
def spec_Token.l0 : Nat→ByteArray→Int→Option (Bool)
 |0,_,_=>none
 |k+1,x0,x3=>if x3<(x0.size:Int) then(if 0≤x3 then((spec_l1tchar.f k (bt x0 x3)).bind fun t377=>(if t377=true then(spec_Token.l0 k x0 (wrap64 (x3+1))) else(some false))) else(none)) else(some true)
end
def spec_Token.f (k:Nat) (a0:ByteArray):Option (Bool):=if(a0.size:Int)=0 then(spec_Token.j0 k a0 true) else(spec_Token.j0 k a0 (decide ((a0.size:Int)>4000)))
set_option maxHeartbeats 8000000 in
set_option maxRecDepth 100000 in
theorem spec_Token.calls (k:Nat) (a0:ByteArray) (r:Bool) (w:World) (h:spec_Token.f k a0=some r) :
  Calls Tryz.prog 97 #[.string a0] w fun e w'=>e = .returned (.bool r)∧Drawn0 w w':=by
 have H:=h
 clear h
 unfold spec_Token.f at H
 have HC2:=Aside0.mk H
 clear H
 go_enter Tryz.func97,Tryz.ntmps97
 go_upto_region 1 with(fail)
 go_cut [11] (fun v11 wc=>∃(kq:Nat) (x11_1:Bool),v11 = .bool x11_1∧Aside0 (spec_Token.j0 kq a0 x11_1=some r)∧Aside0 (kq≤k)∧Drawn0 w wc)
 case first=>
  have H:=HC2.out
  clear HC2
  replace H:=gI H
  rcases H with⟨c3,-,-,H⟩|⟨c3,-,-,H⟩
  ·have c3b0:((a0.size:Int)==0)=true:=beq_iff_eq.mpr c3
   have c3b1:((a0.size:Int) != 0)=false:=bne_eq_false_iff_eq.mpr c3
   clear c3
   (first|rw[c3b0]|(simp only[i64_w,i32_w];rw[c3b0])|skip)
   have H':=Aside0.mk H
   clear H
   go_wp2
   go_meet
   case rel=>exact⟨_,(true),gq4,H',⟨gq8⟩,gq5⟩
  ·have c3b0:((a0.size:Int)==0)=false:=beq_eq_false_iff_ne.mpr c3
   have c3b1:((a0.size:Int) != 0)=true:=bne_iff_ne.mpr c3
   (first|rw[c3b0]|(simp only[i64_w,i32_w];rw[c3b0])|skip)
   have H':=Aside0.mk H
   clear H
   go_wp2
   go_meet
   case rel=>exact⟨_,(decide ((a0.size:Int)>4000)),gq4,H',⟨gq8⟩,gq5⟩
 case rest=>
  clear HC2
  obtain⟨kq,x11_1,rfl,HA,HJ1,⟨mc1,rfl⟩⟩:=hcut
  cases kq with
  |zero=>exact absurd HA.out (by simp[spec_Token.j0])
  |succ kj1=>
   have H:=HA.out
   clear HA
   simp only[spec_Token.j0] at H
   replace H:=gB H
   rcases H with⟨rfl,H⟩|⟨rfl,H⟩
   ·obtain rfl:=Option.some.inj H
    go_wp2
    go_ret
    exact⟨gq4,gq5⟩
   ·have H':=Aside0.mk H
    clear H
    go_wp2
    go_loopg [3] kj1 (fun kq v3 w'=>∃(x3_2:Int),v3 = .int .i64 x3_2∧Aside0 (spec_Token.l0 kq a0 x3_2=some r)∧Aside0 (kq≤kj1)∧Drawn0 w w')
    case atStart=>exact⟨(0),gq4,H',⟨Nat.le_refl _⟩,gq5⟩
    case round=>
     clear H'
     obtain⟨x3_2,rfl,HA,HK2,⟨m2,rfl⟩⟩:=hrel
     cases gk with
     |zero=>exact absurd HA.out (by simp[spec_Token.l0])
     |succ k2=>
      have H:=HA.out
      clear HA
      simp only[spec_Token.l0] at H
      replace H:=gI H
      rcases H with⟨-,c5b0,-,H⟩|⟨-,c5b0,-,H⟩
      ·replace H:=gN H
       obtain⟨-,c6b0,-,H⟩:=H
       replace H:=gD H
       obtain⟨t377,A8,H⟩:=H
       replace H:=gB H
       rcases H with⟨rfl,H⟩|⟨rfl,H⟩
       ·have H':=Aside0.mk H
        clear H
        have p7:0≤(x3_2:Int):=of_decide_eq_true gq3
        have q7:x3_2<(a0.size:Int):=of_decide_eq_true gq3
        have hx7:=bt_at a0 x3_2
        replace p7:=eq_true p7
        replace q7:=eq_true q7
        go_wp2_with(((with_reducible refine gate_callee (f:=145) rfl ?_);refine goesL_ (some 21) rfl rfl Tryz.func145 (by kernel_rfl) rfl #[.int .u8 (bt a0 x3_2)] rfl gq0 ?_;(with_reducible refine(spec_l1tchar.calls k2 (bt a0 x3_2) true _ A8.out).mono ?_);rintro e w' ⟨rfl,⟨nd,rfl⟩⟩;refine⟨_,rfl,?_⟩))
        go_roundg k2
        case measure=>have:=HJ1.out;have:=HK2.out;omega
        case rel=>exact⟨(wrap64 (x3_2+1)),gq4,H',⟨gq44⟩,gq5⟩
       ·obtain rfl:=Option.some.inj H
        have p7:0≤(x3_2:Int):=of_decide_eq_true gq3
        have q7:x3_2<(a0.size:Int):=of_decide_eq_true gq3
        have hx7:=bt_at a0 x3_2
        replace p7:=eq_true p7
        replace q7:=eq_true q7
        go_wp2_with(((with_reducible refine gate_callee (f:=145) rfl ?_);refine goesL_ (some 21) rfl rfl Tryz.func145 (by kernel_rfl) rfl #[.int .u8 (bt a0 x3_2)] rfl gq0 ?_;(with_reducible refine(spec_l1tchar.calls k2 (bt a0 x3_2) false _ A8.out).mono ?_);rintro e w' ⟨rfl,⟨nd,rfl⟩⟩;refine⟨_,rfl,?_⟩))
        go_ret
        exact⟨gq4,gq5⟩
      ·obtain rfl:=Option.some.inj H
       go_wp2
       go_ret
       exact⟨gq4,gq5⟩

def spec_l1plain.f (a0:Int):Option (Bool):=if a0=9 then(some true) else(if a0≥32 then(some (a0 != 127)) else(some false))
set_option maxHeartbeats 8000000 in
set_option maxRecDepth 100000 in
theorem spec_l1plain.calls (a0:Int) (r:Bool) (w:World) (h:spec_l1plain.f a0=some r) :
  Calls Tryz.prog 146 #[.int .u8 a0] w fun e w'=>e = .returned (.bool r)∧Drawn0 w w':=by
 have H:=h
 clear h
 unfold spec_l1plain.f at H
 replace H:=gI H
 rcases H with⟨c2,-,-,H⟩|⟨c2,-,-,H⟩
 ·have c2b0:(a0==9)=true:=beq_iff_eq.mpr c2
  have c2b1:(a0 != 9)=false:=bne_eq_false_iff_eq.mpr c2
  clear c2
  obtain rfl:=Option.some.inj H
  go_enter Tryz.func146,Tryz.ntmps146
  go_wp2
  go_ret
  exact⟨gq4,gq5⟩
 ·have c2b0:(a0==9)=false:=beq_eq_false_iff_ne.mpr c2
  have c2b1:(a0 != 9)=true:=bne_iff_ne.mpr c2
  replace H:=gI H
  rcases H with⟨c3,-,-,H⟩|⟨c3,-,-,H⟩
  ·have c3b0:decide (32≤a0)=true:=decide_eq_true c3
   clear c3
   obtain rfl:=Option.some.inj H
   go_enter Tryz.func146,Tryz.ntmps146
   go_wp2
   go_ret
   exact⟨gq4,gq5⟩
  ·have c3b0:decide (32≤a0)=false:=decide_eq_false c3
   clear c3
   obtain rfl:=Option.some.inj H
   go_enter Tryz.func146,Tryz.ntmps146
   go_wp2
   go_ret
   exact⟨gq4,gq5⟩


def spec_l1white.f (a0:Int):Option (Bool):=if a0=32 then(some true) else(some (a0==9))
set_option maxHeartbeats 8000000 in
set_option maxRecDepth 100000 in
theorem spec_l1white.calls (a0:Int) (r:Bool) (w:World) (h:spec_l1white.f a0=some r) :
  Calls Tryz.prog 147 #[.int .u8 a0] w fun e w'=>e = .returned (.bool r)∧Drawn0 w w':=by
 have H:=h
 clear h
 unfold spec_l1white.f at H
 replace H:=gI H
 rcases H with⟨c2,-,-,H⟩|⟨c2,-,-,H⟩
 ·have c2b0:(a0==32)=true:=beq_iff_eq.mpr c2
  have c2b1:(a0 != 32)=false:=bne_eq_false_iff_eq.mpr c2
  clear c2
  obtain rfl:=Option.some.inj H
  go_enter Tryz.func147,Tryz.ntmps147
  go_wp2
  go_ret
  exact⟨gq4,gq5⟩
 ·have c2b0:(a0==32)=false:=beq_eq_false_iff_ne.mpr c2
  have c2b1:(a0 != 32)=true:=bne_iff_ne.mpr c2
  obtain rfl:=Option.some.inj H
  go_enter Tryz.func147,Tryz.ntmps147
  go_wp2
  go_ret
  exact⟨gq4,gq5⟩

mutual
def spec_Trim.j1 : Nat→ByteArray→Int→Option (ByteArray)
 |0,_,_=>none
 |k+1,x0,x3=>spec_Trim.l1 k x0 x3 (x0.size:Int)
def spec_Trim.l1 : Nat→ByteArray→Int→Int→Option (ByteArray)
 |0,_,_,_=>none
 |k+1,x0,x3,x4=>if x4>x3 then(if 0≤(wrap64 (x4-1)) then(if(wrap64 (x4-1))<(x0.size:Int) then((spec_l1white.f (bt x0 (wrap64 (x4-1)))).bind fun t385=>(if t385=true then(spec_Trim.l1 k x0 x3 (wrap64 (x4-1))) else(if 0≤x3 then(if x3≤x4 then(if x4≤(x0.size:Int) then(some (x0.extract (x3:Int).toNat (x4:Int).toNat)) else(none)) else(none)) else(none)))) else(none)) else(none)) else(if 0≤x3 then(if x3≤x4 then(if x4≤(x0.size:Int) then(some (x0.extract (x3:Int).toNat (x4:Int).toNat)) else(none)) else(none)) else(none))
def spec_Trim.l0 : Nat→ByteArray→Int→Option (ByteArray)
 |0,_,_=>none
 |k+1,x0,x3=>if x3<(x0.size:Int) then(if 0≤x3 then((spec_l1white.f (bt x0 x3)).bind fun t384=>(if t384=true then(spec_Trim.l0 k x0 (wrap64 (x3+1))) else(spec_Trim.j1 k x0 x3))) else(none)) else(spec_Trim.j1 k x0 x3)
end
def spec_Trim.f (k:Nat) (a0:ByteArray):Option (ByteArray):=spec_Trim.l0 k a0 0
set_option maxHeartbeats 8000000 in
set_option maxRecDepth 100000 in
theorem spec_Trim.calls (k:Nat) (a0:ByteArray) (r:ByteArray) (w:World) (h:spec_Trim.f k a0=some r) :
  Calls Tryz.prog 99 #[.string a0] w fun e w'=>e = .returned (.string r)∧Drawn0 w w':=by
 have H:=h
 clear h
 unfold spec_Trim.f at H
 have HC2:=Aside0.mk H
 clear H
 go_enter Tryz.func99,Tryz.ntmps99
 go_upto_block 0 with(fail)
 go_cut [3] (fun v3 wc=>∃(kq:Nat) (x3_1:Int),v3 = .int .i64 x3_1∧Aside0 (spec_Trim.j1 kq a0 x3_1=some r)∧Aside0 (kq≤k)∧Drawn0 w wc)
 case first=>
  have H:=HC2.out
  clear HC2
  have H':=Aside0.mk H
  clear H
  go_wp2
  go_loopg [3] k (fun kq v3 w'=>∃(x3_1:Int),v3 = .int .i64 x3_1∧Aside0 (spec_Trim.l0 kq a0 x3_1=some r)∧Aside0 (kq≤k)∧Drawn0 w w')
  case atStart=>exact⟨(0),gq4,H',⟨Nat.le_refl _⟩,gq5⟩
  case round=>
   clear H'
   obtain⟨x3_1,rfl,HA,HK1,⟨m1,rfl⟩⟩:=hrel
   cases gk with
   |zero=>exact absurd HA.out (by simp[spec_Trim.l0])
   |succ k1=>
    have H:=HA.out
    clear HA
    simp only[spec_Trim.l0] at H
    replace H:=gI H
    rcases H with⟨-,c3b0,-,H⟩|⟨-,c3b0,-,H⟩
    ·(first|rw[c3b0]|(simp only[i64_w,i32_w];rw[c3b0])|skip)
     replace H:=gN H
     obtain⟨-,c4b0,-,H⟩:=H
     replace H:=gD H
     obtain⟨t384,A6,H⟩:=H
     replace H:=gB H
     rcases H with⟨rfl,H⟩|⟨rfl,H⟩
     ·have H':=Aside0.mk H
      clear H
      have p5:0≤(x3_1:Int):=of_decide_eq_true gq3
      have q5:x3_1<(a0.size:Int):=of_decide_eq_true gq3
      have hx5:=bt_at a0 x3_1
      replace p5:=eq_true p5
      replace q5:=eq_true q5
      go_wp2_with((go_at_call 147;(with_reducible refine(spec_l1white.calls (bt a0 x3_1) true _ A6.out).mono ?_);rintro e w' ⟨rfl,⟨nd,rfl⟩⟩))
      go_roundg k1
      case measure=>have:=HK1.out;omega
      case rel=>exact⟨(wrap64 (x3_1+1)),gq4,H',⟨by have:=HK1.out;omega⟩,gq5⟩
     ·have H':=Aside0.mk H
      clear H
      have p5:0≤(x3_1:Int):=of_decide_eq_true gq3
      have q5:x3_1<(a0.size:Int):=of_decide_eq_true gq3
      have hx5:=bt_at a0 x3_1
      replace p5:=eq_true p5
      replace q5:=eq_true q5
      go_wp2_with((go_at_call 147;(with_reducible refine(spec_l1white.calls (bt a0 x3_1) false _ A6.out).mono ?_);rintro e w' ⟨rfl,⟨nd,rfl⟩⟩))
      go_meet
      case rel=>exact⟨_,(x3_1),gq4,H',⟨gq40⟩,gq5⟩
    ·(first|rw[c3b0]|(simp only[i64_w,i32_w];rw[c3b0])|skip)
     have H':=Aside0.mk H
     clear H
     go_wp2
     go_meet
     case rel=>exact⟨_,(x3_1),gq4,H',⟨gq40⟩,gq5⟩
 case rest=>
  clear HC2
  obtain⟨kq,x3_1,rfl,HA,HJ1,⟨mc1,rfl⟩⟩:=hcut
  cases kq with
  |zero=>exact absurd HA.out (by simp[spec_Trim.j1])
  |succ kj1=>
   have H:=HA.out
   clear HA
   simp only[spec_Trim.j1] at H
   have H':=Aside0.mk H
   clear H
   go_wp2
   go_loopg [4] kj1 (fun kq v4 w'=>∃(x4_2:Int),v4 = .int .i64 x4_2∧Aside0 (spec_Trim.l1 kq a0 x3_1 x4_2=some r)∧Aside0 (kq≤kj1)∧Drawn0 w w')
   case atStart=>exact⟨((a0.size:Int)),gq4,H',⟨Nat.le_refl _⟩,gq5⟩
   case round=>
    clear H'
    obtain⟨x4_2,rfl,HA,HK2,⟨m2,rfl⟩⟩:=hrel
    cases gk with
    |zero=>exact absurd HA.out (by simp[spec_Trim.l1])
    |succ k2=>
     have H:=HA.out
     clear HA
     simp only[spec_Trim.l1] at H
     replace H:=gI H
     rcases H with⟨c8,-,-,H⟩|⟨c8,-,-,H⟩
     ·have c8b0:decide (x3_1<x4_2)=true:=decide_eq_true c8
      clear c8
      obtain⟨ji9,hji9⟩:∃ j_:Int,(wrap64 (x4_2-1))=j_:=⟨_,rfl⟩
      replace H:(if 0≤(ji9) then(if(ji9)<(a0.size:Int) then((spec_l1white.f (bt a0 (ji9))).bind fun t385=>(if t385=true then(spec_Trim.l1 k2 a0 x3_1 ji9) else(if 0≤x3_1 then(if x3_1≤x4_2 then(if x4_2≤(a0.size:Int) then(some (a0.extract (x3_1:Int).toNat (x4_2:Int).toNat)) else(none)) else(none)) else(none)))) else(none)) else(none))=some r:=by first|(rw[hji9] at H;exact H)|(simp only[hji9] at H ⊢;exact H)
      have hji9w:(IntKind.i64.wrap (x4_2-1))=ji9:=(i64_w _).trans hji9
      replace H:=gN H
      obtain⟨-,c10b0,-,H⟩:=H
      replace H:=gN H
      obtain⟨-,c11b0,-,H⟩:=H
      replace H:=gD H
      obtain⟨t385,A13,H⟩:=H
      replace H:=gB H
      rcases H with⟨rfl,H⟩|⟨rfl,H⟩
      ·have H':=Aside0.mk H
       clear H
       have p12:0≤((ji9):Int):=of_decide_eq_true gq3
       have q12:(ji9)<(a0.size:Int):=of_decide_eq_true gq3
       have hx12:=bt_at a0 (ji9)
       replace p12:=eq_true p12
       replace q12:=eq_true q12
       go_wp2_with((go_at_call 147;(with_reducible refine(spec_l1white.calls (bt a0 (ji9)) true _ A13.out).mono ?_);rintro e w' ⟨rfl,⟨nd,rfl⟩⟩))
       go_roundg k2
       case measure=>have:=HJ1.out;have:=HK2.out;omega
       case rel=>exact⟨(ji9),(by first|rfl|(simp;done)|(simp only[← hji9] <;> (first|rfl|simp))|(simp[*];done)),H',⟨gq44⟩,gq5⟩
      ·replace H:=gN H
       obtain⟨-,c15b1,c15b0,H⟩:=H
       replace H:=gN H
       obtain⟨-,c16b1,c16b0,H⟩:=H
       replace H:=gN H
       obtain⟨-,c17b1,c17b0,H⟩:=H
       obtain rfl:=Option.some.inj H
       have p12:0≤((ji9):Int):=of_decide_eq_true gq3
       have q12:(ji9)<(a0.size:Int):=of_decide_eq_true gq3
       have hx12:=bt_at a0 (ji9)
       replace p12:=eq_true p12
       replace q12:=eq_true q12
       go_wp2_with((go_at_call 147;(with_reducible refine(spec_l1white.calls (bt a0 (ji9)) false _ A13.out).mono ?_);rintro e w' ⟨rfl,⟨nd,rfl⟩⟩))
       go_ret
       exact⟨by first|rfl|(simp;done)|(simp only[← hji9] <;> (first|rfl|simp))|(simp[*];done),gq5⟩
     ·have c8b0:decide (x3_1<x4_2)=false:=decide_eq_false c8
      clear c8
      replace H:=gI H
      rcases H with⟨-,c18b1,c18b0,H⟩|⟨c18,-,-,H⟩
      ·replace H:=gN H
       obtain⟨-,c19b1,c19b0,H⟩:=H
       replace H:=gN H
       obtain⟨-,c20b1,c20b0,H⟩:=H
       obtain rfl:=Option.some.inj H
       go_wp2
       go_ret
       exact⟨gq4,gq5⟩
      ·exact absurd H (by simp)



def spec_l2time.f (a0:Int):Option (Bool):=if a0≥0 then(some (decide (a0≤253402300799))) else(some false)
set_option maxHeartbeats 8000000 in
set_option maxRecDepth 100000 in
theorem spec_l2time.calls (a0:Int) (r:Bool) (w:World) (h:spec_l2time.f a0=some r) :
  Calls Tryz.prog 31 #[.int .i64 a0] w fun e w'=>e = .returned (.bool r)∧Drawn0 w w':=by
 have H:=h
 clear h
 unfold spec_l2time.f at H
 replace H:=gI H
 rcases H with⟨c2,-,-,H⟩|⟨c2,-,-,H⟩
 ·have c2b0:decide (0≤a0)=true:=decide_eq_true c2
  clear c2
  obtain rfl:=Option.some.inj H
  go_enter Tryz.func31,Tryz.ntmps31
  go_wp2
  go_ret
  exact⟨gq4,gq5⟩
 ·have c2b0:decide (0≤a0)=false:=decide_eq_false c2
  clear c2
  obtain rfl:=Option.some.inj H
  go_enter Tryz.func31,Tryz.ntmps31
  go_wp2
  go_ret
  exact⟨gq4,gq5⟩


def spec_l5plain.l0 : Nat→ByteArray→Int→Option (Bool)
 |0,_,_=>none
 |k+1,x0,x3=>if x3<(x0.size:Int) then(if 0≤x3 then((spec_l1plain.f (bt x0 x3)).bind fun t380=>(if t380=true then(spec_l5plain.l0 k x0 (wrap64 (x3+1))) else(some false))) else(none)) else(some true)
def spec_l5plain.f (k:Nat) (a0:ByteArray):Option (Bool):=spec_l5plain.l0 k a0 0
set_option maxHeartbeats 8000000 in
set_option maxRecDepth 100000 in
theorem spec_l5plain.calls (k:Nat) (a0:ByteArray) (r:Bool) (w:World) (h:spec_l5plain.f k a0=some r) :
  Calls Tryz.prog 98 #[.string a0] w fun e w'=>e = .returned (.bool r)∧Drawn0 w w':=by
 have H:=h
 clear h
 unfold spec_l5plain.f at H
 have H':=Aside0.mk H
 clear H
 go_enter Tryz.func98,Tryz.ntmps98
 go_wp2
 go_loopg [3] k (fun kq v3 w'=>∃(x3_1:Int),v3 = .int .i64 x3_1∧Aside0 (spec_l5plain.l0 kq a0 x3_1=some r)∧Aside0 (kq≤k)∧Drawn0 w w')
 case atStart=>exact⟨(0),gq4,H',⟨Nat.le_refl _⟩,gq5⟩
 case round=>
  clear H'
  obtain⟨x3_1,rfl,HA,HK1,⟨m1,rfl⟩⟩:=hrel
  cases gk with
  |zero=>exact absurd HA.out (by simp[spec_l5plain.l0])
  |succ k1=>
   have H:=HA.out
   clear HA
   simp only[spec_l5plain.l0] at H
   replace H:=gI H
   rcases H with⟨-,c2b0,-,H⟩|⟨-,c2b0,-,H⟩
   ·replace H:=gN H
    obtain⟨-,c3b0,-,H⟩:=H
    replace H:=gD H
    obtain⟨t380,A5,H⟩:=H
    replace H:=gB H
    rcases H with⟨rfl,H⟩|⟨rfl,H⟩
    ·have H':=Aside0.mk H
     clear H
     have p4:0≤(x3_1:Int):=of_decide_eq_true gq3
     have q4:x3_1<(a0.size:Int):=of_decide_eq_true gq3
     have hx4:=bt_at a0 x3_1
     replace p4:=eq_true p4
     replace q4:=eq_true q4
     go_wp2_with(((with_reducible refine gate_callee (f:=146) rfl ?_);refine goesL_ (some 13) rfl rfl Tryz.func146 (by kernel_rfl) rfl #[.int .u8 (bt a0 x3_1)] rfl gq0 ?_;(with_reducible refine(spec_l1plain.calls (bt a0 x3_1) true _ A5.out).mono ?_);rintro e w' ⟨rfl,⟨nd,rfl⟩⟩;refine⟨_,rfl,?_⟩))
     go_roundg k1
     case measure=>have:=HK1.out;omega
     case rel=>exact⟨(wrap64 (x3_1+1)),gq4,H',⟨by have:=HK1.out;omega⟩,gq5⟩
    ·obtain rfl:=Option.some.inj H
     have p4:0≤(x3_1:Int):=of_decide_eq_true gq3
     have q4:x3_1<(a0.size:Int):=of_decide_eq_true gq3
     have hx4:=bt_at a0 x3_1
     replace p4:=eq_true p4
     replace q4:=eq_true q4
     go_wp2_with(((with_reducible refine gate_callee (f:=146) rfl ?_);refine goesL_ (some 13) rfl rfl Tryz.func146 (by kernel_rfl) rfl #[.int .u8 (bt a0 x3_1)] rfl gq0 ?_;(with_reducible refine(spec_l1plain.calls (bt a0 x3_1) false _ A5.out).mono ?_);rintro e w' ⟨rfl,⟨nd,rfl⟩⟩;refine⟨_,rfl,?_⟩))
     go_ret
     exact⟨gq4,gq5⟩
   ·obtain rfl:=Option.some.inj H
    go_wp2
    go_ret
    exact⟨gq4,gq5⟩

def spec_FieldOk.f (k:Nat) (a0_0:ByteArray) (a0_1:ByteArray):Option (Bool):=if(a0_0.size:Int)≤40 then((spec_Token.f k a0_0).bind fun t387=>(if t387=true then(if(a0_1.size:Int)≤190 then((spec_l5plain.f k a0_1).bind fun t388=>(if t388=true then((spec_Trim.f k a0_1).bind fun t389=>(some (t389.toList==a0_1.toList))) else(some false))) else(some false)) else(some false))) else(some false)
theorem spec_FieldOk.e0 {p:Prop} (h:p:=by
  obtain rfl:=Option.some.inj H
  go_enter Tryz.func58,Tryz.ntmps58
  go_wp2_with(first|((with_reducible refine gate_dst (N:=1) rfl ?_);refine boxG #[.string a0_0,.string a0_1] 72 ?_;intro gb386 hg wq0a hbox hb;have BK386:=Aside0.mk (hbox);have GW386:=geA hg;have GE386:=geA hg;replace HB:=beA hb;clear hb hbox hg;have hczq0b_0:=cz0 BK386;have hczq0b_1:=cz1 BK386;have hfzq0b_0:=blk_frozen BK386.out 0;have hfzq0b_1:=blk_frozen BK386.out 1)|(go_at_call 97;(with_reducible refine(spec_Token.calls k a0_0 false _ A3.out).mono ?_);rintro e w' ⟨rfl,⟨nd,rfl⟩⟩;(try first|exact⟨rfl,_,World.drewN_drewN _ _ _⟩|exact⟨rfl,_,Eq.trans (World.drewN_drewN _ _ _) (congrArg (World.drewN _) (Nat.add_assoc _ _ _))⟩))|(go_at_call 97;(with_reducible refine(spec_Token.calls k a0_0 true _ A3.out).mono ?_);rintro e w' ⟨rfl,⟨nd,rfl⟩⟩;(try first|exact⟨rfl,_,World.drewN_drewN _ _ _⟩|exact⟨rfl,_,Eq.trans (World.drewN_drewN _ _ _) (congrArg (World.drewN _) (Nat.add_assoc _ _ _))⟩))|(go_at_call 98;(with_reducible refine(spec_l5plain.calls k a0_1 false _ A6.out).mono ?_);rintro e w' ⟨rfl,⟨nd,rfl⟩⟩;(try first|exact⟨rfl,_,World.drewN_drewN _ _ _⟩|exact⟨rfl,_,Eq.trans (World.drewN_drewN _ _ _) (congrArg (World.drewN _) (Nat.add_assoc _ _ _))⟩))|(go_at_call 98;(with_reducible refine(spec_l5plain.calls k a0_1 true _ A6.out).mono ?_);rintro e w' ⟨rfl,⟨nd,rfl⟩⟩;(try first|exact⟨rfl,_,World.drewN_drewN _ _ _⟩|exact⟨rfl,_,Eq.trans (World.drewN_drewN _ _ _) (congrArg (World.drewN _) (Nat.add_assoc _ _ _))⟩))|(go_at_call 99;(with_reducible refine(spec_Trim.calls k a0_1 t389 _ A8.out).mono ?_);rintro e w' ⟨rfl,⟨nd,rfl⟩⟩;(try first|exact⟨rfl,_,World.drewN_drewN _ _ _⟩|exact⟨rfl,_,Eq.trans (World.drewN_drewN _ _ _) (congrArg (World.drewN _) (Nat.add_assoc _ _ _))⟩)))
  repeat(first|go_quiet (first|((with_reducible refine gate_dst (N:=1) rfl ?_);refine boxG #[.string a0_0,.string a0_1] 72 ?_;intro gb386 hg wq0a hbox hb;have BK386:=Aside0.mk (hbox);have GW386:=geA hg;have GE386:=geA hg;replace HB:=beA hb;clear hb hbox hg;have hczq0b_0:=cz0 BK386;have hczq0b_1:=cz1 BK386;have hfzq0b_0:=blk_frozen BK386.out 0;have hfzq0b_1:=blk_frozen BK386.out 1));try go_wp2_with(first|((with_reducible refine gate_dst (N:=1) rfl ?_);refine boxG #[.string a0_0,.string a0_1] 72 ?_;intro gb386 hg wq0a hbox hb;have nq5a_:=beA hb;have nq5b_:=Aside0.mk (hbox);have nq5c_:=geA hg;have nq5d_:=geA hg;clear HB;have HB:=nq5a_;have BK386:=nq5b_;have GW386:=nq5c_;have GE386:=nq5d_;clear nq5a_ nq5b_ nq5c_ nq5d_;clear hb hbox hg;have hczq0b_0:=cz0 BK386;have hczq0b_1:=cz1 BK386;have hfzq0b_0:=blk_frozen BK386.out 0;have hfzq0b_1:=blk_frozen BK386.out 1))|go_quiet (first|((with_reducible refine gate_dst (N:=1) rfl ?_);refine boxG #[.string a0_0,.string a0_1] 72 ?_;intro gb386 hg wq0a hbox hb;have BK386:=Aside0.mk (hbox);have GW386:=geA hg;have GE386:=geA hg;replace HB:=beA hb;clear hb hbox hg;have hczq0b_0:=cz0 BK386;have hczq0b_1:=cz1 BK386;have hfzq0b_0:=blk_frozen BK386.out 0;have hfzq0b_1:=blk_frozen BK386.out 1)|(go_at_call 97;(with_reducible refine(spec_Token.calls k a0_0 false _ A3.out).mono ?_);rintro e w' ⟨rfl,⟨nd,rfl⟩⟩;(try first|exact⟨rfl,_,World.drewN_drewN _ _ _⟩|exact⟨rfl,_,Eq.trans (World.drewN_drewN _ _ _) (congrArg (World.drewN _) (Nat.add_assoc _ _ _))⟩)));try go_wp2_with(first|((with_reducible refine gate_dst (N:=1) rfl ?_);refine boxG #[.string a0_0,.string a0_1] 72 ?_;intro gb386 hg wq0a hbox hb;have nq4a_:=beA hb;have nq4b_:=Aside0.mk (hbox);have nq4c_:=geA hg;have nq4d_:=geA hg;clear HB;have HB:=nq4a_;have BK386:=nq4b_;have GW386:=nq4c_;have GE386:=nq4d_;clear nq4a_ nq4b_ nq4c_ nq4d_;clear hb hbox hg;have hczq0b_0:=cz0 BK386;have hczq0b_1:=cz1 BK386;have hfzq0b_0:=blk_frozen BK386.out 0;have hfzq0b_1:=blk_frozen BK386.out 1)|(go_at_call 97;(with_reducible refine(spec_Token.calls k a0_0 false _ A3.out).mono ?_);rintro e w' ⟨rfl,⟨nd,rfl⟩⟩;(try first|exact⟨rfl,_,World.drewN_drewN _ _ _⟩|exact⟨rfl,_,Eq.trans (World.drewN_drewN _ _ _) (congrArg (World.drewN _) (Nat.add_assoc _ _ _))⟩)))|go_quiet (first|((with_reducible refine gate_dst (N:=1) rfl ?_);refine boxG #[.string a0_0,.string a0_1] 72 ?_;intro gb386 hg wq0a hbox hb;have BK386:=Aside0.mk (hbox);have GW386:=geA hg;have GE386:=geA hg;replace HB:=beA hb;clear hb hbox hg;have hczq0b_0:=cz0 BK386;have hczq0b_1:=cz1 BK386;have hfzq0b_0:=blk_frozen BK386.out 0;have hfzq0b_1:=blk_frozen BK386.out 1)|(go_at_call 97;(with_reducible refine(spec_Token.calls k a0_0 true _ A3.out).mono ?_);rintro e w' ⟨rfl,⟨nd,rfl⟩⟩;(try first|exact⟨rfl,_,World.drewN_drewN _ _ _⟩|exact⟨rfl,_,Eq.trans (World.drewN_drewN _ _ _) (congrArg (World.drewN _) (Nat.add_assoc _ _ _))⟩)));try go_wp2_with(first|((with_reducible refine gate_dst (N:=1) rfl ?_);refine boxG #[.string a0_0,.string a0_1] 72 ?_;intro gb386 hg wq0a hbox hb;have nq3a_:=beA hb;have nq3b_:=Aside0.mk (hbox);have nq3c_:=geA hg;have nq3d_:=geA hg;clear HB;have HB:=nq3a_;have BK386:=nq3b_;have GW386:=nq3c_;have GE386:=nq3d_;clear nq3a_ nq3b_ nq3c_ nq3d_;clear hb hbox hg;have hczq0b_0:=cz0 BK386;have hczq0b_1:=cz1 BK386;have hfzq0b_0:=blk_frozen BK386.out 0;have hfzq0b_1:=blk_frozen BK386.out 1)|(go_at_call 97;(with_reducible refine(spec_Token.calls k a0_0 true _ A3.out).mono ?_);rintro e w' ⟨rfl,⟨nd,rfl⟩⟩;(try first|exact⟨rfl,_,World.drewN_drewN _ _ _⟩|exact⟨rfl,_,Eq.trans (World.drewN_drewN _ _ _) (congrArg (World.drewN _) (Nat.add_assoc _ _ _))⟩)))|go_quiet (first|((with_reducible refine gate_dst (N:=1) rfl ?_);refine boxG #[.string a0_0,.string a0_1] 72 ?_;intro gb386 hg wq0a hbox hb;have BK386:=Aside0.mk (hbox);have GW386:=geA hg;have GE386:=geA hg;replace HB:=beA hb;clear hb hbox hg;have hczq0b_0:=cz0 BK386;have hczq0b_1:=cz1 BK386;have hfzq0b_0:=blk_frozen BK386.out 0;have hfzq0b_1:=blk_frozen BK386.out 1)|(go_at_call 97;(with_reducible refine(spec_Token.calls k a0_0 true _ A3.out).mono ?_);rintro e w' ⟨rfl,⟨nd,rfl⟩⟩;(try first|exact⟨rfl,_,World.drewN_drewN _ _ _⟩|exact⟨rfl,_,Eq.trans (World.drewN_drewN _ _ _) (congrArg (World.drewN _) (Nat.add_assoc _ _ _))⟩))|(go_at_call 98;(with_reducible refine(spec_l5plain.calls k a0_1 false _ A6.out).mono ?_);rintro e w' ⟨rfl,⟨nd,rfl⟩⟩;(try first|exact⟨rfl,_,World.drewN_drewN _ _ _⟩|exact⟨rfl,_,Eq.trans (World.drewN_drewN _ _ _) (congrArg (World.drewN _) (Nat.add_assoc _ _ _))⟩)));try go_wp2_with(first|((with_reducible refine gate_dst (N:=1) rfl ?_);refine boxG #[.string a0_0,.string a0_1] 72 ?_;intro gb386 hg wq0a hbox hb;have nq2a_:=beA hb;have nq2b_:=Aside0.mk (hbox);have nq2c_:=geA hg;have nq2d_:=geA hg;clear HB;have HB:=nq2a_;have BK386:=nq2b_;have GW386:=nq2c_;have GE386:=nq2d_;clear nq2a_ nq2b_ nq2c_ nq2d_;clear hb hbox hg;have hczq0b_0:=cz0 BK386;have hczq0b_1:=cz1 BK386;have hfzq0b_0:=blk_frozen BK386.out 0;have hfzq0b_1:=blk_frozen BK386.out 1)|(go_at_call 97;(with_reducible refine(spec_Token.calls k a0_0 true _ A3.out).mono ?_);rintro e w' ⟨rfl,⟨nd,rfl⟩⟩;(try first|exact⟨rfl,_,World.drewN_drewN _ _ _⟩|exact⟨rfl,_,Eq.trans (World.drewN_drewN _ _ _) (congrArg (World.drewN _) (Nat.add_assoc _ _ _))⟩))|(go_at_call 98;(with_reducible refine(spec_l5plain.calls k a0_1 false _ A6.out).mono ?_);rintro e w' ⟨rfl,⟨nd,rfl⟩⟩;(try first|exact⟨rfl,_,World.drewN_drewN _ _ _⟩|exact⟨rfl,_,Eq.trans (World.drewN_drewN _ _ _) (congrArg (World.drewN _) (Nat.add_assoc _ _ _))⟩)))|go_quiet (first|((with_reducible refine gate_dst (N:=1) rfl ?_);refine boxG #[.string a0_0,.string a0_1] 72 ?_;intro gb386 hg wq0a hbox hb;have BK386:=Aside0.mk (hbox);have GW386:=geA hg;have GE386:=geA hg;replace HB:=beA hb;clear hb hbox hg;have hczq0b_0:=cz0 BK386;have hczq0b_1:=cz1 BK386;have hfzq0b_0:=blk_frozen BK386.out 0;have hfzq0b_1:=blk_frozen BK386.out 1)|(go_at_call 97;(with_reducible refine(spec_Token.calls k a0_0 true _ A3.out).mono ?_);rintro e w' ⟨rfl,⟨nd,rfl⟩⟩;(try first|exact⟨rfl,_,World.drewN_drewN _ _ _⟩|exact⟨rfl,_,Eq.trans (World.drewN_drewN _ _ _) (congrArg (World.drewN _) (Nat.add_assoc _ _ _))⟩))|(go_at_call 98;(with_reducible refine(spec_l5plain.calls k a0_1 true _ A6.out).mono ?_);rintro e w' ⟨rfl,⟨nd,rfl⟩⟩;(try first|exact⟨rfl,_,World.drewN_drewN _ _ _⟩|exact⟨rfl,_,Eq.trans (World.drewN_drewN _ _ _) (congrArg (World.drewN _) (Nat.add_assoc _ _ _))⟩))|(go_at_call 99;(with_reducible refine(spec_Trim.calls k a0_1 t389 _ A8.out).mono ?_);rintro e w' ⟨rfl,⟨nd,rfl⟩⟩;(try first|exact⟨rfl,_,World.drewN_drewN _ _ _⟩|exact⟨rfl,_,Eq.trans (World.drewN_drewN _ _ _) (congrArg (World.drewN _) (Nat.add_assoc _ _ _))⟩)));try go_wp2_with(first|((with_reducible refine gate_dst (N:=1) rfl ?_);refine boxG #[.string a0_0,.string a0_1] 72 ?_;intro gb386 hg wq0a hbox hb;have nq1a_:=beA hb;have nq1b_:=Aside0.mk (hbox);have nq1c_:=geA hg;have nq1d_:=geA hg;clear HB;have HB:=nq1a_;have BK386:=nq1b_;have GW386:=nq1c_;have GE386:=nq1d_;clear nq1a_ nq1b_ nq1c_ nq1d_;clear hb hbox hg;have hczq0b_0:=cz0 BK386;have hczq0b_1:=cz1 BK386;have hfzq0b_0:=blk_frozen BK386.out 0;have hfzq0b_1:=blk_frozen BK386.out 1)|(go_at_call 97;(with_reducible refine(spec_Token.calls k a0_0 true _ A3.out).mono ?_);rintro e w' ⟨rfl,⟨nd,rfl⟩⟩;(try first|exact⟨rfl,_,World.drewN_drewN _ _ _⟩|exact⟨rfl,_,Eq.trans (World.drewN_drewN _ _ _) (congrArg (World.drewN _) (Nat.add_assoc _ _ _))⟩))|(go_at_call 98;(with_reducible refine(spec_l5plain.calls k a0_1 true _ A6.out).mono ?_);rintro e w' ⟨rfl,⟨nd,rfl⟩⟩;(try first|exact⟨rfl,_,World.drewN_drewN _ _ _⟩|exact⟨rfl,_,Eq.trans (World.drewN_drewN _ _ _) (congrArg (World.drewN _) (Nat.add_assoc _ _ _))⟩))|(go_at_call 99;(with_reducible refine(spec_Trim.calls k a0_1 t389 _ A8.out).mono ?_);rintro e w' ⟨rfl,⟨nd,rfl⟩⟩;(try first|exact⟨rfl,_,World.drewN_drewN _ _ _⟩|exact⟨rfl,_,Eq.trans (World.drewN_drewN _ _ _) (congrArg (World.drewN _) (Nat.add_assoc _ _ _))⟩))))
  go_ret
  exact⟨gq2,gBe⟩):p:=h
set_option maxHeartbeats 8000000 in
set_option maxRecDepth 100000 in
theorem spec_FieldOk.calls (k:Nat) (a0_0:ByteArray) (a0_1:ByteArray) (r:Bool) (w:World) (h:spec_FieldOk.f k a0_0 a0_1=some r) :
  Calls Tryz.prog 58 #[.agg #[.string a0_0,.string a0_1]] w fun e w'=>e = .returned (.bool r)∧Below w.heap.size w w':=by
 have hu72:=Tryz.underlying72
 have HB:=Aside0.mk (Below.refl w.heap.size w)
 have H:=h
 clear h
 unfold spec_FieldOk.f at H
 replace H:=gI H
 rcases H with⟨c2,c2b0,-,H⟩|⟨c2,c2b0,-,H⟩
 ·have c2b1:decide (a0_0.size≤40)=true:=decide_eq_true (by omega)
  clear c2
  replace H:=gD H
  obtain⟨t387,A3,H⟩:=H
  replace H:=gB H
  rcases H with⟨rfl,H⟩|⟨rfl,H⟩
  ·replace H:=gI H
   rcases H with⟨c5,c5b0,-,H⟩|⟨c5,c5b0,-,H⟩
   ·have c5b1:decide (a0_1.size≤190)=true:=decide_eq_true (by omega)
    clear c5
    replace H:=gD H
    obtain⟨t388,A6,H⟩:=H
    replace H:=gB H
    rcases H with⟨rfl,H⟩|⟨rfl,H⟩
    ·replace H:=gD H
     obtain⟨t389,A8,H⟩:=H
     exact spec_FieldOk.e0
    ·exact spec_FieldOk.e0
   ·have c5b1:decide (a0_1.size≤190)=false:=decide_eq_false (by omega)
    clear c5
    exact spec_FieldOk.e0
  ·exact spec_FieldOk.e0
 ·have c2b1:decide (a0_0.size≤40)=false:=decide_eq_false (by omega)
  clear c2
  exact spec_FieldOk.e0

end Go.Proofs.YtfhllanhldbkkaaGreatDoor.P
