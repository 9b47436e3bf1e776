import Derived.Lib.AtoiAll
import Derived.Lib.AtoiErrMem
import Derived.Test.YtfhllanhldbkkaaGreatDoorShelf
import Derived.Test.YtfhllanhldbkkaaGreatDoorPx0
import Derived.Test.YtfhllanhldbkkaaGreatDoorPxliba
import Derived.Test.YtfhllanhldbkkaaGreatDoorWC
namespace Go.Proofs.YtfhllanhldbkkaaGreatDoor.P
open Go.RowKit Go.Proofs.YtfhllanhldbkkaaGreatDoorW.PrintWords Go.Proofs.YtfhllanhldbkkaaGreatDoorW.PrintLast Go.Proofs.YtfhllanhldbkkaaGreatDoorW.PrintMore
attribute [local go_sem] max2_int min2_int max_two min_two max_three min_three max_four min_four   -- for this text's walks alone
set_option linter.unusedVariables false
set_option linter.unusedSimpArgs false

def impl_isUpper.f (a0:Int):Option (Bool):=if a0≥65 then(some (decide (a0≤90))) else(some false)
set_option maxHeartbeats 8000000 in
set_option maxRecDepth 100000 in
theorem impl_isUpper.calls (a0:Int) (r:Bool) (w:World) (h:impl_isUpper.f a0=some r) :
  Calls Tryz.prog 130 #[.int .u8 a0] w fun e w'=>e = .returned (.bool r)∧Drawn0 w w':=by
 have H:=h
 clear h
 unfold impl_isUpper.f at H
 replace H:=gI H
 rcases H with⟨c2,-,-,H⟩|⟨c2,-,-,H⟩
 ·have c2b0:decide (65≤a0)=true:=decide_eq_true c2
  clear c2
  obtain rfl:=Option.some.inj H
  go_enter Tryz.func130,Tryz.ntmps130
  go_wp2
  go_ret
  exact⟨gq4,gq5⟩
 ·have c2b0:decide (65≤a0)=false:=decide_eq_false c2
  clear c2
  obtain rfl:=Option.some.inj H
  go_enter Tryz.func130,Tryz.ntmps130
  go_wp2
  go_ret
  exact⟨gq4,gq5⟩

theorem isUpper_low (c:Int):impl_isUpper.f c=some (decide (65≤c∧c≤90)):=by
 unfold impl_isUpper.f
 by_cases h:c≥65
 ·rw[if_pos h];congr 1;simp[h]
 ·rw[if_neg h];congr 1;simp;omega
def impl_Fold.f (a0:ByteArray):Option (ByteArray):=if a0.size≤9223372036854775807 then some (foldS a0) else none
set_option maxHeartbeats 8000000 in
set_option maxRecDepth 100000 in
theorem impl_Fold.calls (a0:ByteArray) (r:ByteArray) (w:World) (h:impl_Fold.f a0=some r) :
  Calls Tryz.prog 89 #[.string a0] w fun e w'=>e = .returned (.string r)∧Below w.heap.size w w':=by
 unfold impl_Fold.f at h
 by_cases hs:a0.size≤9223372036854775807
 case neg=>rw[if_neg hs] at h;cases h
 rw[if_pos hs] at h
 obtain rfl:=Option.some.inj h
 clear h
 have kb:=fun W=>print_bytes (P:=Tryz.prog) 9 100 5 Tryz.underlying9 Tryz.underlying100 Tryz.underlying5 a0 W
 have hrow0:BRow (Lib.bytesWorld w 5 a0) w.heap.size 5 (lowTo a0 0):=by rw[lowTo_zero];exact BRow.new w 5 a0
 have hbel0:Below w.heap.size w (Lib.bytesWorld w 5 a0):=bytes_below (Below.refl _ _) (Nat.le_refl _) 5 a0
 go_enter Tryz.func89,Tryz.ntmps89
 go_wp2
 clear kb
 go_loopw [10] (fun i wr=>∃ k:Nat,k≤a0.size∧i = .int .i64 k∧BRow wr w.heap.size 5 (lowTo a0 k)∧Below w.heap.size w wr) (fun i _=>a0.size-(intOf i).toNat)
 case atStart=>exact⟨0,Nat.zero_le _,rfl,hrow0,hbel0⟩
 case round=>
  obtain⟨k,hk,rfl,hrow,hbel⟩:=hrel
  clear hrow0 hbel0
  by_cases hlt:k<a0.size
  ·have hcell:=hrow.cell k (by rw[lowTo_length];exact hlt)
   rw[lowTo_at a0 k hlt] at hcell
   have hfree:=hrow.free k (by rw[lowTo_length];exact hlt)
   have hr:=bt_range a0 (k:Int)
   have hl:=isUpper_low (bt a0 k)
   have Hrow:=Aside0.mk hrow
   have Hbel:=Aside0.mk hbel
   clear hrow hbel
   by_cases hup:65≤bt a0 (k:Int)∧bt a0 (k:Int)≤90
   ·rw[decide_eq_true hup] at hl
    go_wp2_with(go_at_call 130;refine(impl_isUpper.calls _ _ _ hl).mono ?_;rintro e w' ⟨rfl,⟨nd,rfl⟩⟩)
    have hlow:low (bt a0 (k:Int))=bt a0 (k:Int)+32:=by unfold low;rw[if_pos hup]
    exact⟨⟨k+1,by omega,by go_num,by rw[← lowTo_succ a0 k hlt,hlow];exact(Hrow.out.drewN nd).set k (by rw[lowTo_length];exact hlt) _,(below_drewN1 Hbel.out nd).setCell (Nat.le_refl _) _⟩,by simp[intOf];omega⟩
   ·rw[decide_eq_false hup] at hl
    go_wp2_with(go_at_call 130;refine(impl_isUpper.calls _ _ _ hl).mono ?_;rintro e w' ⟨rfl,⟨nd,rfl⟩⟩)
    have hlow:low (bt a0 (k:Int))=bt a0 (k:Int):=by unfold low;rw[if_neg hup]
    exact⟨⟨k+1,by omega,by go_num,by rw[← lowTo_keep a0 k hlt hlow];exact Hrow.out.drewN nd,below_drewN1 Hbel.out nd⟩,by simp[intOf];omega⟩
  ·obtain rfl:k=a0.size:=by omega
   have kc:=fun c=>BRow.str (P:=Tryz.prog) (src:=100) (dst:=9) hrow Tryz.underlying100 Tryz.underlying5 Tryz.underlying9 a0.size c (lowTo_length a0 _)
   rw[lowTo_all] at kc
   have Hbel:=Aside0.mk hbel
   clear hrow hbel
   go_wp2
   go_ret
   exact⟨rfl,Hbel.out⟩

def impl_within.f (a0:Int) (a1:Int) (a2:Int):Option (Bool):=if a1≤a0 then(some (decide (a0≤a2))) else(some false)
set_option maxHeartbeats 8000000 in
set_option maxRecDepth 100000 in
theorem impl_within.calls (a0:Int) (a1:Int) (a2:Int) (r:Bool) (w:World) (h:impl_within.f a0 a1 a2=some r) :
  Calls Tryz.prog 65 #[.int .i64 a0,.int .i64 a1,.int .i64 a2] w fun e w'=>e = .returned (.bool r)∧Drawn0 w w':=by
 have H:=h
 clear h
 unfold impl_within.f at H
 replace H:=gI H
 rcases H with⟨-,c4b0,-,H⟩|⟨-,c4b0,-,H⟩
 ·obtain rfl:=Option.some.inj H
  go_enter Tryz.func65,Tryz.ntmps65
  go_wp2
  go_ret
  exact⟨gq4,gq5⟩
 ·obtain rfl:=Option.some.inj H
  go_enter Tryz.func65,Tryz.ntmps65
  go_wp2
  go_ret
  exact⟨gq4,gq5⟩

def impl_DecText.f (a0:Int):Option (ByteArray):=(impl_within.f a0 0 999999999999999).bind fun t530=>(if t530=true then((strconv_Itoa_111.f a0).bind fun t531=>(some t531)) else(some (⟨#[]⟩:ByteArray)))
theorem impl_DecText.e0 {p:Prop} (h:p:=by
  obtain rfl:=Option.some.inj H
  go_enter Tryz.func193,Tryz.ntmps193
  go_wp2_with(first|((with_reducible refine gate_callee (f:=65) rfl ?_);refine goesL_ (some 4) rfl rfl Tryz.func65 (by kernel_rfl) rfl #[.int .i64 a0,.int .i64 0,.int .i64 999999999999999] rfl gq0 ?_;(with_reducible refine(impl_within.calls a0 0 999999999999999 false _ A2.out).mono ?_);rintro e w' ⟨rfl,⟨nd,rfl⟩⟩;refine⟨_,rfl,?_⟩)|((with_reducible refine gate_callee (f:=65) rfl ?_);refine goesL_ (some 4) rfl rfl Tryz.func65 (by kernel_rfl) rfl #[.int .i64 a0,.int .i64 0,.int .i64 999999999999999] rfl gq0 ?_;(with_reducible refine(impl_within.calls a0 0 999999999999999 true _ A2.out).mono ?_);rintro e w' ⟨rfl,⟨nd,rfl⟩⟩;refine⟨_,rfl,?_⟩)|((with_reducible refine gate_callee (f:=111) rfl ?_);refine goesL_ (some 7) rfl rfl Tryz.func111 (by kernel_rfl) rfl #[.int .i64 a0] rfl gq0 ?_;(with_reducible refine(strconv_Itoa_111.calls a0 t531 _ A4.out ?hT).mono ?_);(case hT=>exact tab_go HT);rintro e wq0a ⟨rfl,hb⟩;refine⟨_,rfl,?_⟩;replace HB:=beA hb;(try clear hb);(try clear hb2);(try clear hk);(try clear hi)))
  go_ret
  exact⟨gq2,gBe⟩):p:=h
set_option maxHeartbeats 8000000 in
set_option maxRecDepth 100000 in
theorem impl_DecText.calls (a0:Int) (r:ByteArray) (w:World) (h:impl_DecText.f a0=some r) (HT0:Tab10 w) :
  Calls Tryz.prog 193 #[.int .i64 a0] w fun e w'=>e = .returned (.string r)∧Below w.heap.size w w':=by
 have HT:=Aside0.mk HT0
 clear HT0
 have HB:=Aside0.mk (Below.refl w.heap.size w)
 have H:=h
 clear h
 unfold impl_DecText.f at H
 replace H:=gD H
 obtain⟨t530,A2,H⟩:=H
 replace H:=gB H
 rcases H with⟨rfl,H⟩|⟨rfl,H⟩
 ·replace H:=gD H
  obtain⟨t531,A4,H⟩:=H
  exact impl_DecText.e0
 ·exact impl_DecText.e0

-- IMPORT Shelf Derived.Lib.AtoiAll Derived.Lib.AtoiErrMem
def decI (s:ByteArray):Int×Bool:=match Lib.atoiAll s.data.toList with
 |.ok v=>if 0≤v∧v≤999999999999999∧(itoaT v).toList=s.toList then(v,true) else(0,false)
 |_=>(0,false)
def impl_ReadDec.f (a0:ByteArray):Option (Int×Bool):=if a0.size≤281474976710656 then some (decI a0) else none
theorem atoi_ok_calls (a0:ByteArray) (hs:a0.size≤281474976710656) (v:Int) (h:Lib.atoiAll a0.data.toList = .ok v) (w:World) :
  Calls Tryz.prog 192 #[.string a0] w fun e w'=>e = .returned (.tuple #[.int .i64 v,.nilIface])∧Below w.heap.size w w':=by
 refine(Tryz.strconv_Atoi_ok a0 (by omega) v h w).mono ?_
 rintro e w' ⟨rfl,rfl|⟨t,rfl⟩⟩
 ·exact⟨rfl,Below.refl _ _⟩
 ·exact⟨rfl,Lib.bytesWorld_below w _ t⟩
theorem atoi_bad_calls (a0:ByteArray) (hs:a0.size≤281474976710656) (h:∀ v,Lib.atoiAll a0.data.toList≠.ok v) (w:World) (HT0:Tab10 w) :
  Calls Tryz.prog 192 #[.string a0] w fun e w'=>∃ n T N,e = .returned (.tuple #[.int .i64 n,.iface T (.pointer (some ⟨N,0,none⟩))])∧Below w.heap.size w w':=by
 obtain⟨_,_,⟨t1,p1,h1⟩,t2,p2,h2⟩:=HT0
 rcases hA:Lib.atoiAll a0.data.toList with v|_|_
 ·exact absurd hA (h v)
 ·refine(Tryz.strconv_Atoi_syntax a0 hs ⟨h,fun e=>by rw[hA] at e;cases e⟩ _ w h1 (.inr ⟨t1,p1,rfl⟩)).mono ?_
  rintro e w' ⟨N,rfl,_,_,hb⟩
  exact⟨_,_,N,rfl,hb⟩
 ·refine(Tryz.strconv_Atoi_range a0 hs hA _ w h2 (.inr ⟨t2,p2,rfl⟩)).mono ?_
  rintro e w' ⟨N,rfl,_,_,hb⟩
  exact⟨_,_,N,rfl,hb⟩
theorem impl_ReadDec.e0 {p:Prop} (h:p:=by
  go_enter Tryz.func151,Tryz.ntmps151
  go_wp2_with(first|(with_reducible refine gate_callee (f:=192) rfl ?_);refine goesL_ (some 8) rfl rfl Tryz.func192 (by kernel_rfl) rfl #[.string a0] rfl gq13 ?_;refine(atoi_bad_calls a0 HS.out HBAD.out _ (tab_go HT)).mono ?_;rintro e wq2a ⟨n,T,N,rfl,hb⟩;refine⟨_,rfl,?_⟩;replace HB:=beA hb;clear hb|((with_reducible refine gate_callee (f:=192) rfl ?_);refine goesL_ (some 8) rfl rfl Tryz.func192 (by kernel_rfl) rfl #[.string a0] rfl gq13 ?_;refine(atoi_ok_calls a0 HS.out v HV.out _).mono ?_;rintro e wq0a ⟨rfl,hb⟩;refine⟨_,rfl,?_⟩;replace HB:=beA hb;clear hb)|(go_at_call 65;(with_reducible refine(impl_within.calls v 0 999999999999999 false _ A3.out).mono ?_);rintro e w' ⟨rfl,⟨nd,rfl⟩⟩)|(go_at_call 65;(with_reducible refine(impl_within.calls v 0 999999999999999 true _ A3.out).mono ?_);rintro e w' ⟨rfl,⟨nd,rfl⟩⟩)|(go_at_call 193;(with_reducible refine(impl_DecText.calls v (itoaT v) _ A5.out (tab_go HT)).mono ?_);rintro e wq1a ⟨rfl,hb⟩;replace HB:=beA hb;clear hb))
  go_ret2
  exact⟨rfl,gq80⟩):p:=h
set_option maxHeartbeats 4000000 in
set_option maxRecDepth 100000 in
theorem impl_ReadDec.calls (a0:ByteArray) (r1:Int) (r2:Bool) (w:World) (h:impl_ReadDec.f a0=some (r1,r2)) (HT0:Tab10 w) :
  Calls Tryz.prog 151 #[.string a0] w fun e w'=>e = .returned (.tuple #[.int .i64 r1,.bool r2])∧Below w.heap.size w w':=by
 unfold impl_ReadDec.f at h
 by_cases hs:a0.size≤281474976710656
 case neg=>rw[if_neg hs] at h;cases h
 rw[if_pos hs] at h
 have HS:=Aside0.mk hs
 clear hs
 have huE:=Tryz.underlying104
 have HB:=Aside0.mk (Below.refl w.heap.size w)
 have HT:=Aside0.mk HT0
 clear HT0
 by_cases hok:∃ v,Lib.atoiAll a0.data.toList = .ok v
 ·obtain⟨v,hv⟩:=hok
  have HV:=Aside0.mk hv
  by_cases hr:0≤v∧v≤999999999999999
  ·have A3:Aside0 (impl_within.f v 0 999999999999999=some true):=⟨by unfold impl_within.f;rw[if_pos hr.1,decide_eq_true hr.2]⟩
   have A5:Aside0 (impl_DecText.f v=some (itoaT v)):=⟨by unfold impl_DecText.f;rw[A3.out,Option.bind_some,if_pos rfl];unfold strconv_Itoa_111.f;rw[if_pos ⟨by omega,by omega⟩];rfl⟩
   by_cases he:(itoaT v).toList=a0.toList
   ·have hd:decI a0=(v,true):=by unfold decI;rw[hv];exact if_pos ⟨hr.1,hr.2,he⟩
    rw[hd] at h
    obtain⟨h1,h2⟩:=Prod.mk.inj (Option.some.inj h)
    subst h1
    subst h2
    clear h
    have c6b0:((itoaT v).toList==a0.toList)=true:=beq_iff_eq.mpr he
    have c6b1:((itoaT v).toList != a0.toList)=false:=bne_eq_false_iff_eq.mpr he
    clear he hr hv hd
    exact impl_ReadDec.e0
   ·have hd:decI a0=(0,false):=by unfold decI;rw[hv];exact if_neg (fun x=>he x.2.2)
    rw[hd] at h
    obtain⟨h1,h2⟩:=Prod.mk.inj (Option.some.inj h)
    subst h1
    subst h2
    clear h
    have c6b0:((itoaT v).toList==a0.toList)=false:=beq_eq_false_iff_ne.mpr he
    have c6b1:((itoaT v).toList != a0.toList)=true:=bne_iff_ne.mpr he
    clear he hr hv hd
    exact impl_ReadDec.e0
  ·have A3:Aside0 (impl_within.f v 0 999999999999999=some false):=⟨by
    unfold impl_within.f
    by_cases h0:0≤v
    ·rw[if_pos h0,decide_eq_false (fun x=>hr ⟨h0,x⟩)]
    ·rw[if_neg h0]⟩
   have hd:decI a0=(0,false):=by unfold decI;rw[hv];exact if_neg (fun x=>hr ⟨x.1,x.2.1⟩)
   rw[hd] at h
   obtain⟨h1,h2⟩:=Prod.mk.inj (Option.some.inj h)
   subst h1
   subst h2
   clear h
   clear hr hv hd
   exact impl_ReadDec.e0
 ·have hbad:∀ v,Lib.atoiAll a0.data.toList≠.ok v:=fun v e=>hok ⟨v,e⟩
  have hd:decI a0=(0,false):=by
   unfold decI
   rcases hA:Lib.atoiAll a0.data.toList with v|_|_
   ·exact absurd hA (hbad v)
   ·rfl
   ·rfl
  rw[hd] at h
  cases h
  have HBAD:=Aside0.mk hbad
  clear hbad hd hok
  exact impl_ReadDec.e0

def impl_isDigit.f (a0:Int):Option (Bool):=if a0≥48 then(some (decide (a0≤57))) else(some false)
set_option maxHeartbeats 8000000 in
set_option maxRecDepth 100000 in
theorem impl_isDigit.calls (a0:Int) (r:Bool) (w:World) (h:impl_isDigit.f a0=some r) :
  Calls Tryz.prog 166 #[.int .u8 a0] w fun e w'=>e = .returned (.bool r)∧Drawn0 w w':=by
 have H:=h
 clear h
 unfold impl_isDigit.f at H
 replace H:=gI H
 rcases H with⟨c2,-,-,H⟩|⟨c2,-,-,H⟩
 ·have c2b0:decide (48≤a0)=true:=decide_eq_true c2
  clear c2
  obtain rfl:=Option.some.inj H
  go_enter Tryz.func166,Tryz.ntmps166
  go_wp2
  go_ret
  exact⟨gq4,gq5⟩
 ·have c2b0:decide (48≤a0)=false:=decide_eq_false c2
  clear c2
  obtain rfl:=Option.some.inj H
  go_enter Tryz.func166,Tryz.ntmps166
  go_wp2
  go_ret
  exact⟨gq4,gq5⟩


def impl_hexOf.j0 : Nat→Int→Bool→Option (Int)
 |0,_,_=>none
 |k+1,x0,x9=>if x9=true then(some (((x0-97)%256)+10)) else(if x0≥65 then(if x0≤70 then(some (((x0-65)%256)+10)) else(some (-1))) else(some (-1)))
def impl_hexOf.f (k:Nat) (a0:Int):Option (Int):=(impl_isDigit.f a0).bind fun t556=>(if t556=true then(some ((a0-48)%256)) else(if a0≥97 then(impl_hexOf.j0 k a0 (decide (a0≤102))) else(impl_hexOf.j0 k a0 false)))
theorem impl_hexOf.mono_l : ∀ k,(∀ y0 y1,LeO (impl_hexOf.j0 k y0 y1) (impl_hexOf.j0 (k+1) y0 y1))
 |0=>fun _ _ r h=>by simp[impl_hexOf.j0] at h
 |k+1=>by
  have ih0:=impl_hexOf.mono_l k
  ·intro y0 y1
   unfold impl_hexOf.j0
   repeat' first
   |(with_reducible exact ih0 ..)
   |(with_reducible exact LeO.refl ..)
   |(with_reducible exact LeO.none ..)
   |(with_reducible refine LeO.ite ?_ ?_)
   |(with_reducible refine LeO.bind ?_ (fun _=>?_))
   |exact ih0 ..
theorem impl_hexOf.mono : ∀ a0 k,LeO (impl_hexOf.f k a0) (impl_hexOf.f (k+1) a0):=by
 intro a0 k
 have ih0:=impl_hexOf.mono_l k
 unfold impl_hexOf.f
 repeat' first
   |(with_reducible exact ih0 ..)
   |(with_reducible exact LeO.refl ..)
   |(with_reducible exact LeO.none ..)
   |(with_reducible refine LeO.ite ?_ ?_)
   |(with_reducible refine LeO.bind ?_ (fun _=>?_))
   |exact ih0 ..
set_option maxHeartbeats 8000000 in
set_option maxRecDepth 100000 in
theorem impl_hexOf.calls (k:Nat) (a0:Int) (r:Int) (w:World) (h:impl_hexOf.f k a0=some r) :
  Calls Tryz.prog 219 #[.int .u8 a0] w fun e w'=>e = .returned (.int .i64 r)∧Drawn0 w w':=by
 have H:=h
 clear h
 unfold impl_hexOf.f at H
 replace H:=gD H
 obtain⟨t556,A2,H⟩:=H
 replace H:=gB H
 rcases H with⟨rfl,H⟩|⟨rfl,H⟩
 ·obtain rfl:=Option.some.inj H
  go_enter Tryz.func219,Tryz.ntmps219
  go_wp2_with(((with_reducible refine gate_callee (f:=166) rfl ?_);refine goesL_ (some 5) rfl rfl Tryz.func166 (by kernel_rfl) rfl #[.int .u8 a0] rfl gq0 ?_;(with_reducible refine(impl_isDigit.calls a0 true _ A2.out).mono ?_);rintro e w' ⟨rfl,⟨nd,rfl⟩⟩;refine⟨_,rfl,?_⟩))
  go_ret
  exact⟨gq4,gq5⟩
 ·have HC4:=Aside0.mk H
  clear H
  go_enter Tryz.func219,Tryz.ntmps219
  go_upto_region 3 with(first|((with_reducible refine gate_callee (f:=166) rfl ?_);refine goesL_ (some 5) rfl rfl Tryz.func166 (by kernel_rfl) rfl #[.int .u8 a0] rfl gq0 ?_;(with_reducible refine(impl_isDigit.calls a0 false _ A2.out).mono ?_);rintro e w' ⟨rfl,⟨nd,rfl⟩⟩;refine⟨_,rfl,?_⟩))
  (try simp only[Act.put,List.setIfInBounds_toArray,List.set_cons_zero,List.set_cons_succ])
  go_cut [9] (fun v9 wc=>∃(kq:Nat) (x9_3:Bool),v9 = .bool x9_3∧Aside0 (impl_hexOf.j0 kq a0 x9_3=some r)∧Aside0 (kq≤k)∧Drawn0 w wc)
  case first=>
   have H:=HC4.out
   clear HC4
   replace H:=gI H
   rcases H with⟨c5,-,-,H⟩|⟨c5,-,-,H⟩
   ·have c5b0:decide (97≤a0)=true:=decide_eq_true c5
    clear c5
    (first|rw[c5b0]|(simp only[i64_w,i32_w];rw[c5b0])|skip)
    have H':=Aside0.mk H
    clear H
    go_wp2
    go_meet
    case rel=>exact⟨_,(decide (a0≤102)),gq4,H',⟨gq8⟩,gq5⟩
   ·have c5b0:decide (97≤a0)=false:=decide_eq_false c5
    clear c5
    (first|rw[c5b0]|(simp only[i64_w,i32_w];rw[c5b0])|skip)
    have H':=Aside0.mk H
    clear H
    go_wp2
    go_meet
    case rel=>exact⟨_,(false),gq4,H',⟨gq8⟩,gq5⟩
  case rest=>
   clear HC4
   obtain⟨kq,x9_3,rfl,HA,HJ3,⟨mc3,rfl⟩⟩:=hcut
   cases kq with
   |zero=>exact absurd HA.out (by simp[impl_hexOf.j0])
   |succ kj3=>
    have H:=HA.out
    clear HA
    simp only[impl_hexOf.j0] at H
    replace H:=gB H
    rcases H with⟨rfl,H⟩|⟨rfl,H⟩
    ·obtain rfl:=Option.some.inj H
     go_wp2
     go_ret
     exact⟨gq4,gq5⟩
    ·replace H:=gI H
     rcases H with⟨c7,-,-,H⟩|⟨c7,-,-,H⟩
     ·have c7b0:decide (65≤a0)=true:=decide_eq_true c7
      clear c7
      replace H:=gI H
      rcases H with⟨-,c8b0,-,H⟩|⟨-,c8b0,-,H⟩
      ·obtain rfl:=Option.some.inj H
       go_wp2
       go_ret
       exact⟨gq4,gq5⟩
      ·obtain rfl:=Option.some.inj H
       go_wp2
       go_ret
       exact⟨gq4,gq5⟩
     ·have c7b0:decide (65≤a0)=false:=decide_eq_false c7
      clear c7
      obtain rfl:=Option.some.inj H
      go_wp2
      go_ret
      exact⟨gq4,gq5⟩

def impl_isLower.f (a0:Int):Option (Bool):=if a0≥97 then(some (decide (a0≤122))) else(some false)
set_option maxHeartbeats 8000000 in
set_option maxRecDepth 100000 in
theorem impl_isLower.calls (a0:Int) (r:Bool) (w:World) (h:impl_isLower.f a0=some r) :
  Calls Tryz.prog 199 #[.int .u8 a0] w fun e w'=>e = .returned (.bool r)∧Drawn0 w w':=by
 have H:=h
 clear h
 unfold impl_isLower.f at H
 replace H:=gI H
 rcases H with⟨c2,-,-,H⟩|⟨c2,-,-,H⟩
 ·have c2b0:decide (97≤a0)=true:=decide_eq_true c2
  clear c2
  obtain rfl:=Option.some.inj H
  go_enter Tryz.func199,Tryz.ntmps199
  go_wp2
  go_ret
  exact⟨gq4,gq5⟩
 ·have c2b0:decide (97≤a0)=false:=decide_eq_false c2
  clear c2
  obtain rfl:=Option.some.inj H
  go_enter Tryz.func199,Tryz.ntmps199
  go_wp2
  go_ret
  exact⟨gq4,gq5⟩

def impl_isTokenByte.f (a0:Int):Option (Bool):=(impl_isLower.f a0).bind fun t726=>(if t726=true then(some true) else((impl_isUpper.f a0).bind fun t727=>(if t727=true then(some true) else((impl_isDigit.f a0).bind fun t728=>(if t728=true then(some true) else(if a0=96 then(some true) else((strings_IndexByte.f (⟨#[33,35,36,37,38,39,42,43,45,46,94,95,124,126]⟩:ByteArray) a0).bind fun t729=>(some (decide (t729≥0))))))))))
theorem impl_isTokenByte.e0 {p:Prop} (h:p:=by
  obtain rfl:=Option.some.inj H
  go_enter Tryz.func156,Tryz.ntmps156
  go_wp2_with(first|((with_reducible refine gate_callee (f:=199) rfl ?_);refine goesL_ (some 4) rfl rfl Tryz.func199 (by kernel_rfl) rfl #[.int .u8 a0] rfl gq0 ?_;(with_reducible refine(impl_isLower.calls a0 false _ A2.out).mono ?_);rintro e w' ⟨rfl,⟨nd,rfl⟩⟩;refine⟨_,rfl,?_⟩)|(go_at_call 130;(with_reducible refine(impl_isUpper.calls a0 false _ A4.out).mono ?_);rintro e w' ⟨rfl,⟨nd,rfl⟩⟩)|(go_at_call 166;(with_reducible refine(impl_isDigit.calls a0 false _ A6.out).mono ?_);rintro e w' ⟨rfl,⟨nd,rfl⟩⟩)|(go_at_call 134;(with_reducible refine(strings_IndexByte.calls (⟨#[33,35,36,37,38,39,42,43,45,46,94,95,124,126]⟩:ByteArray) a0 t729 _ A9.out).mono ?_);rintro e w' ⟨rfl,⟨nd,rfl⟩⟩)|(go_at_call 166;(with_reducible refine(impl_isDigit.calls a0 true _ A6.out).mono ?_);rintro e w' ⟨rfl,⟨nd,rfl⟩⟩)|(go_at_call 130;(with_reducible refine(impl_isUpper.calls a0 true _ A4.out).mono ?_);rintro e w' ⟨rfl,⟨nd,rfl⟩⟩)|((with_reducible refine gate_callee (f:=199) rfl ?_);refine goesL_ (some 4) rfl rfl Tryz.func199 (by kernel_rfl) rfl #[.int .u8 a0] rfl gq0 ?_;(with_reducible refine(impl_isLower.calls a0 true _ A2.out).mono ?_);rintro e w' ⟨rfl,⟨nd,rfl⟩⟩;refine⟨_,rfl,?_⟩))
  go_ret
  exact⟨gq4,gq5⟩):p:=h
set_option maxHeartbeats 8000000 in
set_option maxRecDepth 100000 in
theorem impl_isTokenByte.calls (a0:Int) (r:Bool) (w:World) (h:impl_isTokenByte.f a0=some r) :
  Calls Tryz.prog 156 #[.int .u8 a0] w fun e w'=>e = .returned (.bool r)∧Drawn0 w w':=by
 have H:=h
 clear h
 unfold impl_isTokenByte.f at H
 replace H:=gD H
 obtain⟨t726,A2,H⟩:=H
 replace H:=gB H
 rcases H with⟨rfl,H⟩|⟨rfl,H⟩
 ·exact impl_isTokenByte.e0
 ·replace H:=gD H
  obtain⟨t727,A4,H⟩:=H
  replace H:=gB H
  rcases H with⟨rfl,H⟩|⟨rfl,H⟩
  ·exact impl_isTokenByte.e0
  ·replace H:=gD H
   obtain⟨t728,A6,H⟩:=H
   replace H:=gB H
   rcases H with⟨rfl,H⟩|⟨rfl,H⟩
   ·exact impl_isTokenByte.e0
   ·replace H:=gI H
    rcases H with⟨c8,-,-,H⟩|⟨c8,-,-,H⟩
    ·have c8b0:(a0==96)=true:=beq_iff_eq.mpr c8
     have c8b1:(a0 != 96)=false:=bne_eq_false_iff_eq.mpr c8
     clear c8
     exact impl_isTokenByte.e0
    ·have c8b0:(a0==96)=false:=beq_eq_false_iff_ne.mpr c8
     have c8b1:(a0 != 96)=true:=bne_iff_ne.mpr c8
     replace H:=gD H
     obtain⟨t729,A9,H⟩:=H
     exact impl_isTokenByte.e0

def impl_all__impl_isTokenByte.l0 : Nat→ByteArray→Int→Option (Bool)
 |0,_,_=>none
 |k+1,x0,x5=>if x5<(x0.size:Int) then(if 0≤x5 then((impl_isTokenByte.f (bt x0 x5)).bind fun t730=>(if t730=true then(impl_all__impl_isTokenByte.l0 k x0 (wrap64 (x5+1))) else(some false))) else(none)) else(some true)
def impl_all__impl_isTokenByte.f (k:Nat) (a0:ByteArray)  : Option (Bool):=impl_all__impl_isTokenByte.l0 k a0 0
set_option maxHeartbeats 8000000 in
set_option maxRecDepth 100000 in
theorem impl_all__impl_isTokenByte.calls (k:Nat) (a0:ByteArray)  (r:Bool) (w:World) (h:impl_all__impl_isTokenByte.f k a0=some r) :
  Calls Tryz.prog 107 #[.string a0,.func (.func 156) #[] #[]] w fun e w'=>e = .returned (.bool r)∧Drawn0 w w':=by
 have H:=h
 clear h
 unfold impl_all__impl_isTokenByte.f at H
 have H':=Aside0.mk H
 clear H
 go_enter Tryz.func107,Tryz.ntmps107
 go_wp2
 go_loopg [5] k (fun kq v5 w'=>∃(x5_1:Int),v5 = .int .i64 x5_1∧Aside0 (impl_all__impl_isTokenByte.l0 kq a0 x5_1=some r)∧Aside0 (kq≤k)∧Drawn0 w w')
 case atStart=>exact⟨(0),gq4,H',⟨Nat.le_refl _⟩,gq5⟩
 case round=>
  clear H'
  obtain⟨x5_1,rfl,HA,HK1,⟨m1,rfl⟩⟩:=hrel
  cases gk with
  |zero=>exact absurd HA.out (by simp[impl_all__impl_isTokenByte.l0])
  |succ k1=>
   have H:=HA.out
   clear HA
   simp only[impl_all__impl_isTokenByte.l0] at H
   replace H:=gI H
   rcases H with⟨-,c3b0,-,H⟩|⟨-,c3b0,-,H⟩
   ·replace H:=gN H
    obtain⟨-,c4b0,-,H⟩:=H
    replace H:=gD H
    obtain⟨t730,A6,H⟩:=H
    replace H:=gB H
    rcases H with⟨rfl,H⟩|⟨rfl,H⟩
    ·have H':=Aside0.mk H
     clear H
     have p5:0≤(x5_1:Int):=of_decide_eq_true gq3
     have q5:x5_1<(a0.size:Int):=of_decide_eq_true gq3
     have hx5:=bt_at a0 x5_1
     replace p5:=eq_true p5
     replace q5:=eq_true q5
     go_wp2_with((go_at_call 156;(with_reducible refine(impl_isTokenByte.calls (bt a0 x5_1) true _ A6.out).mono ?_);rintro e w' ⟨rfl,⟨nd,rfl⟩⟩))
     go_roundg k1
     case measure=>have:=HK1.out;omega
     case rel=>exact⟨(wrap64 (x5_1+1)),gq4,H',⟨by have:=HK1.out;omega⟩,gq5⟩
    ·obtain rfl:=Option.some.inj H
     have p5:0≤(x5_1:Int):=of_decide_eq_true gq3
     have q5:x5_1<(a0.size:Int):=of_decide_eq_true gq3
     have hx5:=bt_at a0 x5_1
     replace p5:=eq_true p5
     replace q5:=eq_true q5
     go_wp2_with((go_at_call 156;(with_reducible refine(impl_isTokenByte.calls (bt a0 x5_1) false _ A6.out).mono ?_);rintro e w' ⟨rfl,⟨nd,rfl⟩⟩))
     go_ret
     exact⟨gq4,gq5⟩
   ·obtain rfl:=Option.some.inj H
    go_wp2
    go_ret
    exact⟨gq4,gq5⟩


def impl_Token.f (k:Nat) (a0:ByteArray):Option (Bool):=(impl_within.f (a0.size:Int) 1 4000).bind fun t731=>(if t731=true then((impl_all__impl_isTokenByte.f k a0).bind fun t732=>(some t732)) else(some false))
theorem impl_Token.e0 {p:Prop} (h:p:=by
  obtain rfl:=Option.some.inj H
  go_enter Tryz.func106,Tryz.ntmps106
  go_wp2_with(first|((with_reducible refine gate_callee (f:=65) rfl ?_);refine goesL_ (some 5) rfl rfl Tryz.func65 (by kernel_rfl) rfl #[.int .i64 (a0.size:Int),.int .i64 1,.int .i64 4000] rfl gq0 ?_;(with_reducible refine(impl_within.calls (a0.size:Int) 1 4000 false _ A2.out).mono ?_);rintro e w' ⟨rfl,⟨nd,rfl⟩⟩;refine⟨_,rfl,?_⟩)|((with_reducible refine gate_callee (f:=65) rfl ?_);refine goesL_ (some 5) rfl rfl Tryz.func65 (by kernel_rfl) rfl #[.int .i64 (a0.size:Int),.int .i64 1,.int .i64 4000] rfl gq0 ?_;(with_reducible refine(impl_within.calls (a0.size:Int) 1 4000 true _ A2.out).mono ?_);rintro e w' ⟨rfl,⟨nd,rfl⟩⟩;refine⟨_,rfl,?_⟩)|(go_at_call 107;(with_reducible refine(impl_all__impl_isTokenByte.calls k a0  t732 _ A4.out).mono ?_);rintro e w' ⟨rfl,⟨nd,rfl⟩⟩))
  go_ret
  exact⟨gq4,gq5⟩):p:=h
set_option maxHeartbeats 8000000 in
set_option maxRecDepth 100000 in
theorem impl_Token.calls (k:Nat) (a0:ByteArray) (r:Bool) (w:World) (h:impl_Token.f k a0=some r) :
  Calls Tryz.prog 106 #[.string a0] w fun e w'=>e = .returned (.bool r)∧Drawn0 w w':=by
 have H:=h
 clear h
 unfold impl_Token.f at H
 replace H:=gD H
 obtain⟨t731,A2,H⟩:=H
 replace H:=gB H
 rcases H with⟨rfl,H⟩|⟨rfl,H⟩
 ·replace H:=gD H
  obtain⟨t732,A4,H⟩:=H
  exact impl_Token.e0
 ·exact impl_Token.e0

def impl_isPlain.f (a0:Int):Option (Bool):=if a0=9 then(some true) else(if a0≥32 then(some (a0 != 127)) else(some false))
set_option maxHeartbeats 8000000 in
set_option maxRecDepth 100000 in
theorem impl_isPlain.calls (a0:Int) (r:Bool) (w:World) (h:impl_isPlain.f a0=some r) :
  Calls Tryz.prog 108 #[.int .u8 a0] w fun e w'=>e = .returned (.bool r)∧Drawn0 w w':=by
 have H:=h
 clear h
 unfold impl_isPlain.f at H
 replace H:=gI H
 rcases H with⟨c2,-,-,H⟩|⟨c2,-,-,H⟩
 ·have c2b0:(a0==9)=true:=beq_iff_eq.mpr c2
  have c2b1:(a0 != 9)=false:=bne_eq_false_iff_eq.mpr c2
  clear c2
  obtain rfl:=Option.some.inj H
  go_enter Tryz.func108,Tryz.ntmps108
  go_wp2
  go_ret
  exact⟨gq4,gq5⟩
 ·have c2b0:(a0==9)=false:=beq_eq_false_iff_ne.mpr c2
  have c2b1:(a0 != 9)=true:=bne_iff_ne.mpr c2
  replace H:=gI H
  rcases H with⟨c3,-,-,H⟩|⟨c3,-,-,H⟩
  ·have c3b0:decide (32≤a0)=true:=decide_eq_true c3
   clear c3
   obtain rfl:=Option.some.inj H
   go_enter Tryz.func108,Tryz.ntmps108
   go_wp2
   go_ret
   exact⟨gq4,gq5⟩
  ·have c3b0:decide (32≤a0)=false:=decide_eq_false c3
   clear c3
   obtain rfl:=Option.some.inj H
   go_enter Tryz.func108,Tryz.ntmps108
   go_wp2
   go_ret
   exact⟨gq4,gq5⟩

def impl_all__impl_isPlain.l0 : Nat→ByteArray→Int→Option (Bool)
 |0,_,_=>none
 |k+1,x0,x5=>if x5<(x0.size:Int) then(if 0≤x5 then((impl_isPlain.f (bt x0 x5)).bind fun t735=>(if t735=true then(impl_all__impl_isPlain.l0 k x0 (wrap64 (x5+1))) else(some false))) else(none)) else(some true)
def impl_all__impl_isPlain.f (k:Nat) (a0:ByteArray)  : Option (Bool):=impl_all__impl_isPlain.l0 k a0 0
set_option maxHeartbeats 8000000 in
set_option maxRecDepth 100000 in
theorem impl_all__impl_isPlain.calls (k:Nat) (a0:ByteArray)  (r:Bool) (w:World) (h:impl_all__impl_isPlain.f k a0=some r) :
  Calls Tryz.prog 107 #[.string a0,.func (.func 108) #[] #[]] w fun e w'=>e = .returned (.bool r)∧Drawn0 w w':=by
 have H:=h
 clear h
 unfold impl_all__impl_isPlain.f at H
 have H':=Aside0.mk H
 clear H
 go_enter Tryz.func107,Tryz.ntmps107
 go_wp2
 go_loopg [5] k (fun kq v5 w'=>∃(x5_1:Int),v5 = .int .i64 x5_1∧Aside0 (impl_all__impl_isPlain.l0 kq a0 x5_1=some r)∧Aside0 (kq≤k)∧Drawn0 w w')
 case atStart=>exact⟨(0),gq4,H',⟨Nat.le_refl _⟩,gq5⟩
 case round=>
  clear H'
  obtain⟨x5_1,rfl,HA,HK1,⟨m1,rfl⟩⟩:=hrel
  cases gk with
  |zero=>exact absurd HA.out (by simp[impl_all__impl_isPlain.l0])
  |succ k1=>
   have H:=HA.out
   clear HA
   simp only[impl_all__impl_isPlain.l0] at H
   replace H:=gI H
   rcases H with⟨-,c3b0,-,H⟩|⟨-,c3b0,-,H⟩
   ·replace H:=gN H
    obtain⟨-,c4b0,-,H⟩:=H
    replace H:=gD H
    obtain⟨t735,A6,H⟩:=H
    replace H:=gB H
    rcases H with⟨rfl,H⟩|⟨rfl,H⟩
    ·have H':=Aside0.mk H
     clear H
     have p5:0≤(x5_1:Int):=of_decide_eq_true gq3
     have q5:x5_1<(a0.size:Int):=of_decide_eq_true gq3
     have hx5:=bt_at a0 x5_1
     replace p5:=eq_true p5
     replace q5:=eq_true q5
     go_wp2_with((go_at_call 108;(with_reducible refine(impl_isPlain.calls (bt a0 x5_1) true _ A6.out).mono ?_);rintro e w' ⟨rfl,⟨nd,rfl⟩⟩))
     go_roundg k1
     case measure=>have:=HK1.out;omega
     case rel=>exact⟨(wrap64 (x5_1+1)),gq4,H',⟨by have:=HK1.out;omega⟩,gq5⟩
    ·obtain rfl:=Option.some.inj H
     have p5:0≤(x5_1:Int):=of_decide_eq_true gq3
     have q5:x5_1<(a0.size:Int):=of_decide_eq_true gq3
     have hx5:=bt_at a0 x5_1
     replace p5:=eq_true p5
     replace q5:=eq_true q5
     go_wp2_with((go_at_call 108;(with_reducible refine(impl_isPlain.calls (bt a0 x5_1) false _ A6.out).mono ?_);rintro e w' ⟨rfl,⟨nd,rfl⟩⟩))
     go_ret
     exact⟨gq4,gq5⟩
   ·obtain rfl:=Option.some.inj H
    go_wp2
    go_ret
    exact⟨gq4,gq5⟩

def impl_isSpace.f (a0:Int):Option (Bool):=if a0=32 then(some true) else(some (a0==9))
set_option maxHeartbeats 8000000 in
set_option maxRecDepth 100000 in
theorem impl_isSpace.calls (a0:Int) (r:Bool) (w:World) (h:impl_isSpace.f a0=some r) :
  Calls Tryz.prog 129 #[.int .u8 a0] w fun e w'=>e = .returned (.bool r)∧Drawn0 w w':=by
 have H:=h
 clear h
 unfold impl_isSpace.f at H
 replace H:=gI H
 rcases H with⟨c2,-,-,H⟩|⟨c2,-,-,H⟩
 ·have c2b0:(a0==32)=true:=beq_iff_eq.mpr c2
  have c2b1:(a0 != 32)=false:=bne_eq_false_iff_eq.mpr c2
  clear c2
  obtain rfl:=Option.some.inj H
  go_enter Tryz.func129,Tryz.ntmps129
  go_wp2
  go_ret
  exact⟨gq4,gq5⟩
 ·have c2b0:(a0==32)=false:=beq_eq_false_iff_ne.mpr c2
  have c2b1:(a0 != 32)=true:=bne_iff_ne.mpr c2
  obtain rfl:=Option.some.inj H
  go_enter Tryz.func129,Tryz.ntmps129
  go_wp2
  go_ret
  exact⟨gq4,gq5⟩


mutual
def impl_Trim.j1 : Nat→ByteArray→Option (ByteArray)
 |0,_=>none
 |k+1,x0=>impl_Trim.l1 k x0
def impl_Trim.l1 : Nat→ByteArray→Option (ByteArray)
 |0,_=>none
 |k+1,x0=>if x0.toList=([]:List UInt8) then(some x0) else(if 0≤(wrap64 ((x0.size:Int)-1)) then(if(wrap64 ((x0.size:Int)-1))<(x0.size:Int) then((impl_isSpace.f (bt x0 (wrap64 ((x0.size:Int)-1)))).bind fun t740=>(if t740=true then(if(wrap64 ((x0.size:Int)-1))≤(x0.size:Int) then(impl_Trim.l1 k (x0.extract 0 ((wrap64 ((x0.size:Int)-1)):Int).toNat)) else(none)) else(some x0))) else(none)) else(none))
def impl_Trim.l0 : Nat→ByteArray→Option (ByteArray)
 |0,_=>none
 |k+1,x0=>if x0.toList=([]:List UInt8) then(impl_Trim.j1 k x0) else(if 0<(x0.size:Int) then((impl_isSpace.f (bt x0 0)).bind fun t739=>(if t739=true then(if 1≤(x0.size:Int) then(impl_Trim.l0 k (x0.extract 1 x0.size)) else(none)) else(impl_Trim.j1 k x0))) else(none))
end
def impl_Trim.f (k:Nat) (a0:ByteArray):Option (ByteArray):=impl_Trim.l0 k a0
set_option maxHeartbeats 8000000 in
set_option maxRecDepth 100000 in
theorem impl_Trim.calls (k:Nat) (a0:ByteArray) (r:ByteArray) (w:World) (h:impl_Trim.f k a0=some r) :
  Calls Tryz.prog 87 #[.string a0] w fun e w'=>e = .returned (.string r)∧Drawn0 w w':=by
 have H:=h
 clear h
 unfold impl_Trim.f at H
 have HC2:=Aside0.mk H
 clear H
 go_enter Tryz.func87,Tryz.ntmps87
 go_upto_block 0 with(fail)
 go_cut [0] (fun v0 wc=>∃(kq:Nat) (x0_1:ByteArray),v0 = .string x0_1∧Aside0 (impl_Trim.j1 kq x0_1=some r)∧Aside0 (kq≤k)∧Drawn0 w wc)
 case first=>
  have H:=HC2.out
  clear HC2
  have H':=Aside0.mk H
  clear H
  go_wp2
  go_loopg [0] k (fun kq v0 w'=>∃(x0_1:ByteArray),v0 = .string x0_1∧Aside0 (impl_Trim.l0 kq x0_1=some r)∧Aside0 (kq≤k)∧Drawn0 w w')
  case atStart=>exact⟨(a0),gq4,H',⟨Nat.le_refl _⟩,gq5⟩
  case round=>
   clear H'
   obtain⟨x0_1,rfl,HA,HK1,⟨m1,rfl⟩⟩:=hrel
   cases gk with
   |zero=>exact absurd HA.out (by simp[impl_Trim.l0])
   |succ k1=>
    have H:=HA.out
    clear HA
    simp only[impl_Trim.l0] at H
    replace H:=gI H
    rcases H with⟨c3,-,-,H⟩|⟨c3,-,-,H⟩
    ·have c3b0:(x0_1.toList==([]:List UInt8))=true:=beq_iff_eq.mpr c3
     have c3b4:x0_1.toList.isEmpty=true:=List.isEmpty_iff.mpr c3
     have c3b1:(x0_1.toList != ([]:List UInt8))=false:=bne_eq_false_iff_eq.mpr c3
     clear c3
     (first|rw[c3b0]|rw[c3b4]|(simp only[i64_w,i32_w];rw[c3b0])|skip)
     have H':=Aside0.mk H
     clear H
     go_wp2
     go_meet
     case rel=>exact⟨_,(x0_1),gq4,H',⟨gq40⟩,gq5⟩
    ·have c3b0:(x0_1.toList==([]:List UInt8))=false:=beq_eq_false_iff_ne.mpr c3
     have c3b4:x0_1.toList.isEmpty=false:=Bool.eq_false_iff.mpr (fun h_=>c3 (List.isEmpty_iff.mp h_))
     have c3b1:(x0_1.toList != ([]:List UInt8))=true:=bne_iff_ne.mpr c3
     (first|rw[c3b0]|rw[c3b4]|(simp only[i64_w,i32_w];rw[c3b0])|skip)
     replace H:=gN H
     obtain⟨c4,c4b0,-,H⟩:=H
     have c4b1:decide (0<x0_1.size)=true:=decide_eq_true (by omega)
     clear c4
     replace H:=gD H
     obtain⟨t739,A6,H⟩:=H
     replace H:=gB H
     rcases H with⟨rfl,H⟩|⟨rfl,H⟩
     ·replace H:=gN H
      obtain⟨-,c8b1,c8b0,H⟩:=H
      have H':=Aside0.mk H
      clear H
      have p5:0≤(0:Int):=(by omega)
      have q5:0<x0_1.size:=(by have:(0:Int)<(x0_1.size:Int):=of_decide_eq_true gq3;omega)
      have hx5:∀ h:0<x0_1.size,((x0_1[0]'h).toNat:Int)=bt x0_1 0:=bt_at x0_1 0
      clear p5
      have qi5:(0<(x0_1.size:Int))=True:=eq_true (of_decide_eq_true gq3)
      replace q5:=eq_true q5
      go_wp2_with((go_at_call 129;(with_reducible refine(impl_isSpace.calls (bt x0_1 0) true _ A6.out).mono ?_);rintro e w' ⟨rfl,⟨nd,rfl⟩⟩))
      go_roundg k1
      case measure=>have:=HK1.out;omega
      case rel=>exact⟨(x0_1.extract 1 x0_1.size),gq4,H',⟨by have:=HK1.out;omega⟩,gq5⟩
     ·have H':=Aside0.mk H
      clear H
      have p5:0≤(0:Int):=(by omega)
      have q5:0<x0_1.size:=(by have:(0:Int)<(x0_1.size:Int):=of_decide_eq_true gq3;omega)
      have hx5:∀ h:0<x0_1.size,((x0_1[0]'h).toNat:Int)=bt x0_1 0:=bt_at x0_1 0
      clear p5
      have qi5:(0<(x0_1.size:Int))=True:=eq_true (of_decide_eq_true gq3)
      replace q5:=eq_true q5
      go_wp2_with((go_at_call 129;(with_reducible refine(impl_isSpace.calls (bt x0_1 0) false _ A6.out).mono ?_);rintro e w' ⟨rfl,⟨nd,rfl⟩⟩))
      go_meet
      case rel=>exact⟨_,(x0_1),gq4,H',⟨gq40⟩,gq5⟩
 case rest=>
  clear HC2
  obtain⟨kq,x0_1,rfl,HA,HJ1,⟨mc1,rfl⟩⟩:=hcut
  cases kq with
  |zero=>exact absurd HA.out (by simp[impl_Trim.j1])
  |succ kj1=>
   have H:=HA.out
   clear HA
   simp only[impl_Trim.j1] at H
   have H':=Aside0.mk H
   clear H
   go_wp2
   go_loopg [0] kj1 (fun kq v0 w'=>∃(x0_2:ByteArray),v0 = .string x0_2∧Aside0 (impl_Trim.l1 kq x0_2=some r)∧Aside0 (kq≤kj1)∧Drawn0 w w')
   case atStart=>exact⟨(x0_1),gq4,H',⟨Nat.le_refl _⟩,gq5⟩
   case round=>
    clear H'
    obtain⟨x0_2,rfl,HA,HK2,⟨m2,rfl⟩⟩:=hrel
    cases gk with
    |zero=>exact absurd HA.out (by simp[impl_Trim.l1])
    |succ k2=>
     have H:=HA.out
     clear HA
     simp only[impl_Trim.l1] at H
     replace H:=gI H
     rcases H with⟨c9,-,-,H⟩|⟨c9,-,-,H⟩
     ·have c9b0:(x0_2.toList==([]:List UInt8))=true:=beq_iff_eq.mpr c9
      have c9b1:(x0_2.toList != ([]:List UInt8))=false:=bne_eq_false_iff_eq.mpr c9
      clear c9
      obtain rfl:=Option.some.inj H
      go_wp2
      go_ret
      exact⟨gq4,gq5⟩
     ·have c9b0:(x0_2.toList==([]:List UInt8))=false:=beq_eq_false_iff_ne.mpr c9
      have c9b1:(x0_2.toList != ([]:List UInt8))=true:=bne_iff_ne.mpr c9
      obtain⟨ji10,hji10⟩:∃ j_:Int,(wrap64 ((x0_2.size:Int)-1))=j_:=⟨_,rfl⟩
      replace H:(if 0≤(ji10) then(if(ji10)<(x0_2.size:Int) then((impl_isSpace.f (bt x0_2 (ji10))).bind fun t740=>(if t740=true then(if(ji10)≤(x0_2.size:Int) then(impl_Trim.l1 k2 (x0_2.extract 0 ((ji10):Int).toNat)) else(none)) else(some x0_2))) else(none)) else(none))=some r:=by first|(rw[hji10] at H;exact H)|(simp only[hji10] at H ⊢;exact H)
      have hji10w:(IntKind.i64.wrap ((x0_2.size:Int)-1))=ji10:=(i64_w _).trans hji10
      replace H:=gI H
      rcases H with⟨-,c11b0,-,H⟩|⟨c11,-,-,H⟩
      ·replace H:=gN H
       obtain⟨-,c12b0,-,H⟩:=H
       replace H:=gD H
       obtain⟨t740,A14,H⟩:=H
       replace H:=gB H
       rcases H with⟨rfl,H⟩|⟨rfl,H⟩
       ·have c16b0:=eq_true (of_decide_eq_true gq3:0≤(ji10))
        replace H:=gN H
        obtain⟨-,c17b1,c17b0,H⟩:=H
        have H':=Aside0.mk H
        clear H
        have p13:0≤((ji10):Int):=of_decide_eq_true gq3
        have q13:(ji10)<(x0_2.size:Int):=of_decide_eq_true gq3
        have hx13:=bt_at x0_2 (ji10)
        replace p13:=eq_true p13
        replace q13:=eq_true q13
        go_wp2_with((go_at_call 129;(with_reducible refine(impl_isSpace.calls (bt x0_2 (ji10)) true _ A14.out).mono ?_);rintro e w' ⟨rfl,⟨nd,rfl⟩⟩))
        go_roundg k2
        case measure=>have:=HJ1.out;have:=HK2.out;omega
        case rel=>exact⟨(x0_2.extract 0 ((ji10):Int).toNat),(by first|rfl|(simp;done)|(simp only[← hji10] <;> (first|rfl|simp))|(simp[*];done)),H',⟨gq44⟩,gq5⟩
       ·obtain rfl:=Option.some.inj H
        have p13:0≤((ji10):Int):=of_decide_eq_true gq3
        have q13:(ji10)<(x0_2.size:Int):=of_decide_eq_true gq3
        have hx13:=bt_at x0_2 (ji10)
        replace p13:=eq_true p13
        replace q13:=eq_true q13
        go_wp2_with((go_at_call 129;(with_reducible refine(impl_isSpace.calls (bt x0_2 (ji10)) false _ A14.out).mono ?_);rintro e w' ⟨rfl,⟨nd,rfl⟩⟩))
        go_ret
        exact⟨by first|rfl|(simp;done)|(simp only[← hji10] <;> (first|rfl|simp))|(simp[*];done),gq5⟩
      ·exact absurd H (by simp)

def impl_SameFold.f (a0:ByteArray) (a1:ByteArray):Option (Bool):=(impl_Fold.f a0).bind fun t767=>((impl_Fold.f a1).bind fun t768=>(some (t767.toList==t768.toList)))
set_option maxHeartbeats 8000000 in
set_option maxRecDepth 100000 in
theorem impl_SameFold.calls (a0:ByteArray) (a1:ByteArray) (r:Bool) (w:World) (h:impl_SameFold.f a0 a1=some r) :
  Calls Tryz.prog 131 #[.string a0,.string a1] w fun e w'=>e = .returned (.bool r)∧Below w.heap.size w w':=by
 have HB:=Aside0.mk (Below.refl w.heap.size w)
 have H:=h
 clear h
 unfold impl_SameFold.f at H
 replace H:=gD H
 obtain⟨t767,A3,H⟩:=H
 replace H:=gD H
 obtain⟨t768,A4,H⟩:=H
 obtain rfl:=Option.some.inj H
 go_enter Tryz.func131,Tryz.ntmps131
 go_wp2_with(first|((with_reducible refine gate_callee (f:=89) rfl ?_);refine goesL_ (some 6) rfl rfl Tryz.func89 (by kernel_rfl) rfl #[.string a0] rfl gq0 ?_;(with_reducible refine(impl_Fold.calls a0 t767 _ A3.out).mono ?_);rintro e w5 ⟨rfl,hb⟩;refine⟨_,rfl,?_⟩;replace HB:=beA hb;(try clear hb);(try clear hb2);(try clear hk);(try clear hi))|((with_reducible refine gate_callee (f:=89) rfl ?_);refine goesL_ (some 8) rfl rfl Tryz.func89 (by kernel_rfl) rfl #[.string a1] rfl gq0 ?_;(with_reducible refine(impl_Fold.calls a1 t768 _ A4.out).mono ?_);rintro e w6 ⟨rfl,hb⟩;refine⟨_,rfl,?_⟩;replace HB:=beA hb;(try clear hb);(try clear hb2);(try clear hk);(try clear hi)))
 go_ret
 exact⟨gq2,gBe⟩




def impl_isTime.f (a0:Int):Option (Bool):=(impl_within.f a0 0 253402300799).bind fun t713=>(some t713)
set_option maxHeartbeats 8000000 in
set_option maxRecDepth 100000 in
theorem impl_isTime.calls (a0:Int) (r:Bool) (w:World) (h:impl_isTime.f a0=some r) :
  Calls Tryz.prog 37 #[.int .i64 a0] w fun e w'=>e = .returned (.bool r)∧Drawn0 w w':=by
 have H:=h
 clear h
 unfold impl_isTime.f at H
 replace H:=gD H
 obtain⟨t713,A2,H⟩:=H
 obtain rfl:=Option.some.inj H
 go_enter Tryz.func37,Tryz.ntmps37
 go_wp2_with(((with_reducible refine gate_callee (f:=65) rfl ?_);refine goesL_ (some 4) rfl rfl Tryz.func65 (by kernel_rfl) rfl #[.int .i64 a0,.int .i64 0,.int .i64 253402300799] rfl gq0 ?_;(with_reducible refine(impl_within.calls a0 0 253402300799 t713 _ A2.out).mono ?_);rintro e w' ⟨rfl,⟨nd,rfl⟩⟩;refine⟨_,rfl,?_⟩))
 go_ret
 exact⟨gq4,gq5⟩


def impl_FieldOk.f (k:Nat) (a0_0:ByteArray) (a0_1:ByteArray):Option (Bool):=(impl_Token.f k a0_0).bind fun t742=>(if t742=true then(if(a0_0.size:Int)≤40 then(if(a0_1.size:Int)≤190 then((impl_all__impl_isPlain.f k a0_1).bind fun t743=>(if t743=true then((impl_Trim.f k a0_1).bind fun t744=>(some (t744.toList==a0_1.toList))) else(some false))) else(some false)) else(some false)) else(some false))
def impl_FieldOk.T1 : Bool×List (List Nat×List Nat):=(true,[([],[]),([0],[0]),([1],[1]),([2,2],[2]),([3],[3]),([4,3],[3,4]),([5,3],[3,5]),([6,3],[3,6]),([3,7],[3,7]),([8,3],[8]),([9],[9]),([10,9],[9,10]),([11,9],[9,11]),([12,9],[9,12]),([9,13],[9,13]),([14,9],[14]),([15],[15]),([16,15],[15,16]),([17,15,15],[15,17]),([15,18],[15,18]),([19,18],[19]),([20],[20]),([21,20],[20,21]),([22,20,20],[20,22]),([20],[20]),([24,20],[20,24]),([23,25,20],[20,23,25]),([20,26],[20,26]),([27,23,0,1,2,3,4,5,6,7,8,9,10,11,12,13,14,15,16,17,18,19,20,21,22,23,24,25,26,27],[27])])
def impl_FieldOk.B1 : List Nat:=[0,1,3,7,15,31,63,127,255,511,1023,2047,4095,8191,16383,32767,65535,131071,262143,524287,1048575,2097151,4194303,8388607,2097151,18874367,67108863,134217727,268435455]
theorem impl_FieldOk.tab1 : rtab .any (opsOf Tryz.f66 1)=impl_FieldOk.T1:=by kernel_rfl
theorem impl_FieldOk.bits1 : waitsOk impl_FieldOk.T1.2 impl_FieldOk.B1=true:=by kernel_rfl
theorem impl_FieldOk.e0 {p:Prop} (h:p:=by
  obtain rfl:=Option.some.inj H
  go_enter Tryz.func66,Tryz.ntmps66
  try go_wp2_with(((with_reducible refine gate_dst (N:=1) rfl ?_);refine boxG #[.string a0_0,.string a0_1] 72 ?_;intro gb741 hg wq0a hbox hb;have BK741:=Aside0.mk (hbox);have GW741:=geA hg;have GE741:=geA hg;replace HB:=beA hb;clear hb hbox hg))
  replace BK741:=Aside0.mk (blk_drew BK741.out)
  replace HB:=Aside0.mk (below_drew1 HB.out)
  refine startF (n:=29) (S:=fun w'=>w'.cell? ⟨gb741,0,none⟩=some (.string a0_0)∧w'.cell? ⟨gb741,1,none⟩=some (.string a0_1)) (ds:=[]) (czA2 BK741) (fun hHeld=>?_);refine with_tabW impl_FieldOk.tab1 impl_FieldOk.bits1 (fun HT_ HW_=>?_)
  generalize wq0a.drew=wq1a at BK741 HB hHeld ⊢
  repeat(first|refine takeF ?_ (hy:=Or.inl ⟨by rfl,gq34⟩)|refine pureF ?_|(refine oneF (fun K hK=>?_);refine goes_ Tryz.func106 (by kernel_rfl) rfl #[.string a0_0] (by rfl) rfl rfl gq0 ?_;(with_reducible refine(impl_Token.calls k a0_0 false _ A2.out).mono ?_);rintro e w' ⟨rfl,⟨nd,rfl⟩⟩;refine⟨_,rfl,?_⟩;refine hK.out _ _ (czA2 BK741) (fun hHeld=>?_);clear hK K;refine normF ?_)|(refine oneF (fun K hK=>?_);refine goes_ Tryz.func106 (by kernel_rfl) rfl #[.string a0_0] (by rfl) rfl rfl gq0 ?_;(with_reducible refine(impl_Token.calls k a0_0 true _ A2.out).mono ?_);rintro e w' ⟨rfl,⟨nd,rfl⟩⟩;refine⟨_,rfl,?_⟩;refine hK.out _ _ (czA2 BK741) (fun hHeld=>?_);clear hK K;refine normF ?_)|(refine oneF (fun K hK=>?_);refine goes_ Tryz.func107 (by kernel_rfl) rfl #[.string a0_1,.func (.func 108) #[] #[]] (by rfl) rfl rfl gq0 ?_;(with_reducible refine(impl_all__impl_isPlain.calls k a0_1  false _ A6.out).mono ?_);rintro e w' ⟨rfl,⟨nd,rfl⟩⟩;refine⟨_,rfl,?_⟩;refine hK.out _ _ (czA2 BK741) (fun hHeld=>?_);clear hK K;refine normF ?_))
  refine done_ (done_of HT_.out (by kernel_rfl)) ?_
  try go_wp2
  go_ret
  exact⟨gq2,gBe⟩):p:=h
set_option maxHeartbeats 8000000 in
set_option maxRecDepth 100000 in
theorem impl_FieldOk.calls (k:Nat) (a0_0:ByteArray) (a0_1:ByteArray) (r:Bool) (w:World) (h:impl_FieldOk.f k a0_0 a0_1=some r) :
  Calls Tryz.prog 66 #[.agg #[.string a0_0,.string a0_1]] w fun e w'=>e = .returned (.bool r)∧Below w.heap.size w w':=by
 have hu72:=Tryz.underlying72
 have HB:=Aside0.mk (Below.refl w.heap.size w)
 have H:=h
 clear h
 unfold impl_FieldOk.f at H
 replace H:=gD H
 obtain⟨t742,A2,H⟩:=H
 replace H:=gB H
 rcases H with⟨rfl,H⟩|⟨rfl,H⟩
 ·replace H:=gI H
  rcases H with⟨c4,c4b0,-,H⟩|⟨c4,c4b0,-,H⟩
  ·have c4b1:decide (a0_0.size≤40)=true:=decide_eq_true (by omega)
   clear c4
   replace H:=gI H
   rcases H with⟨c5,c5b0,-,H⟩|⟨c5,c5b0,-,H⟩
   ·have c5b1:decide (a0_1.size≤190)=true:=decide_eq_true (by omega)
    clear c5
    replace H:=gD H
    obtain⟨t743,A6,H⟩:=H
    replace H:=gB H
    rcases H with⟨rfl,H⟩|⟨rfl,H⟩
    ·replace H:=gD H
     obtain⟨t744,A8,H⟩:=H
     obtain rfl:=Option.some.inj H
     go_enter Tryz.func66,Tryz.ntmps66
     try go_wp2_with(((with_reducible refine gate_dst (N:=1) rfl ?_);refine boxG #[.string a0_0,.string a0_1] 72 ?_;intro gb741 hg wq0a hbox hb;have BK741:=Aside0.mk (hbox);have GW741:=geA hg;have GE741:=geA hg;replace HB:=beA hb;clear hb hbox hg))
     replace BK741:=Aside0.mk (blk_drew BK741.out)
     replace HB:=Aside0.mk (below_drew1 HB.out)
     refine startF (n:=29) (S:=fun w'=>w'.cell? ⟨gb741,0,none⟩=some (.string a0_0)∧w'.cell? ⟨gb741,1,none⟩=some (.string a0_1)) (ds:=[]) (czA2 BK741) (fun hHeld=>?_);refine with_tabW impl_FieldOk.tab1 impl_FieldOk.bits1 (fun HT_ HW_=>?_)
     generalize wq0a.drew=wq1a at BK741 HB hHeld ⊢
     repeat(first|refine takeF ?_ (hy:=Or.inl ⟨by rfl,gq34⟩)|refine pureF ?_)
     refine oneF (fun K hK=>?_)
     refine goes_ Tryz.func106 (by kernel_rfl) rfl #[.string a0_0] (by rfl) rfl rfl gq0 ?_
     with_reducible refine(impl_Token.calls k a0_0 true _ A2.out).mono ?_
     rintro e w' ⟨rfl,⟨nd,rfl⟩⟩
     refine⟨_,rfl,?_⟩
     refine hK.out _ _ (czA2 BK741) (fun hHeld=>?_)
     clear hK K
     refine normF ?_
     repeat(first|refine takeF ?_ (hy:=Or.inl ⟨by rfl,gq34⟩)|refine pureF ?_)
     refine oneF (fun K hK=>?_)
     refine goes_ Tryz.func107 (by kernel_rfl) rfl #[.string a0_1,.func (.func 108) #[] #[]] (by rfl) rfl rfl gq0 ?_
     with_reducible refine(impl_all__impl_isPlain.calls k a0_1  true _ A6.out).mono ?_
     rintro e w' ⟨rfl,⟨nd,rfl⟩⟩
     refine⟨_,rfl,?_⟩
     refine hK.out _ _ (czA2 BK741) (fun hHeld=>?_)
     clear hK K
     refine normF ?_
     repeat(first|refine takeF ?_ (hy:=Or.inl ⟨by rfl,gq34⟩)|refine pureF ?_)
     refine pureT 24 (some 27) ?_
     refine takeT_ 25 (some 28) (hy:=Or.inl ⟨by rfl,gq34⟩) ?_
     refine oneF (fun K hK=>?_)
     refine goes_ Tryz.func87 (by kernel_rfl) rfl #[.string a0_1] (by rfl) rfl rfl gq0 ?_
     with_reducible refine(impl_Trim.calls k a0_1 t744 _ A8.out).mono ?_
     rintro e w' ⟨rfl,⟨nd,rfl⟩⟩
     refine⟨_,rfl,?_⟩
     refine hK.out _ _ (czA2 BK741) (fun hHeld=>?_)
     clear hK K
     refine normF ?_
     repeat(first|refine pureF ?_)
     refine done_ (done_of HT_.out (by kernel_rfl)) ?_
     try go_wp2
     go_ret
     exact⟨gq2,gBe⟩
    ·exact impl_FieldOk.e0
   ·have c5b1:decide (a0_1.size≤190)=false:=decide_eq_false (by omega)
    clear c5
    exact impl_FieldOk.e0
  ·have c4b1:decide (a0_0.size≤40)=false:=decide_eq_false (by omega)
   clear c4
   exact impl_FieldOk.e0
 ·exact impl_FieldOk.e0


def impl_FieldsOk.l0 : Nat→List (S72)→Int→Int→Option (Bool)
 |0,_,_,_=>none
 |k+1,x8,x9,x10=>if x10<x9 then(if 0≤x10 then(if x10<(x8.length:Int) then((impl_FieldOk.f k ((rd_T72 x8 x10).f0) ((rd_T72 x8 x10).f1)).bind fun t747=>(if t747=true then(impl_FieldsOk.l0 k x8 x9 (wrap64 (x10+1))) else(some false))) else(none)) else(none)) else(some true)
def impl_FieldsOk.f (k:Nat) (l0:List (S72)):Option (Bool):=if(l0.length:Int)>20 then(some false) else(impl_FieldsOk.l0 k l0 (l0.length:Int) 0)
set_option maxHeartbeats 8000000 in
set_option maxRecDepth 100000 in
theorem impl_FieldsOk.calls (k:Nat) (A0:Option Addr) (c0:Nat) (l0:List (S72)) (r:Bool) (w:World) (hr0:Kd.C k72 w A0 l0.length l0) (hc0:l0.length≤c0) (h:impl_FieldsOk.f k l0=some r) :
  Calls Tryz.prog 38 #[.slice A0 l0.length c0] w fun e w'=>e = .returned (.bool r)∧Below w.heap.size w w':=by
 have hu72:=Tryz.underlying72
 have HR0:=Aside0.mk hr0
 have HC0:=Aside0.mk hc0
 clear hr0 hc0
 have HB:=Aside0.mk (Below.refl w.heap.size w)
 have H:=h
 clear h
 unfold impl_FieldsOk.f at H
 replace H:=gI H
 rcases H with⟨c2,-,-,H⟩|⟨c2,-,-,H⟩
 ·have c2b0:decide (20<(l0.length:Int))=true:=decide_eq_true c2
  have c2b1:decide (20<l0.length)=true:=decide_eq_true (by omega)
  clear c2
  obtain rfl:=Option.some.inj H
  go_enter Tryz.func38,Tryz.ntmps38
  go_wp2
  go_ret
  exact⟨gq2,gBe⟩
 ·have c2b0:decide (20<(l0.length:Int))=false:=decide_eq_false c2
  have c2b1:decide (20<l0.length)=false:=decide_eq_false (by omega)
  clear c2
  have H':=Aside0.mk H
  clear H
  go_enter Tryz.func38,Tryz.ntmps38
  go_wp2
  go_loopg [10] k (fun kq v10 w'=>∃(x10_1:Int),v10 = .int .i64 x10_1∧Aside0 (impl_FieldsOk.l0 kq l0 (l0.length:Int) x10_1=some r)∧Aside0 (kq≤k)∧Aside0 (Below w.heap.size w w'))
  case atStart=>exact⟨(0),gq4,H',⟨Nat.le_refl _⟩,⟨gBe⟩⟩
  case round=>
   clear H'
   try clear c2
   try clear c2b0
   try clear c2b1
   obtain⟨x10_1,rfl,HA,HK1,HB⟩:=hrel
   cases gk with
   |zero=>exact absurd HA.out (by simp[impl_FieldsOk.l0])
   |succ k1=>
    have H:=HA.out
    clear HA
    simp only[impl_FieldsOk.l0] at H
    replace H:=gI H
    rcases H with⟨-,c3b0,-,H⟩|⟨-,c3b0,-,H⟩
    ·replace H:=gN H
     obtain⟨-,c4b0,-,H⟩:=H
     replace H:=gN H
     obtain⟨-,c5b0,-,H⟩:=H
     replace H:=gD H
     obtain⟨t747,A6,H⟩:=H
     replace H:=gB H
     rcases H with⟨rfl,H⟩|⟨rfl,H⟩
     ·have H':=Aside0.mk H
      clear H
      have p745:0≤(x10_1:Int):=of_decide_eq_true gq3
      have q745:x10_1<(l0.length:Int):=of_decide_eq_true gq3
      obtain⟨ad745,e745,hx745_0,hx745_1⟩:=at_T72 HR0.out x10_1 p745 q745
      cases e745
      replace hx745_0:=(HB.out.cell (World.block_lt_of_cell? w _ hx745_0)).trans hx745_0
      replace hx745_1:=(HB.out.cell (World.block_lt_of_cell? w _ hx745_1)).trans hx745_1
      replace p745:=eq_true p745
      replace q745:=eq_true q745
      go_wp2_with(first|((with_reducible refine gate_dst (N:=4) rfl ?_);refine boxA #[.string (⟨#[]⟩:ByteArray),.string (⟨#[]⟩:ByteArray)] 72 ?_;intro gb746 hg w8 hbox hb;have BK746:=Aside0.mk (hbox);have GW746:=geA hg;have GE746:=geA hg;replace HB:=beA hb;clear hb hbox hg;obtain⟨_,_⟩:=czA2 BK746;obtain⟨_,_⟩:=cfA2 BK746)|((with_reducible refine gate_callee (f:=66) rfl ?_);refine goesL_ (some 15) rfl rfl Tryz.func66 (by kernel_rfl) rfl #[.agg #[.string ((rd_T72 l0 x10_1).f0),.string ((rd_T72 l0 x10_1).f1)]] rfl gq0 ?_;(with_reducible refine(impl_FieldOk.calls k1 ((rd_T72 l0 x10_1).f0) ((rd_T72 l0 x10_1).f1) true _ A6.out).mono ?_);rintro e w10 ⟨rfl,hb⟩;refine⟨_,rfl,?_⟩;replace BK746:=blA (g:=gb746) (o:=.cells #[.string ((rd_T72 l0 x10_1).f0),.string ((rd_T72 l0 x10_1).f1)] 72 (0,0)) hb;replace HB:=beA hb;(try clear hb);(try clear hb2);(try clear hk);(try clear hi)))
      go_roundg k1
      case measure=>have:=HK1.out;omega
      case rel=>exact⟨(wrap64 (x10_1+1)),gq4,H',⟨by have:=HK1.out;omega⟩,⟨gBe⟩⟩
     ·obtain rfl:=Option.some.inj H
      have p745:0≤(x10_1:Int):=of_decide_eq_true gq3
      have q745:x10_1<(l0.length:Int):=of_decide_eq_true gq3
      obtain⟨ad745,e745,hx745_0,hx745_1⟩:=at_T72 HR0.out x10_1 p745 q745
      cases e745
      replace hx745_0:=(HB.out.cell (World.block_lt_of_cell? w _ hx745_0)).trans hx745_0
      replace hx745_1:=(HB.out.cell (World.block_lt_of_cell? w _ hx745_1)).trans hx745_1
      replace p745:=eq_true p745
      replace q745:=eq_true q745
      go_wp2_with(first|((with_reducible refine gate_dst (N:=4) rfl ?_);refine boxA #[.string (⟨#[]⟩:ByteArray),.string (⟨#[]⟩:ByteArray)] 72 ?_;intro gb746 hg w11 hbox hb;have BK746:=Aside0.mk (hbox);have GW746:=geA hg;have GE746:=geA hg;replace HB:=beA hb;clear hb hbox hg;obtain⟨_,_⟩:=czA2 BK746;obtain⟨_,_⟩:=cfA2 BK746)|((with_reducible refine gate_callee (f:=66) rfl ?_);refine goesL_ (some 15) rfl rfl Tryz.func66 (by kernel_rfl) rfl #[.agg #[.string ((rd_T72 l0 x10_1).f0),.string ((rd_T72 l0 x10_1).f1)]] rfl gq0 ?_;(with_reducible refine(impl_FieldOk.calls k1 ((rd_T72 l0 x10_1).f0) ((rd_T72 l0 x10_1).f1) false _ A6.out).mono ?_);rintro e w13 ⟨rfl,hb⟩;refine⟨_,rfl,?_⟩;replace BK746:=blA (g:=gb746) (o:=.cells #[.string ((rd_T72 l0 x10_1).f0),.string ((rd_T72 l0 x10_1).f1)] 72 (0,0)) hb;replace HB:=beA hb;(try clear hb);(try clear hb2);(try clear hk);(try clear hi)))
      go_ret
      exact⟨gq2,gBe⟩
    ·obtain rfl:=Option.some.inj H
     go_wp2
     go_ret
     exact⟨gq2,gBe⟩

def impl_Values.l0 : Nat→ByteArray→List ByteArray→List (S72)→Int→Int→Option (List ByteArray)
 |0,_,_,_,_,_=>none
 |k+1,x1,x5,x11,x12,x13=>if x13<x12 then(if 0≤x13 then(if x13<(x11.length:Int) then((impl_SameFold.f ((rd_T72 x11 x13).f0) x1).bind fun t772=>(if t772=true then(if x5.length<8796093022208 then(impl_Values.l0 k x1 (x5 ++ [(rd_T72 x11 x13).f1]) x11 x12 (wrap64 (x13+1))) else(none)) else(impl_Values.l0 k x1 x5 x11 x12 (wrap64 (x13+1))))) else(none)) else(none)) else(some x5)
def impl_Values.f (k:Nat) (l0:List (S72)) (a1:ByteArray):Option (List ByteArray):=(impl_FieldsOk.f k l0).bind fun t769=>(if t769=true then(impl_Values.l0 k a1 ([]:List ByteArray) l0 (l0.length:Int) 0) else(some ([]:List ByteArray)))
set_option maxHeartbeats 8000000 in
set_option maxRecDepth 100000 in
theorem impl_Values.calls (k:Nat) (A0:Option Addr) (c0:Nat) (l0:List (S72)) (a1:ByteArray) (r:List ByteArray) (w:World) (hr0:Kd.C k72 w A0 l0.length l0) (hc0:l0.length≤c0) (h:impl_Values.f k l0 a1=some r) :
  Calls Tryz.prog 90 #[.slice A0 l0.length c0,.string a1] w fun e w'=>∃ v0_:Value,e = .returned (v0_)∧Kd.R Kd.string 9 w' w.heap.size (fun _=>True) v0_ r∧Below w.heap.size w w':=by
 have hu72:=Tryz.underlying72
 have HR0:=Aside0.mk hr0
 have HC0:=Aside0.mk hc0
 clear hr0 hc0
 have HB:=Aside0.mk (Below.refl w.heap.size w)
 have H:=h
 clear h
 unfold impl_Values.f at H
 replace H:=gD H
 obtain⟨t769,A3,H⟩:=H
 replace H:=gB H
 rcases H with⟨rfl,H⟩|⟨rfl,H⟩
 ·have H':=Aside0.mk H
  clear H
  go_enter Tryz.func90,Tryz.ntmps90
  go_wp2_with(first|((with_reducible refine gate_callee (f:=38) rfl ?_);refine goesL_ (some 9) rfl rfl Tryz.func38 (by kernel_rfl) rfl #[.slice A0 l0.length c0] rfl gq0 ?_;(with_reducible refine(impl_FieldsOk.calls k _ _ l0 true _ ?side1 ?side2 A3.out).mono ?_);(case side1=>repeat(first|exact HR0.out|(with_reducible refine Kd.C_alloc ?_ _)|(with_reducible refine Kd.C_drewN ?_ _)|(with_reducible refine Kd.C_drew ?_)));(case side2=>exact HC0.out);rintro e w5 ⟨rfl,hb⟩;refine⟨_,rfl,?_⟩;replace HB:=beA hb;(try clear hb);(try clear hb2);(try clear hk);(try clear hi)))
  go_loopg [5,13] k (fun kq v5 v13 w'=>∃(x5_1:List ByteArray) (x13_1:Int),v13 = .int .i64 x13_1∧Aside0 (impl_Values.l0 kq a1 x5_1 l0 (l0.length:Int) x13_1=some r)∧Aside0 (kq≤k)∧Aside0 (Kd.R Kd.string 9 w' w.heap.size (fun _=>True) v5 x5_1)∧Aside0 (Below w.heap.size w w'))
  case atStart=>exact⟨(([]:List ByteArray)),(0),gq4,H',⟨Nat.le_refl _⟩,⟨gq11⟩,⟨gBe⟩⟩
  case round=>
   clear H'
   obtain⟨x5_1,x13_1,rfl,HA,HK1,HO_5,HB⟩:=hrel
   cases gk with
   |zero=>exact absurd HA.out (by simp[impl_Values.l0])
   |succ k1=>
    have H:=HA.out
    clear HA
    simp only[impl_Values.l0] at H
    replace H:=gI H
    rcases H with⟨-,c6b0,-,H⟩|⟨-,c6b0,-,H⟩
    ·replace H:=gN H
     obtain⟨-,c7b0,-,H⟩:=H
     replace H:=gN H
     obtain⟨-,c8b0,-,H⟩:=H
     replace H:=gD H
     obtain⟨t772,A9,H⟩:=H
     replace H:=gB H
     rcases H with⟨rfl,H⟩|⟨rfl,H⟩
     ·replace H:=gN H
      obtain⟨c11,-,-,H⟩:=H
      have LMc11:=Aside0.mk c11
      clear c11
      obtain⟨y773,hy773⟩:∃ y_:List ByteArray,y_=(x5_1 ++ [(rd_T72 l0 x13_1).f1]):=⟨_,rfl⟩
      replace H:(impl_Values.l0 k1 a1 y773 l0 (l0.length:Int) (wrap64 (x13_1+1)))=some r:=by first|(rw[hy773];with_reducible exact H)|(have H2_:=(Option.bind_some _ _).symm.trans H;rw[hy773];with_reducible exact H2_)|(have H2_:=(Option.bind_some _ _).symm.trans H;with_reducible exact H2_)|with_reducible exact H|(rw[hy773];exact H)|exact H
      have Ny773:=Aside0.mk hy773
      clear hy773
      have H':=Aside0.mk H
      clear H
      have p770:0≤(x13_1:Int):=of_decide_eq_true gq3
      have q770:x13_1<(l0.length:Int):=of_decide_eq_true gq3
      obtain⟨ad770,e770,hx770_0,hx770_1⟩:=at_T72 HR0.out x13_1 p770 q770
      cases e770
      replace hx770_0:=(HB.out.cell (World.block_lt_of_cell? w _ hx770_0)).trans hx770_0
      replace hx770_1:=(HB.out.cell (World.block_lt_of_cell? w _ hx770_1)).trans hx770_1
      replace p770:=eq_true p770
      replace q770:=eq_true q770
      go_wp2_with(first|((with_reducible refine gate_dst (N:=7) rfl ?_);refine boxA #[.string (⟨#[]⟩:ByteArray),.string (⟨#[]⟩:ByteArray)] 72 ?_;intro gb771 hg w12 hbox hb;have BK771:=Aside0.mk (hbox);have GW771:=geA hg;have GE771:=geA hg;replace HO_5:=Aside0.mk (Kd.R_below gq16 hb);replace HB:=beA hb;clear hb hbox hg;obtain⟨_,_⟩:=czA2 BK771;obtain⟨_,_⟩:=cfA2 BK771)|((with_reducible refine gate_callee (f:=131) rfl ?_);refine goesL_ (some 20) rfl rfl Tryz.func131 (by kernel_rfl) rfl #[.string ((rd_T72 l0 x13_1).f0),.string a1] rfl gq0 ?_;(with_reducible refine(impl_SameFold.calls ((rd_T72 l0 x13_1).f0) a1 true _ A9.out).mono ?_);rintro e w14 ⟨rfl,hb⟩;refine⟨_,rfl,?_⟩;replace HO_5:=Aside0.mk (Kd.R_below (by(with_reducible repeat(first|apply Kd.R_alloc|apply Kd.R_drewN|apply Kd.R_drew));exact(gFar (Kd.R_types HO_5.out BK771.out (by decide)) (fun _ h_=>h_.1))) hb);replace BK771:=blA (g:=gb771) (o:=.cells #[.string ((rd_T72 l0 x13_1).f0),.string ((rd_T72 l0 x13_1).f1)] 72 (0,0)) hb;replace HB:=beA hb;(try clear hb);(try clear hb2);(try clear hk);(try clear hi);obtain⟨_,_⟩:=czA2 BK771;obtain⟨_,_⟩:=cfA2 BK771)|((with_reducible refine gate_builtin (b:=.append) (xs:=#[.tmp 21,.tmp 24]) rfl ?_);at_builtin;refine Kd.R_append Kd.string (w0:=w) w.heap.size rfl (.tmp 21) (.tmp 24) 76 9 (.string ⟨#[]⟩) 16 rfl Tryz.underlying76 info9 rfl (by decide) (by omega) u5 x5_1 ((rd_T72 l0 x13_1).f1) [.string ((rd_T72 l0 x13_1).f1)] (fun _=>True) (fun _=>False) rfl rfl ?aP (fun _ hk=>hk.elim) ?aF ?aO ?aB ?aS ?aL ?_;(case aP=>exact rfl);(case aB=>exact gBe);(case aF=>exact(fun _ _=>trivial));(case aO=>exact gq16);(case aS=>exact(below_size gBe));(case aL=>have:=LMc11.out;omega);intro v774 w16 ho hb hg hat;rw[← Ny773.out] at ho;have n0_:=Aside0.mk (blk_grown (g:=gb771) (o:=.cells #[.string ((rd_T72 l0 x13_1).f0),.string ((rd_T72 l0 x13_1).f1)] 72 (0,0)) (by(with_reducible repeat(first|refine blk_drewN ?_ _|refine blk_drew ?_|refine blk_alloc ?_ _));exact BK771.out) hg (Kd.R_ne HO_5.out BK771.out (by decide)));have n1_:=Aside0.mk (hb);have n2_:=Aside0.mk (ho);clear BK771;clear HB;clear HO_5;have BK771:=n0_;have HB:=n1_;have HO775:=n2_;clear n0_ n1_ n2_;clear ho hb hg hat))
      go_roundg k1
      case measure=>have:=HK1.out;omega
      case rel=>exact⟨(y773),(wrap64 (x13_1+1)),gq4,H',⟨by have:=HK1.out;omega⟩,⟨gRo⟩,⟨gBe⟩⟩
     ·have H':=Aside0.mk H
      clear H
      have p770:0≤(x13_1:Int):=of_decide_eq_true gq3
      have q770:x13_1<(l0.length:Int):=of_decide_eq_true gq3
      obtain⟨ad770,e770,hx770_0,hx770_1⟩:=at_T72 HR0.out x13_1 p770 q770
      cases e770
      replace hx770_0:=(HB.out.cell (World.block_lt_of_cell? w _ hx770_0)).trans hx770_0
      replace hx770_1:=(HB.out.cell (World.block_lt_of_cell? w _ hx770_1)).trans hx770_1
      replace p770:=eq_true p770
      replace q770:=eq_true q770
      go_wp2_with(first|((with_reducible refine gate_dst (N:=7) rfl ?_);refine boxA #[.string (⟨#[]⟩:ByteArray),.string (⟨#[]⟩:ByteArray)] 72 ?_;intro gb771 hg w17 hbox hb;have BK771:=Aside0.mk (hbox);have GW771:=geA hg;have GE771:=geA hg;replace HO_5:=Aside0.mk (Kd.R_below gq16 hb);replace HB:=beA hb;clear hb hbox hg;obtain⟨_,_⟩:=czA2 BK771;obtain⟨_,_⟩:=cfA2 BK771)|((with_reducible refine gate_callee (f:=131) rfl ?_);refine goesL_ (some 20) rfl rfl Tryz.func131 (by kernel_rfl) rfl #[.string ((rd_T72 l0 x13_1).f0),.string a1] rfl gq0 ?_;(with_reducible refine(impl_SameFold.calls ((rd_T72 l0 x13_1).f0) a1 false _ A9.out).mono ?_);rintro e w19 ⟨rfl,hb⟩;refine⟨_,rfl,?_⟩;replace HO_5:=Aside0.mk (Kd.R_below (by(with_reducible repeat(first|apply Kd.R_alloc|apply Kd.R_drewN|apply Kd.R_drew));exact(gFar (Kd.R_types HO_5.out BK771.out (by decide)) (fun _ h_=>h_.1))) hb);replace BK771:=blA (g:=gb771) (o:=.cells #[.string ((rd_T72 l0 x13_1).f0),.string ((rd_T72 l0 x13_1).f1)] 72 (0,0)) hb;replace HB:=beA hb;(try clear hb);(try clear hb2);(try clear hk);(try clear hi)))
      go_roundg k1
      case measure=>have:=HK1.out;omega
      case rel=>exact⟨(x5_1),(wrap64 (x13_1+1)),gq4,H',⟨by have:=HK1.out;omega⟩,⟨gRo⟩,⟨gBe⟩⟩
    ·obtain rfl:=Option.some.inj H
     go_wp2
     go_ret
     exact⟨_,gq2,gRo,gBe⟩
 ·obtain rfl:=Option.some.inj H
  go_enter Tryz.func90,Tryz.ntmps90
  go_wp2_with(first|((with_reducible refine gate_callee (f:=38) rfl ?_);refine goesL_ (some 9) rfl rfl Tryz.func38 (by kernel_rfl) rfl #[.slice A0 l0.length c0] rfl gq0 ?_;(with_reducible refine(impl_FieldsOk.calls k _ _ l0 false _ ?side1 ?side2 A3.out).mono ?_);(case side1=>repeat(first|exact HR0.out|(with_reducible refine Kd.C_alloc ?_ _)|(with_reducible refine Kd.C_drewN ?_ _)|(with_reducible refine Kd.C_drew ?_)));(case side2=>exact HC0.out);rintro e w20 ⟨rfl,hb⟩;refine⟨_,rfl,?_⟩;replace HB:=beA hb;(try clear hb);(try clear hb2);(try clear hk);(try clear hi)))
  go_ret
  exact⟨_,gq2,gq11,gBe⟩

def impl_hasField.f (k:Nat) (l0:List (S72)) (a1:ByteArray):Option (Bool):=(impl_Values.f k l0 a1).bind fun t776=>(some (decide ((t776.length:Int)>0)))
set_option maxHeartbeats 8000000 in
set_option maxRecDepth 100000 in
theorem impl_hasField.calls (k:Nat) (A0:Option Addr) (c0:Nat) (l0:List (S72)) (a1:ByteArray) (r:Bool) (w:World) (hr0:Kd.C k72 w A0 l0.length l0) (hc0:l0.length≤c0) (h:impl_hasField.f k l0 a1=some r) :
  Calls Tryz.prog 51 #[.slice A0 l0.length c0,.string a1] w fun e w'=>e = .returned (.bool r)∧Below w.heap.size w w':=by
 have HR0:=Aside0.mk hr0
 have HC0:=Aside0.mk hc0
 clear hr0 hc0
 have HB:=Aside0.mk (Below.refl w.heap.size w)
 have H:=h
 clear h
 unfold impl_hasField.f at H
 replace H:=gD H
 obtain⟨t776,A3,H⟩:=H
 obtain rfl:=Option.some.inj H
 go_enter Tryz.func51,Tryz.ntmps51
 go_wp2_with(((with_reducible refine gate_callee (f:=90) rfl ?_);refine goesL_ (some 7) rfl rfl Tryz.func90 (by kernel_rfl) rfl #[.slice A0 l0.length c0,.string a1] rfl gq0 ?_;(with_reducible refine(impl_Values.calls k _ _ l0 a1 t776 _ ?side1 ?side2 A3.out).mono ?_);(case side1=>repeat(first|exact HR0.out|(with_reducible refine Kd.C_alloc ?_ _)|(with_reducible refine Kd.C_drewN ?_ _)|(with_reducible refine Kd.C_drew ?_)));(case side2=>exact HC0.out);rintro e wq0a ⟨v777,rfl,ho0,hb⟩;refine⟨_,rfl,?_⟩;have HO778:=Aside0.mk (Kd.R_lower ho0 (below_size gBe));replace HB:=beA hb;(try clear hb);(try clear hb2);(try clear hk);(try clear hi);(try clear ho0);obtain⟨Ao5,co5,eo5⟩:=Kd.R_slice HO778.out;subst eo5))
 go_ret
 exact⟨gq2,gBe⟩

def impl_fieldText.f (a0_0:ByteArray) (a0_1:ByteArray):Option (ByteArray):=if a0_0.size+2≤9223372036854775807 then(if(a0_0++(⟨#[58,32]⟩:ByteArray)).size+a0_1.size≤9223372036854775807 then(some ((a0_0++(⟨#[58,32]⟩:ByteArray))++a0_1)) else(none)) else(none)
set_option maxHeartbeats 8000000 in
set_option maxRecDepth 100000 in
theorem impl_fieldText.calls (a0_0:ByteArray) (a0_1:ByteArray) (r:ByteArray) (w:World) (h:impl_fieldText.f a0_0 a0_1=some r) :
  Calls Tryz.prog 112 #[.agg #[.string a0_0,.string a0_1]] w fun e w'=>e = .returned (.string r)∧Below w.heap.size w w':=by
 have hu72:=Tryz.underlying72
 have HB:=Aside0.mk (Below.refl w.heap.size w)
 have H:=h
 clear h
 unfold impl_fieldText.f at H
 replace H:=gI H
 rcases H with⟨c2,c2b1,c2b0,H⟩|⟨c2,-,-,H⟩
 ·try have c2b2:(9223372036854775807<a0_0.size+2)=False:=eq_false (Nat.not_lt.2 c2)
  replace H:=gN H
  obtain⟨c3,c3b1,c3b0,H⟩:=H
  try have c3b2:(9223372036854775807<(a0_0++(⟨#[58,32]⟩:ByteArray)).size+a0_1.size)=False:=eq_false (Nat.not_lt.2 c3)
  try have c3b3:(9223372036854775807<a0_0.size+2+a0_1.size)=False:=by have h_:=c3;simp only[ByteArray.size_append] at h_;exact eq_false (Nat.not_lt.2 h_)
  obtain rfl:=Option.some.inj H
  go_enter Tryz.func112,Tryz.ntmps112
  go_wp2_with(((with_reducible refine gate_dst (N:=1) rfl ?_);refine boxA #[.string a0_0,.string a0_1] 72 ?_;intro gb815 hg wq0a hbox hb;have BK815:=Aside0.mk (hbox);have GE815:=geA hg;replace HB:=beA hb;clear hb hbox hg;obtain⟨_,_⟩:=czA2 BK815;obtain⟨_,_⟩:=cfA2 BK815))
  go_ret
  exact⟨gq2,gBe⟩
 ·exact absurd H (by simp)


-- IMPORT Shelf
end Go.Proofs.YtfhllanhldbkkaaGreatDoor.P
