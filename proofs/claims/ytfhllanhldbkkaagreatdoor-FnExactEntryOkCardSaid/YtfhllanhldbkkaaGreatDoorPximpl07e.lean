import Derived.Test.YtfhllanhldbkkaaGreatDoorPx0
import Derived.Test.YtfhllanhldbkkaaGreatDoorPximpl07b
import Derived.Test.YtfhllanhldbkkaaGreatDoorWC
import Derived.Test.YtfhllanhldbkkaaGreatDoorPximpl01a
import Derived.Test.YtfhllanhldbkkaaGreatDoorPximpl06a
import Derived.Test.YtfhllanhldbkkaaGreatDoorPxliba
namespace Go.Proofs.YtfhllanhldbkkaaGreatDoor.P
open Go.RowKit Go.Proofs.YtfhllanhldbkkaaGreatDoorW.PrintWords Go.Proofs.YtfhllanhldbkkaaGreatDoorW.PrintLast Go.Proofs.YtfhllanhldbkkaaGreatDoorW.PrintMore
attribute [local go_sem] max2_int min2_int max_two min_two max_three min_three max_four min_four   -- for this text's walks alone
set_option linter.unusedVariables false
set_option linter.unusedSimpArgs false

def impl_urlText.f (a0_0:ByteArray) (a0_1:Int) (a0_2:ByteArray) (a0_3:ByteArray) (a0_4:Bool):Option (ByteArray):=if 7+a0_0.size≤9223372036854775807 then((impl_portText.f a0_0 a0_1 a0_2 a0_3 a0_4).bind fun t672=>(if((⟨#[104,116,116,112,58,47,47]⟩:ByteArray)++a0_0).size+t672.size≤9223372036854775807 then((impl_pathText.f a0_0 a0_1 a0_2 a0_3 a0_4).bind fun t673=>(if(((⟨#[104,116,116,112,58,47,47]⟩:ByteArray)++a0_0)++t672).size+t673.size≤9223372036854775807 then(some ((((⟨#[104,116,116,112,58,47,47]⟩:ByteArray)++a0_0)++t672)++t673)) else(none))) else(none))) else(none)
def impl_urlText.T1 : Bool×List (List Nat×List Nat):=(true,[([],[]),([0],[0]),([1],[1]),([],[]),([3],[3]),([2,4],[2,4]),([],[]),([6,4],[6]),([5,7],[5,7]),([8,7,0,1,2,3,4,5,6,7,8],[8])])
def impl_urlText.B1 : List Nat:=[0,1,3,0,8,31,0,88,255,511]
theorem impl_urlText.tab1 : rtab .any (opsOf Tryz.f105 1)=impl_urlText.T1:=by kernel_rfl
theorem impl_urlText.bits1 : waitsOk impl_urlText.T1.2 impl_urlText.B1=true:=by kernel_rfl
set_option maxHeartbeats 8000000 in
set_option maxRecDepth 100000 in
theorem impl_urlText.calls (a0_0:ByteArray) (a0_1:Int) (a0_2:ByteArray) (a0_3:ByteArray) (a0_4:Bool) (r:ByteArray) (w:World) (h:impl_urlText.f a0_0 a0_1 a0_2 a0_3 a0_4=some r) (HT0:Tab10 w) :
  Calls Tryz.prog 105 #[.agg #[.string a0_0,.int .i64 a0_1,.string a0_2,.string a0_3,.bool a0_4]] w fun e w'=>e = .returned (.string r)∧Below w.heap.size w w':=by
 have HT:=Aside0.mk HT0
 clear HT0
 have hu92:=Tryz.underlying92
 have HB:=Aside0.mk (Below.refl w.heap.size w)
 have H:=h
 clear h
 unfold impl_urlText.f at H
 replace H:=gI H
 rcases H with⟨c2,c2b1,c2b0,H⟩|⟨c2,-,-,H⟩
 ·try have c2b2:(9223372036854775807<7+a0_0.size)=False:=eq_false (Nat.not_lt.2 c2)
  replace H:=gD H
  obtain⟨t672,A3,H⟩:=H
  replace H:=gN H
  obtain⟨c4,c4b1,c4b0,H⟩:=H
  try have c4b2:(9223372036854775807<((⟨#[104,116,116,112,58,47,47]⟩:ByteArray)++a0_0).size+t672.size)=False:=eq_false (Nat.not_lt.2 c4)
  try have c4b3:(9223372036854775807<7+a0_0.size+t672.size)=False:=by have h_:=c4;simp only[ByteArray.size_append] at h_;exact eq_false (Nat.not_lt.2 h_)
  replace H:=gD H
  obtain⟨t673,A5,H⟩:=H
  replace H:=gN H
  obtain⟨c6,c6b1,c6b0,H⟩:=H
  try have c6b2:(9223372036854775807<(((⟨#[104,116,116,112,58,47,47]⟩:ByteArray)++a0_0)++t672).size+t673.size)=False:=eq_false (Nat.not_lt.2 c6)
  try have c6b3:(9223372036854775807<7+a0_0.size+t672.size+t673.size)=False:=by have h_:=c6;simp only[ByteArray.size_append] at h_;exact eq_false (Nat.not_lt.2 h_)
  obtain rfl:=Option.some.inj H
  go_enter Tryz.func105,Tryz.ntmps105
  try go_wp2_with(((with_reducible refine gate_dst (N:=1) rfl ?_);refine boxA #[.string a0_0,.int .i64 a0_1,.string a0_2,.string a0_3,.bool a0_4] 92 ?_;intro gb671 hg wq0a hbox hb;have BK671:=Aside0.mk (hbox);have GE671:=geA hg;replace HB:=beA hb;clear hb hbox hg))
  replace BK671:=Aside0.mk (blk_drew BK671.out)
  replace HB:=Aside0.mk (below_drew1 HB.out)
  refine startF (n:=10) (S:=fun w'=>w'.cell? ⟨gb671,0,none⟩=some (.string a0_0)∧w'.cell? ⟨gb671,1,none⟩=some (.int .i64 a0_1)∧w'.cell? ⟨gb671,2,none⟩=some (.string a0_2)∧w'.cell? ⟨gb671,3,none⟩=some (.string a0_3)∧w'.cell? ⟨gb671,4,none⟩=some (.bool a0_4)) (ds:=[]) (czA5 BK671) (fun hHeld=>?_);refine with_tabW impl_urlText.tab1 impl_urlText.bits1 (fun HT_ HW_=>?_)
  generalize wq0a.drew=wq1a at BK671 HB hHeld ⊢
  repeat(first|refine takeF ?_ (hy:=Or.inl ⟨by rfl,gq7⟩)|refine pureF ?_)
  refine takeT_ 6 (some 9) (hy:=Or.inl ⟨by rfl,gq7⟩) ?_
  refine oneF (fun K hK=>?_)
  refine goes_ Tryz.func154 (by kernel_rfl) rfl #[.agg #[.string a0_0,.int .i64 a0_1,.string a0_2,.string a0_3,.bool a0_4]] (by rfl) rfl rfl gq0 ?_
  with_reducible refine(impl_portText.calls a0_0 a0_1 a0_2 a0_3 a0_4 t672 _ A3.out ?hT).mono ?_
  case hT=>exact tab_go HT
  rintro e wq2a ⟨rfl,hb⟩
  refine⟨_,rfl,?_⟩
  replace BK671:=blA (g:=gb671) hb
  replace HB:=beA hb
  (try clear hb)
  refine hK.out _ _ (czA5 BK671) (fun hHeld=>?_)
  clear hK K
  refine normF ?_
  repeat(first|refine pureF ?_)
  refine oneF (fun K hK=>?_)
  refine goes_ Tryz.func155 (by kernel_rfl) rfl #[.agg #[.string a0_0,.int .i64 a0_1,.string a0_2,.string a0_3,.bool a0_4]] (by rfl) rfl rfl gq0 ?_
  with_reducible refine(impl_pathText.calls a0_0 a0_1 a0_2 a0_3 a0_4 t673 _ A5.out).mono ?_
  rintro e wq2a ⟨rfl,hb⟩
  refine⟨_,rfl,?_⟩
  replace BK671:=blA (g:=gb671) hb
  replace HB:=beA hb
  (try clear hb)
  refine hK.out _ _ (czA5 BK671) (fun hHeld=>?_)
  clear hK K
  refine normF ?_
  repeat(first|refine pureF ?_)
  refine done_ (done_of HT_.out (by kernel_rfl)) ?_
  try go_wp2
  go_ret
  exact⟨gq2,gBe⟩
 ·exact absurd H (by simp)


def impl_UrlOk.j0 : Nat→Bool→ByteArray→Int→ByteArray→ByteArray→Bool→Option (Bool)
 |0,_,_,_,_,_,_=>none
 |k+1,x25,x675000,x675001,x675002,x675003,x675004=>if x25=true then(some false) else((impl_all__impl_isVisible.f k x675003).bind fun t678=>(if t678=true then((strings_Contains.f x675003 (⟨#[35]⟩:ByteArray)).bind fun t679=>(if t679=true then(some false) else(if x675004=true then((impl_urlText.f x675000 x675001 x675002 x675003 x675004).bind fun t680=>(some (decide ((t680.size:Int)≤200)))) else(if x675003.toList=([]:List UInt8) then((impl_urlText.f x675000 x675001 x675002 x675003 x675004).bind fun t681=>(some (decide ((t681.size:Int)≤200)))) else(some false))))) else(some false)))
def impl_UrlOk.f (k:Nat) (a0_0:ByteArray) (a0_1:Int) (a0_2:ByteArray) (a0_3:ByteArray) (a0_4:Bool):Option (Bool):=(impl_isHost.f k a0_0).bind fun t675=>(if t675=true then((impl_within.f a0_1 1 65535).bind fun t676=>(if t676=true then(if a0_2.toList=([]:List UInt8) then(impl_UrlOk.j0 k true a0_0 a0_1 a0_2 a0_3 a0_4) else((impl_CleanPath.f k a0_2).bind fun t677=>(impl_UrlOk.j0 k (t677.toList != a0_2.toList) a0_0 a0_1 a0_2 a0_3 a0_4))) else(impl_UrlOk.j0 k true a0_0 a0_1 a0_2 a0_3 a0_4))) else(impl_UrlOk.j0 k true a0_0 a0_1 a0_2 a0_3 a0_4))
def impl_UrlOk.T1 : Bool×List (List Nat×List Nat):=(true,[([],[]),([0],[0]),([1],[1]),([2],[2]),([3,2],[3]),([4],[4]),([5,4],[4,5]),([6,4,4],[4,6]),([7,4],[4,7]),([4,8],[4,8]),([9,7],[9]),([10],[10]),([11,10],[10,11]),([12,10],[10,12]),([10,13],[10,13]),([14,10],[14]),([15],[15]),([16,15],[15,16]),([17,15,15],[15,17]),([15],[15]),([19,15],[15,19]),([18,20,15],[15,18,20]),([15,21],[15,21])])
def impl_UrlOk.B1 : List Nat:=[0,1,3,7,15,31,63,127,255,511,1023,2047,4095,8191,16383,32767,65535,131071,262143,65535,589823,2097151,4194303]
theorem impl_UrlOk.tab1 : rtab .any (opsOf Tryz.f153 1)=impl_UrlOk.T1:=by kernel_rfl
theorem impl_UrlOk.bits1 : waitsOk impl_UrlOk.T1.2 impl_UrlOk.B1=true:=by kernel_rfl
theorem impl_UrlOk.e0 {p:Prop} (h:p:=by
  have H':=Aside0.mk H
  clear H
  try go_wp2
  replace BK674:=Aside0.mk (blk_drew BK674.out)
  replace HB:=Aside0.mk (below_drew1 HB.out)
  refine startF (n:=23) (S:=fun w'=>w'.cell? ⟨gb674,0,none⟩=some (.string a0_0)∧w'.cell? ⟨gb674,1,none⟩=some (.int .i64 a0_1)∧w'.cell? ⟨gb674,2,none⟩=some (.string a0_2)∧w'.cell? ⟨gb674,3,none⟩=some (.string a0_3)∧w'.cell? ⟨gb674,4,none⟩=some (.bool a0_4)) (ds:=[]) (czA5 BK674) (fun hHeld=>?_);refine with_tabW impl_UrlOk.tab1 impl_UrlOk.bits1 (fun HT_ HW_=>?_)
  generalize w3.drew=wq0a at BK674 HB hHeld ⊢
  repeat(first|refine takeF ?_ (hy:=Or.inl ⟨by rfl,gq7⟩)|refine pureF ?_|(refine oneF (fun K hK=>?_);refine goes_ Tryz.func198 (by kernel_rfl) rfl #[.string a0_0] (by rfl) rfl rfl gq0 ?_;(with_reducible refine(impl_isHost.calls k a0_0 false _ A4.out).mono ?_);rintro e wq3a ⟨rfl,hb⟩;refine⟨_,rfl,?_⟩;replace BK674:=blA (g:=gb674) hb;replace HB:=beA hb;(try clear hb);refine hK.out _ _ (czA5 BK674) (fun hHeld=>?_);clear hK K;refine normF ?_)|(refine oneF (fun K hK=>?_);refine goes_ Tryz.func198 (by kernel_rfl) rfl #[.string a0_0] (by rfl) rfl rfl gq0 ?_;(with_reducible refine(impl_isHost.calls k a0_0 true _ A4.out).mono ?_);rintro e wq1a ⟨rfl,hb⟩;refine⟨_,rfl,?_⟩;replace BK674:=blA (g:=gb674) hb;replace HB:=beA hb;(try clear hb);refine hK.out _ _ (czA5 BK674) (fun hHeld=>?_);clear hK K;refine normF ?_)|(refine oneF (fun K hK=>?_);refine goes_ Tryz.func65 (by kernel_rfl) rfl #[.int .i64 a0_1,.int .i64 1,.int .i64 65535] (by rfl) rfl rfl gq0 ?_;(with_reducible refine(impl_within.calls a0_1 1 65535 false _ A6.out).mono ?_);rintro e w' ⟨rfl,⟨nd,rfl⟩⟩;refine⟨_,rfl,?_⟩;refine hK.out _ _ (czA5 BK674) (fun hHeld=>?_);clear hK K;refine normF ?_)|(refine oneF (fun K hK=>?_);refine goes_ Tryz.func65 (by kernel_rfl) rfl #[.int .i64 a0_1,.int .i64 1,.int .i64 65535] (by rfl) rfl rfl gq0 ?_;(with_reducible refine(impl_within.calls a0_1 1 65535 true _ A6.out).mono ?_);rintro e w' ⟨rfl,⟨nd,rfl⟩⟩;refine⟨_,rfl,?_⟩;refine hK.out _ _ (czA5 BK674) (fun hHeld=>?_);clear hK K;refine normF ?_))
  refine done_ (done_of HT_.out (by kernel_rfl)) ?_
  try go_wp2
  go_meet
  case rel=>exact⟨_,(true),gq4,H',⟨gq8⟩,⟨gBk⟩,⟨gBe⟩⟩):p:=h
theorem impl_UrlOk.e1 {p:Prop} (h:p:=by
  obtain rfl:=Option.some.inj H
  obtain⟨_,_,_,_,_⟩:=czA5 BK674
  obtain⟨_,_,_,_,_⟩:=cfA5 BK674
  go_wp2_with(first|((with_reducible refine gate_callee (f:=107) rfl ?_);refine goesL_ (some 28) rfl rfl Tryz.func107 (by kernel_rfl) rfl #[.string a0_3,.func (.func 109) #[] #[]] rfl gq0 ?_;(with_reducible refine(impl_all__impl_isVisible.calls kj1 a0_3  false _ A20.out).mono ?_);rintro e w' ⟨rfl,⟨nd,rfl⟩⟩;refine⟨_,rfl,?_⟩)|((with_reducible refine gate_callee (f:=107) rfl ?_);refine goesL_ (some 28) rfl rfl Tryz.func107 (by kernel_rfl) rfl #[.string a0_3,.func (.func 109) #[] #[]] rfl gq0 ?_;(with_reducible refine(impl_all__impl_isVisible.calls kj1 a0_3  true _ A20.out).mono ?_);rintro e w' ⟨rfl,⟨nd,rfl⟩⟩;refine⟨_,rfl,?_⟩)|(go_at_call 148;(with_reducible refine(strings_Contains.calls a0_3 (⟨#[35]⟩:ByteArray) false _ A22.out ?hT).mono ?_);(case hT=>exact tab_go HT);rintro e w' ⟨rfl,⟨nd,rfl⟩⟩)|((with_reducible refine gate_callee (f:=105) rfl ?_);refine goesL_ (some 46) rfl rfl Tryz.func105 (by kernel_rfl) rfl #[.agg #[.string a0_0,.int .i64 a0_1,.string a0_2,.string a0_3,.bool false]] rfl gq0 ?_;(with_reducible refine(impl_urlText.calls a0_0 a0_1 a0_2 a0_3 false t681 _ A30.out ?hT).mono ?_);(case hT=>exact tab_go HT);rintro e wq5a ⟨rfl,hb⟩;refine⟨_,rfl,?_⟩;replace BK674:=blA (g:=gb674) hb;replace HB:=beA hb;(try clear hb);(try clear hb2);(try clear hk);(try clear hi))|((with_reducible refine gate_callee (f:=105) rfl ?_);refine goesL_ (some 46) rfl rfl Tryz.func105 (by kernel_rfl) rfl #[.agg #[.string a0_0,.int .i64 a0_1,.string a0_2,.string a0_3,.bool true]] rfl gq0 ?_;(with_reducible refine(impl_urlText.calls a0_0 a0_1 a0_2 a0_3 true t680 _ A26.out ?hT).mono ?_);(case hT=>exact tab_go HT);rintro e wq4a ⟨rfl,hb⟩;refine⟨_,rfl,?_⟩;replace BK674:=blA (g:=gb674) hb;replace HB:=beA hb;(try clear hb);(try clear hb2);(try clear hk);(try clear hi))|(go_at_call 148;(with_reducible refine(strings_Contains.calls a0_3 (⟨#[35]⟩:ByteArray) true _ A22.out ?hT).mono ?_);(case hT=>exact tab_go HT);rintro e w' ⟨rfl,⟨nd,rfl⟩⟩))
  go_ret
  exact⟨gq2,gBe⟩):p:=h
set_option maxHeartbeats 8000000 in
set_option maxRecDepth 100000 in
theorem impl_UrlOk.calls (k:Nat) (a0_0:ByteArray) (a0_1:Int) (a0_2:ByteArray) (a0_3:ByteArray) (a0_4:Bool) (r:Bool) (w:World) (h:impl_UrlOk.f k a0_0 a0_1 a0_2 a0_3 a0_4=some r) (HT0:Tab10 w) :
  Calls Tryz.prog 153 #[.agg #[.string a0_0,.int .i64 a0_1,.string a0_2,.string a0_3,.bool a0_4]] w fun e w'=>e = .returned (.bool r)∧Below w.heap.size w w':=by
 have HT:=Aside0.mk HT0
 clear HT0
 have hu92:=Tryz.underlying92
 have HB:=Aside0.mk (Below.refl w.heap.size w)
 have H:=h
 clear h
 unfold impl_UrlOk.f at H
 have HC2:=Aside0.mk H
 clear H
 go_enter Tryz.func153,Tryz.ntmps153
 go_upto_region 1 with(first|((with_reducible refine gate_dst (N:=1) rfl ?_);refine boxA #[.string a0_0,.int .i64 a0_1,.string a0_2,.string a0_3,.bool a0_4] 92 ?_;intro gb674 hg w3 hbox hb;have BK674:=Aside0.mk (hbox);have GE674:=geA hg;replace HB:=beA hb;clear hb hbox hg))
 (try simp only[Act.put,List.setIfInBounds_toArray,List.set_cons_zero,List.set_cons_succ])
 go_cut [25] (fun v25 wc=>∃(kq:Nat) (x25_1:Bool),v25 = .bool x25_1∧Aside0 (impl_UrlOk.j0 kq x25_1 a0_0 a0_1 a0_2 a0_3 a0_4=some r)∧Aside0 (kq≤k)∧Aside0 (wc.heap[gb674]? = some (.cells #[.string a0_0,.int .i64 a0_1,.string a0_2,.string a0_3,.bool a0_4] 92 (0,0)))∧Aside0 (Below w.heap.size w wc))
 case first=>
  have H:=HC2.out
  clear HC2
  replace H:=gD H
  obtain⟨t675,A4,H⟩:=H
  replace H:=gB H
  rcases H with⟨rfl,H⟩|⟨rfl,H⟩
  ·replace H:=gD H
   obtain⟨t676,A6,H⟩:=H
   replace H:=gB H
   rcases H with⟨rfl,H⟩|⟨rfl,H⟩
   ·replace H:=gI H
    rcases H with⟨c8,-,-,H⟩|⟨c8,-,-,H⟩
    ·have c8b0:(a0_2.toList==([]:List UInt8))=true:=beq_iff_eq.mpr c8
     have c8b4:a0_2.toList.isEmpty=true:=List.isEmpty_iff.mpr c8
     have c8b1:(a0_2.toList != ([]:List UInt8))=false:=bne_eq_false_iff_eq.mpr c8
     clear c8
     (first|rw[c8b0]|rw[c8b4]|(simp only[i64_w,i32_w];rw[c8b0])|skip)
     exact impl_UrlOk.e0
    ·have c8b0:(a0_2.toList==([]:List UInt8))=false:=beq_eq_false_iff_ne.mpr c8
     have c8b4:a0_2.toList.isEmpty=false:=Bool.eq_false_iff.mpr (fun h_=>c8 (List.isEmpty_iff.mp h_))
     have c8b1:(a0_2.toList != ([]:List UInt8))=true:=bne_iff_ne.mpr c8
     (first|rw[c8b0]|rw[c8b4]|(simp only[i64_w,i32_w];rw[c8b0])|skip)
     replace H:=gD H
     obtain⟨t677,A11,H⟩:=H
     have H':=Aside0.mk H
     clear H
     try go_wp2
     replace BK674:=Aside0.mk (blk_drew BK674.out)
     replace HB:=Aside0.mk (below_drew1 HB.out)
     refine startF (n:=23) (S:=fun w'=>w'.cell? ⟨gb674,0,none⟩=some (.string a0_0)∧w'.cell? ⟨gb674,1,none⟩=some (.int .i64 a0_1)∧w'.cell? ⟨gb674,2,none⟩=some (.string a0_2)∧w'.cell? ⟨gb674,3,none⟩=some (.string a0_3)∧w'.cell? ⟨gb674,4,none⟩=some (.bool a0_4)) (ds:=[]) (czA5 BK674) (fun hHeld=>?_);refine with_tabW impl_UrlOk.tab1 impl_UrlOk.bits1 (fun HT_ HW_=>?_)
     generalize w3.drew=wq0a at BK674 HB hHeld ⊢
     repeat(first|refine takeF ?_ (hy:=Or.inl ⟨by rfl,gq7⟩)|refine pureF ?_)
     refine oneF (fun K hK=>?_)
     refine goes_ Tryz.func198 (by kernel_rfl) rfl #[.string a0_0] (by rfl) rfl rfl gq0 ?_
     with_reducible refine(impl_isHost.calls k a0_0 true _ A4.out).mono ?_
     rintro e wq2a ⟨rfl,hb⟩
     refine⟨_,rfl,?_⟩
     replace BK674:=blA (g:=gb674) hb
     replace HB:=beA hb
     (try clear hb)
     refine hK.out _ _ (czA5 BK674) (fun hHeld=>?_)
     clear hK K
     refine normF ?_
     repeat(first|refine takeF ?_ (hy:=Or.inl ⟨by rfl,gq7⟩)|refine pureF ?_)
     refine oneF (fun K hK=>?_)
     refine goes_ Tryz.func65 (by kernel_rfl) rfl #[.int .i64 a0_1,.int .i64 1,.int .i64 65535] (by rfl) rfl rfl gq0 ?_
     with_reducible refine(impl_within.calls a0_1 1 65535 true _ A6.out).mono ?_
     rintro e w' ⟨rfl,⟨nd,rfl⟩⟩
     refine⟨_,rfl,?_⟩
     refine hK.out _ _ (czA5 BK674) (fun hHeld=>?_)
     clear hK K
     refine normF ?_
     repeat(first|refine takeF ?_ (hy:=Or.inl ⟨by rfl,gq7⟩)|refine pureF ?_)
     refine pureT 19 (some 22) ?_
     refine takeT_ 20 (some 23) (hy:=Or.inl ⟨by rfl,gq7⟩) ?_
     refine oneF (fun K hK=>?_)
     refine goes_ Tryz.func152 (by kernel_rfl) rfl #[.string a0_2] (by rfl) rfl rfl gq0 ?_
     with_reducible refine(impl_CleanPath.calls k a0_2 t677 _ A11.out).mono ?_
     rintro e wq2a ⟨rfl,hb⟩
     refine⟨_,rfl,?_⟩
     replace BK674:=blA (g:=gb674) hb
     replace HB:=beA hb
     (try clear hb)
     refine hK.out _ _ (czA5 BK674) (fun hHeld=>?_)
     clear hK K
     refine normF ?_
     repeat(first|refine pureF ?_)
     refine done_ (done_of HT_.out (by kernel_rfl)) ?_
     try go_wp2
     go_meet
     case rel=>exact⟨_,((t677.toList != a0_2.toList)),gq4,H',⟨gq8⟩,⟨gBk⟩,⟨gBe⟩⟩
   ·exact impl_UrlOk.e0
  ·exact impl_UrlOk.e0
 case rest=>
  clear HC2
  obtain⟨kq,x25_1,rfl,HA,HJ1,BK674,HB⟩:=hcut
  cases kq with
  |zero=>exact absurd HA.out (by simp[impl_UrlOk.j0])
  |succ kj1=>
   have H:=HA.out
   clear HA
   simp only[impl_UrlOk.j0] at H
   replace H:=gB H
   rcases H with⟨rfl,H⟩|⟨rfl,H⟩
   ·obtain rfl:=Option.some.inj H
    go_wp2
    go_ret
    exact⟨gq2,gBe⟩
   ·replace H:=gD H
    obtain⟨t678,A20,H⟩:=H
    replace H:=gB H
    rcases H with⟨rfl,H⟩|⟨rfl,H⟩
    ·replace H:=gD H
     obtain⟨t679,A22,H⟩:=H
     replace H:=gB H
     rcases H with⟨rfl,H⟩|⟨rfl,H⟩
     ·exact impl_UrlOk.e1
     ·replace H:=gB H
      rcases H with⟨rfl,H⟩|⟨rfl,H⟩
      ·replace H:=gD H
       obtain⟨t680,A26,H⟩:=H
       exact impl_UrlOk.e1
      ·replace H:=gI H
       rcases H with⟨c29,-,-,H⟩|⟨c29,-,-,H⟩
       ·have c29b0:(a0_3.toList==([]:List UInt8))=true:=beq_iff_eq.mpr c29
        have c29b1:(a0_3.toList != ([]:List UInt8))=false:=bne_eq_false_iff_eq.mpr c29
        clear c29
        replace H:=gD H
        obtain⟨t681,A30,H⟩:=H
        exact impl_UrlOk.e1
       ·have c29b0:(a0_3.toList==([]:List UInt8))=false:=beq_eq_false_iff_ne.mpr c29
        have c29b1:(a0_3.toList != ([]:List UInt8))=true:=bne_iff_ne.mpr c29
        exact impl_UrlOk.e1
    ·exact impl_UrlOk.e1


mutual
def impl_ReadUrl.j0 : Nat→ByteArray→Bool→Option (ByteArray×Int×ByteArray×ByteArray×Bool×Bool)
 |0,_,_=>none
 |k+1,x0,x34=>if x34=true then(some ((⟨#[]⟩:ByteArray),0,(⟨#[]⟩:ByteArray),(⟨#[]⟩:ByteArray),false,false)) else(if 7≤(x0.size:Int) then((strings_IndexAny.f (x0.extract 7 x0.size) (⟨#[47,63]⟩:ByteArray)).bind fun t686=>(if t686<0 then(impl_ReadUrl.j1 k (x0.extract 7 x0.size) ((x0.extract 7 x0.size).size:Int)) else(impl_ReadUrl.j1 k (x0.extract 7 x0.size) t686))) else(none))
def impl_ReadUrl.j1 : Nat→ByteArray→Int→Option (ByteArray×Int×ByteArray×ByteArray×Bool×Bool)
 |0,_,_=>none
 |k+1,x4,x5=>if 0≤x5 then(if x5≤(x4.size:Int) then((strings_Cut.f (x4.extract 0 (x5:Int).toNat) (⟨#[58]⟩:ByteArray)).bind fun bt687=>((impl_readPath.f (x4.extract (x5:Int).toNat x4.size)).bind fun bt690=>((impl_Fold.f bt687.1).bind fun t696=>(if bt687.2.2=true then((impl_ReadDec.f bt687.2.1).bind fun bt697=>(if bt697.2=true then(impl_ReadUrl.j2 k t696 bt697.1 bt690.2.2.1 bt690.2.2.2.1 bt690.2.2.2.2) else(some ((⟨#[]⟩:ByteArray),0,(⟨#[]⟩:ByteArray),(⟨#[]⟩:ByteArray),false,false)))) else(impl_ReadUrl.j2 k t696 80 bt690.2.2.1 bt690.2.2.2.1 bt690.2.2.2.2))))) else(none)) else(none)
def impl_ReadUrl.j2 : Nat→ByteArray→Int→ByteArray→ByteArray→Bool→Option (ByteArray×Int×ByteArray×ByteArray×Bool×Bool)
 |0,_,_,_,_,_=>none
 |k+1,x696000,x696001,x696002,x696003,x696004=>if x696002.toList=([]:List UInt8) then(impl_ReadUrl.j3 k x696000 x696001 (⟨#[47]⟩:ByteArray) x696003 x696004) else(impl_ReadUrl.j3 k x696000 x696001 x696002 x696003 x696004)
def impl_ReadUrl.j3 : Nat→ByteArray→Int→ByteArray→ByteArray→Bool→Option (ByteArray×Int×ByteArray×ByteArray×Bool×Bool)
 |0,_,_,_,_,_=>none
 |k+1,x696000,x696001,x696002,x696003,x696004=>(impl_CleanPath.f k x696002).bind fun t699=>((impl_UrlOk.f k x696000 x696001 t699 x696003 x696004).bind fun t700=>(if t700=true then(some (x696000,x696001,t699,x696003,x696004,true)) else(some ((⟨#[]⟩:ByteArray),0,(⟨#[]⟩:ByteArray),(⟨#[]⟩:ByteArray),false,false))))
end
def impl_ReadUrl.f (k:Nat) (a0:ByteArray):Option (ByteArray×Int×ByteArray×ByteArray×Bool×Bool):=if(a0.size:Int)>200 then(impl_ReadUrl.j0 k a0 true) else((impl_all__impl_isVisible.f k a0).bind fun t683=>(if t683=true then((strings_Contains.f a0 (⟨#[35]⟩:ByteArray)).bind fun t684=>(if t684=true then(impl_ReadUrl.j0 k a0 true) else(if(a0.size:Int)<7 then(impl_ReadUrl.j0 k a0 true) else(if 0≤7 then(if 7≤(a0.size:Int) then((impl_Fold.f (a0.extract 0 7)).bind fun t685=>(impl_ReadUrl.j0 k a0 (t685.toList != ([104,116,116,112,58,47,47]:List UInt8)))) else(none)) else(none))))) else(impl_ReadUrl.j0 k a0 true)))
theorem impl_ReadUrl.e0 {p:Prop} (h:p:=by
  have H':=Aside0.mk H
  clear H
  go_wp2_with(first|(go_at_call 107;(with_reducible refine(impl_all__impl_isVisible.calls k a0  false _ A5.out).mono ?_);rintro e w' ⟨rfl,⟨nd,rfl⟩⟩)|(go_at_call 107;(with_reducible refine(impl_all__impl_isVisible.calls k a0  true _ A5.out).mono ?_);rintro e w' ⟨rfl,⟨nd,rfl⟩⟩)|(go_at_call 148;(with_reducible refine(strings_Contains.calls a0 (⟨#[35]⟩:ByteArray) false _ A7.out ?hT).mono ?_);(case hT=>exact tab_go HT);rintro e w' ⟨rfl,⟨nd,rfl⟩⟩)|(go_at_call 148;(with_reducible refine(strings_Contains.calls a0 (⟨#[35]⟩:ByteArray) true _ A7.out ?hT).mono ?_);(case hT=>exact tab_go HT);rintro e w' ⟨rfl,⟨nd,rfl⟩⟩))
  go_meet
  case rel=>exact⟨_,(true),gq4,H',⟨gq8⟩,⟨gBk⟩,⟨gBe⟩⟩):p:=h
theorem impl_ReadUrl.e1 {p:Prop} (h:p:=by
  go_wp2_with(first|((with_reducible refine gate_callee (f:=152) rfl ?_);refine goesL_ (some 77) rfl rfl Tryz.func152 (by kernel_rfl) rfl #[.string x696002_43] rfl gq0 ?_;(with_reducible refine(impl_CleanPath.calls kj43 x696002_43 t699 _ A50.out).mono ?_);rintro e wq3a ⟨rfl,hb⟩;refine⟨_,rfl,?_⟩;replace BK682:=blA (g:=gb682) hb;replace BK695:=blA (g:=gb695) hb;replace HB:=beA hb;(try clear hb);(try clear hb2);(try clear hk);(try clear hi);obtain⟨_,_,_,_,_⟩:=czA5 BK695;obtain⟨_,_,_,_,_⟩:=cfA5 BK695)|((with_reducible refine gate_callee (f:=153) rfl ?_);refine goesL_ (some 80) rfl rfl Tryz.func153 (by kernel_rfl) rfl #[.agg #[.string t696,.int .i64 x696001_27,.string t699,.string t693,.bool t694]] rfl gq0 ?_;(with_reducible refine(impl_UrlOk.calls kj43 t696 x696001_27 t699 t693 t694 false _ A51.out ?hT).mono ?_);(case hT=>exact tab_go HT);rintro e wq5a ⟨rfl,hb⟩;refine⟨_,rfl,?_⟩;replace BK682:=blA (g:=gb682) hb;replace BK695:=blA (g:=gb695) (o:=.cells #[.string t696,.int .i64 x696001_27,.string t699,.string t693,.bool t694] 92 (0,0)) hb;replace HB:=beA hb;(try clear hb);(try clear hb2);(try clear hk);(try clear hi);obtain⟨_,_,_,_,_⟩:=czA5 BK682;obtain⟨_,_,_,_,_⟩:=cfA5 BK682)|((with_reducible refine gate_callee (f:=151) rfl ?_);refine goesL_ (some 63) rfl rfl Tryz.func151 (by kernel_rfl) rfl #[.string t688] rfl gq0 ?_;(with_reducible refine(impl_ReadDec.calls t688 t697 false _ A36.out ?hT).mono ?_);(case hT=>exact tab_go HT);rintro e wq2a ⟨rfl,hb⟩;refine⟨_,rfl,?_⟩;replace BK682:=blA (g:=gb682) hb;replace BK695:=blA (g:=gb695) (o:=.cells #[.string t696,.int .i64 80,.string t692,.string t693,.bool t694] 92 (0,0)) hb;replace HB:=beA hb;(try clear hb);(try clear hb2);(try clear hk);(try clear hi);have hnb42:=NB682_695.out;have hnc42:=NB695_682.out;obtain⟨_,_,_,_,_⟩:=czA5 BK682;obtain⟨_,_,_,_,_⟩:=cfA5 BK682))
  refine rctA gb682 92 #[.string (⟨#[]⟩:ByteArray),.int .i64 0,.string (⟨#[]⟩:ByteArray),.string (⟨#[]⟩:ByteArray),.bool false] Tryz.underlying92 ?_
  exact⟨gq2,gBe⟩):p:=h
set_option maxHeartbeats 8000000 in
set_option maxRecDepth 100000 in
theorem impl_ReadUrl.calls (k:Nat) (a0:ByteArray) (r1:ByteArray) (r2:Int) (r3:ByteArray) (r4:ByteArray) (r5:Bool) (r6:Bool) (w:World) (h:impl_ReadUrl.f k a0=some (r1,r2,r3,r4,r5,r6)) (HT0:Tab10 w) :
  Calls Tryz.prog 104 #[.string a0] w fun e w'=>e = .returned (.tuple #[.agg #[.string r1,.int .i64 r2,.string r3,.string r4,.bool r5],.bool r6])∧Below w.heap.size w w':=by
 have HT:=Aside0.mk HT0
 clear HT0
 have hu92:=Tryz.underlying92
 have HB:=Aside0.mk (Below.refl w.heap.size w)
 have H:=h
 clear h
 unfold impl_ReadUrl.f at H
 have HC2:=Aside0.mk H
 clear H
 go_enter Tryz.func104,Tryz.ntmps104
 go_upto_region 1 with(first|((with_reducible refine gate_dst (N:=2) rfl ?_);refine boxG #[.string (⟨#[]⟩:ByteArray),.int .i64 0,.string (⟨#[]⟩:ByteArray),.string (⟨#[]⟩:ByteArray),.bool false] 92 ?_;intro gb682 hg w3 hbox hb;have BK682:=Aside0.mk (hbox);have GE682:=geA hg;replace HB:=beA hb;clear hb hbox hg))
 (try simp only[Act.put,List.setIfInBounds_toArray,List.set_cons_zero,List.set_cons_succ])
 go_cut [34] (fun v34 wc=>∃(kq:Nat) (x34_1:Bool),v34 = .bool x34_1∧Aside0 (impl_ReadUrl.j0 kq a0 x34_1=some (r1,r2,r3,r4,r5,r6))∧Aside0 (kq≤k)∧Aside0 (wc.heap[gb682]? = some (.cells #[.string (⟨#[]⟩:ByteArray),.int .i64 0,.string (⟨#[]⟩:ByteArray),.string (⟨#[]⟩:ByteArray),.bool false] 92 (0,0)))∧Aside0 (Below w.heap.size w wc))
 case first=>
  have H:=HC2.out
  clear HC2
  replace H:=gI H
  rcases H with⟨c4,-,-,H⟩|⟨c4,-,-,H⟩
  ·have c4b0:decide (200<(a0.size:Int))=true:=decide_eq_true c4
   have c4b1:decide (200<a0.size)=true:=decide_eq_true (by omega)
   clear c4
   (first|rw[c4b0]|(simp only[i64_w,i32_w];rw[c4b0])|skip)
   have H':=Aside0.mk H
   clear H
   go_wp2
   go_meet
   case rel=>exact⟨_,(true),gq4,H',⟨gq8⟩,⟨gBk⟩,⟨gBe⟩⟩
  ·have c4b0:decide (200<(a0.size:Int))=false:=decide_eq_false c4
   have c4b1:decide (200<a0.size)=false:=decide_eq_false (by omega)
   clear c4
   (first|rw[c4b0]|(simp only[i64_w,i32_w];rw[c4b0])|skip)
   replace H:=gD H
   obtain⟨t683,A5,H⟩:=H
   replace H:=gB H
   rcases H with⟨rfl,H⟩|⟨rfl,H⟩
   ·replace H:=gD H
    obtain⟨t684,A7,H⟩:=H
    replace H:=gB H
    rcases H with⟨rfl,H⟩|⟨rfl,H⟩
    ·exact impl_ReadUrl.e0
    ·replace H:=gI H
     rcases H with⟨c9,c9b0,-,H⟩|⟨c9,c9b0,-,H⟩
     ·have c9b1:decide (a0.size<7)=true:=decide_eq_true (by omega)
      clear c9
      exact impl_ReadUrl.e0
     ·have c9b1:decide (a0.size<7)=false:=decide_eq_false (by omega)
      clear c9
      replace H:=gN H
      obtain⟨-,c10b1,c10b0,H⟩:=H
      replace H:=gN H
      obtain⟨-,c11b1,c11b0,H⟩:=H
      replace H:=gD H
      obtain⟨t685,A12,H⟩:=H
      have H':=Aside0.mk H
      clear H
      go_wp2_with(first|(go_at_call 107;(with_reducible refine(impl_all__impl_isVisible.calls k a0  true _ A5.out).mono ?_);rintro e w' ⟨rfl,⟨nd,rfl⟩⟩)|(go_at_call 148;(with_reducible refine(strings_Contains.calls a0 (⟨#[35]⟩:ByteArray) false _ A7.out ?hT).mono ?_);(case hT=>exact tab_go HT);rintro e w' ⟨rfl,⟨nd,rfl⟩⟩)|(go_at_call 89;(with_reducible refine(impl_Fold.calls (a0.extract 0 7) t685 _ A12.out).mono ?_);rintro e wq0a ⟨rfl,hb⟩;replace BK682:=blA (g:=gb682) hb;replace HB:=beA hb;(try clear hb);(try clear hb2);(try clear hk);(try clear hi)))
      go_meet
      case rel=>exact⟨_,((t685.toList != ([104,116,116,112,58,47,47]:List UInt8))),gq4,H',⟨gq8⟩,⟨gBk⟩,⟨gBe⟩⟩
   ·exact impl_ReadUrl.e0
 case rest=>
  clear HC2
  obtain⟨kq,x34_1,rfl,HA,HJ1,BK682,HB⟩:=hcut
  cases kq with
  |zero=>exact absurd HA.out (by simp[impl_ReadUrl.j0])
  |succ kj1=>
   have H:=HA.out
   clear HA
   simp only[impl_ReadUrl.j0] at H
   replace H:=gB H
   rcases H with⟨rfl,H⟩|⟨rfl,H⟩
   ·simp only[Option.some.injEq,Prod.mk.injEq] at H
    obtain⟨rfl,rfl,rfl,rfl,rfl,rfl⟩:=H
    obtain⟨_,_,_,_,_⟩:=czA5 BK682
    obtain⟨_,_,_,_,_⟩:=cfA5 BK682
    go_wp2
    refine rctA gb682 92 #[.string (⟨#[]⟩:ByteArray),.int .i64 0,.string (⟨#[]⟩:ByteArray),.string (⟨#[]⟩:ByteArray),.bool false] Tryz.underlying92 ?_
    exact⟨gq2,gBe⟩
   ·obtain⟨zp0,hzp0⟩:∃ z_:ByteArray,a0.extract 7 a0.size=z_:=⟨_,rfl⟩
    rw[hzp0] at H
    replace H:=gI H
    rcases H with⟨-,c16b1,c16b0,H⟩|⟨c16,-,-,H⟩
    ·replace H:=gD H
     obtain⟨t686,A17,H⟩:=H
     have HC18:=Aside0.mk H
     clear H
     go_upto_if 41 with(first|((with_reducible refine gate_callee (f:=149) rfl ?_);refine goesL_ (some 39) rfl rfl Tryz.func149 (by kernel_rfl) rfl #[.string zp0,.string (⟨#[47,63]⟩:ByteArray)] rfl gq0 ?_;(with_reducible refine(strings_IndexAny.calls zp0 (⟨#[47,63]⟩:ByteArray) t686 _ A17.out).mono ?_);rintro e w19 ⟨rfl,hb⟩;refine⟨_,rfl,?_⟩;have n0_:=blA (g:=gb682) hb;have n1_:=beA hb;clear BK682;clear HB;have BK682:=n0_;have HB:=n1_;clear n0_ n1_;(try clear hb);(try clear hb2);(try clear hk);(try clear hi)))
     (try simp only[Act.put,List.setIfInBounds_toArray,List.set_cons_zero,List.set_cons_succ])
     go_cut [5] (fun v5 wc=>∃(kq:Nat) (x5_17:Int),v5 = .int .i64 x5_17∧Aside0 (impl_ReadUrl.j1 kq zp0 x5_17=some (r1,r2,r3,r4,r5,r6))∧Aside0 (kq≤kj1)∧Aside0 (wc.heap[gb682]? = some (.cells #[.string (⟨#[]⟩:ByteArray),.int .i64 0,.string (⟨#[]⟩:ByteArray),.string (⟨#[]⟩:ByteArray),.bool false] 92 (0,0)))∧Aside0 (Below w.heap.size w wc))
     case first=>
      have H:=HC18.out
      clear HC18
      replace H:=gI H
      rcases H with⟨-,c20b0,-,H⟩|⟨-,c20b0,-,H⟩
      ·(first|rw[c20b0]|(simp only[i64_w,i32_w];rw[c20b0])|skip)
       have H':=Aside0.mk H
       clear H
       go_wp2
       go_meet
       case rel=>exact⟨_,((zp0.size:Int)),gq4,H',⟨gq53⟩,⟨gBk⟩,⟨gBe⟩⟩
      ·(first|rw[c20b0]|(simp only[i64_w,i32_w];rw[c20b0])|skip)
       have H':=Aside0.mk H
       clear H
       go_wp2
       go_meet
       case rel=>exact⟨_,(t686),gq4,H',⟨gq53⟩,⟨gBk⟩,⟨gBe⟩⟩
     case rest=>
      clear HC18
      try clear c16
      try clear c16b0
      try clear c16b1
      obtain⟨kq,x5_17,rfl,HA,HJ17,BK682,HB⟩:=hcut
      cases kq with
      |zero=>exact absurd HA.out (by simp[impl_ReadUrl.j1])
      |succ kj17=>
       have H:=HA.out
       clear HA
       simp only[impl_ReadUrl.j1] at H
       replace H:=gN H
       obtain⟨-,c21b1,c21b0,H⟩:=H
       replace H:=gN H
       obtain⟨-,c22b1,c22b0,H⟩:=H
       replace H:=gD H
       obtain⟨⟨t687,t688,t689⟩,A23,H⟩:=H
       dsimp only at H
       have c24b0:=eq_true (of_decide_eq_true gq3:0≤x5_17)
       have c25b0:=eq_true (of_decide_eq_true gq3:x5_17≤(zp0.size:Int))
       replace H:=gD H
       obtain⟨⟨t690,t691,t692,t693,t694⟩,A26,H⟩:=H
       dsimp only at H
       replace H:=gD H
       obtain⟨t696,A27,H⟩:=H
       have HC28:=Aside0.mk H
       clear H
       go_upto_if 60 with(first|((with_reducible refine gate_callee (f:=86) rfl ?_);refine goesL_ (some 48) rfl rfl Tryz.func86 (by kernel_rfl) rfl #[.string (zp0.extract 0 (x5_17:Int).toNat),.string (⟨#[58]⟩:ByteArray)] rfl gq0 ?_;(with_reducible refine(strings_Cut.calls (zp0.extract 0 (x5_17:Int).toNat) (⟨#[58]⟩:ByteArray) t687 t688 t689 _ A23.out ?hT).mono ?_);(case hT=>exact tab_go HT);rintro e w' ⟨rfl,⟨nd,rfl⟩⟩;refine⟨_,rfl,?_⟩;(try(rw[drewN_self wc];generalize hq_:World.drewN wc _=wc;have n0_:Aside0 (wc.heap[gb682]? = some (.cells #[.string (⟨#[]⟩:ByteArray),.int .i64 0,.string (⟨#[]⟩:ByteArray),.string (⟨#[]⟩:ByteArray),.bool false] 92 (0,0))):=⟨by rw[← hq_];exact(by(with_reducible repeat(first|refine blk_drewN ?_ _|refine blk_drew ?_|refine blk_alloc ?_ _));exact BK682.out)⟩;have n1_:Aside0 (Below w.heap.size w wc):=⟨by rw[← hq_];exact gBe⟩;clear BK682 HB hq_;have BK682:=n0_;have HB:=n1_;clear n0_ n1_)))|((with_reducible refine gate_callee (f:=150) rfl ?_);refine goesL_ (some 55) rfl rfl Tryz.func150 (by kernel_rfl) rfl #[.string (zp0.extract (x5_17:Int).toNat zp0.size)] rfl gq0 ?_;(with_reducible refine(impl_readPath.calls (zp0.extract (x5_17:Int).toNat zp0.size) t690 t691 t692 t693 t694 _ A26.out ?hT).mono ?_);(case hT=>exact tab_go HT);rintro e w29 ⟨rfl,hb⟩;refine⟨_,rfl,?_⟩;have n0_:=blA (g:=gb682) hb;have n1_:=beA hb;clear BK682;clear HB;have BK682:=n0_;have HB:=n1_;clear n0_ n1_;(try clear hb);(try clear hb2);(try clear hk);(try clear hi))|((with_reducible refine gate_dst (N:=9) rfl ?_);refine boxG #[.string (⟨#[]⟩:ByteArray),.int .i64 0,.string (⟨#[]⟩:ByteArray),.string (⟨#[]⟩:ByteArray),.bool false] 92 ?_;intro gb695 hg w30 hbox hb;have n0_:=blA (g:=gb682) hb;have n1_:=beA hb;have n2_:=Aside0.mk (hbox);have n3_:=geA hg;have n4_:=geA hg;have n5_:=neA (g:=gb682) hg;have n6_:=neB n5_;clear BK682;clear HB;have BK682:=n0_;have HB:=n1_;have BK695:=n2_;have GW695:=n3_;have GE695:=n4_;have NB682_695:=n5_;have NB695_682:=n6_;clear n0_ n1_ n2_ n3_ n4_ n5_ n6_;clear hb hbox hg;have hnb31:=NB695_682.out;have hnc31:=NB682_695.out;obtain⟨_,_,_,_,_⟩:=czA5 BK695;obtain⟨_,_,_,_,_⟩:=cfA5 BK695)|((with_reducible refine gate_callee (f:=89) rfl ?_);refine goesL_ (some 57) rfl rfl Tryz.func89 (by kernel_rfl) rfl #[.string t687] rfl gq0 ?_;(with_reducible refine(impl_Fold.calls t687 t696 _ A27.out).mono ?_);rintro e w33 ⟨rfl,hb⟩;refine⟨_,rfl,?_⟩;have n0_:=blA (g:=gb682) hb;have n1_:=blA (g:=gb695) (o:=.cells #[.string t690,.int .i64 t691,.string t692,.string t693,.bool t694] 92 (0,0)) hb;have n2_:=beA hb;clear BK682;clear BK695;clear HB;have BK682:=n0_;have BK695:=n1_;have HB:=n2_;clear n0_ n1_ n2_;(try clear hb);(try clear hb2);(try clear hk);(try clear hi);obtain⟨_,_,_,_,_⟩:=czA5 BK695;obtain⟨_,_,_,_,_⟩:=cfA5 BK695))
       (try simp only[Act.put,List.setIfInBounds_toArray,List.set_cons_zero,List.set_cons_succ])
       go_cut [] (fun wc=>∃(kq:Nat) (x683000_27:ByteArray) (x683001_27:Int) (x683002_27:ByteArray) (x683003_27:ByteArray) (x683004_27:Bool) (x696001_27:Int),Aside0 (impl_ReadUrl.j2 kq t696 x696001_27 t692 t693 t694=some (r1,r2,r3,r4,r5,r6))∧Aside0 (kq≤kj17)∧Aside0 (wc.heap[gb682]? = some (.cells #[.string x683000_27,.int .i64 x683001_27,.string x683002_27,.string x683003_27,.bool x683004_27] 92 (0,0)))∧Aside0 (wc.heap[gb695]? = some (.cells #[.string t696,.int .i64 x696001_27,.string t692,.string t693,.bool t694] 92 (0,0)))∧Aside0 (Below w.heap.size w wc))
       case first=>
        have H:=HC28.out
        clear HC28
        replace H:=gB H
        rcases H with⟨rfl,H⟩|⟨rfl,H⟩
        ·replace H:=gD H
         obtain⟨⟨t697,t698⟩,A36,H⟩:=H
         dsimp only at H
         replace H:=gB H
         rcases H with⟨rfl,H⟩|⟨rfl,H⟩
         ·have H':=Aside0.mk H
          clear H
          go_wp2_with(((with_reducible refine gate_callee (f:=151) rfl ?_);refine goesL_ (some 63) rfl rfl Tryz.func151 (by kernel_rfl) rfl #[.string t688] rfl gq0 ?_;(with_reducible refine(impl_ReadDec.calls t688 t697 true _ A36.out ?hT).mono ?_);(case hT=>exact tab_go HT);rintro e wq1a ⟨rfl,hb⟩;refine⟨_,rfl,?_⟩;replace BK682:=blA (g:=gb682) hb;replace BK695:=blA (g:=gb695) (o:=.cells #[.string t696,.int .i64 80,.string t692,.string t693,.bool t694] 92 (0,0)) hb;replace HB:=beA hb;(try clear hb);(try clear hb2);(try clear hk);(try clear hi);have hnb39:=NB695_682.out;have hnc39:=NB682_695.out;obtain⟨_,_,_,_,_⟩:=czA5 BK695;obtain⟨_,_,_,_,_⟩:=cfA5 BK695))
          go_meet
          case rel=>exact⟨_,((⟨#[]⟩:ByteArray)),(0),((⟨#[]⟩:ByteArray)),((⟨#[]⟩:ByteArray)),(false),(t697),H',⟨by have:=HJ1.out;have:=HJ17.out;first|omega|exact Nat.le_refl _⟩,⟨gBk⟩,⟨gBk⟩,⟨gBe⟩⟩
         ·simp only[Option.some.injEq,Prod.mk.injEq] at H
          obtain⟨rfl,rfl,rfl,rfl,rfl,rfl⟩:=H
          exact impl_ReadUrl.e1
        ·have H':=Aside0.mk H
         clear H
         go_wp2
         go_meet
         case rel=>exact⟨_,((⟨#[]⟩:ByteArray)),(0),((⟨#[]⟩:ByteArray)),((⟨#[]⟩:ByteArray)),(false),(80),H',⟨by have:=HJ1.out;have:=HJ17.out;first|omega|exact Nat.le_refl _⟩,⟨gBk⟩,⟨gBk⟩,⟨gBe⟩⟩
       case rest=>
        clear HC28
        try clear c16
        try clear c16b0
        try clear c16b1
        try clear c21b0
        try clear c21b1
        try clear c22b0
        try clear c22b1
        try clear c24b0
        try clear c25b0
        obtain⟨kq,x683000_27,x683001_27,x683002_27,x683003_27,x683004_27,x696001_27,HA,HJ27,BK682,BK695,HB⟩:=hcut
        cases kq with
        |zero=>exact absurd HA.out (by simp[impl_ReadUrl.j2])
        |succ kj27=>
         have H:=HA.out
         clear HA
         simp only[impl_ReadUrl.j2] at H
         have HC44:=Aside0.mk H
         clear H
         have hnb45:=NB695_682.out
         have hnc45:=NB682_695.out
         obtain⟨_,_,_,_,_⟩:=czA5 BK695
         obtain⟨_,_,_,_,_⟩:=cfA5 BK695
         go_upto_if 73 with(fail)
         go_cut [] (fun wc=>∃(kq:Nat) (x696002_43:ByteArray),Aside0 (impl_ReadUrl.j3 kq t696 x696001_27 x696002_43 t693 t694=some (r1,r2,r3,r4,r5,r6))∧Aside0 (kq≤kj27)∧Aside0 (wc.heap[gb682]? = some (.cells #[.string x683000_27,.int .i64 x683001_27,.string x683002_27,.string x683003_27,.bool x683004_27] 92 (0,0)))∧Aside0 (wc.heap[gb695]? = some (.cells #[.string t696,.int .i64 x696001_27,.string x696002_43,.string t693,.bool t694] 92 (0,0)))∧Aside0 (Below w.heap.size w wc))
         case first=>
          have H:=HC44.out
          clear HC44
          replace H:=gI H
          rcases H with⟨c47,-,-,H⟩|⟨c47,-,-,H⟩
          ·have c47b0:(t692.toList==([]:List UInt8))=true:=beq_iff_eq.mpr c47
           have c47b4:t692.toList.isEmpty=true:=List.isEmpty_iff.mpr c47
           have c47b1:(t692.toList != ([]:List UInt8))=false:=bne_eq_false_iff_eq.mpr c47
           clear c47
           (first|rw[c47b0]|rw[c47b4]|(simp only[i64_w,i32_w];rw[c47b0])|skip)
           have H':=Aside0.mk H
           clear H
           have hnb48:=NB695_682.out
           have hnc48:=NB682_695.out
           obtain⟨_,_,_,_,_⟩:=czA5 BK695
           obtain⟨_,_,_,_,_⟩:=cfA5 BK695
           go_wp2
           go_meet
           case rel=>exact⟨_,((⟨#[47]⟩:ByteArray)),H',⟨by have:=HJ1.out;have:=HJ17.out;have:=HJ27.out;first|omega|exact Nat.le_refl _⟩,⟨gBk⟩,⟨gBk⟩,⟨gBe⟩⟩
          ·have c47b0:(t692.toList==([]:List UInt8))=false:=beq_eq_false_iff_ne.mpr c47
           have c47b4:t692.toList.isEmpty=false:=Bool.eq_false_iff.mpr (fun h_=>c47 (List.isEmpty_iff.mp h_))
           have c47b1:(t692.toList != ([]:List UInt8))=true:=bne_iff_ne.mpr c47
           (first|rw[c47b0]|rw[c47b4]|(simp only[i64_w,i32_w];rw[c47b0])|skip)
           have H':=Aside0.mk H
           clear H
           go_wp2
           go_meet
           case rel=>exact⟨_,(t692),H',⟨by have:=HJ1.out;have:=HJ17.out;have:=HJ27.out;first|omega|exact Nat.le_refl _⟩,⟨gBk⟩,⟨gBk⟩,⟨gBe⟩⟩
         case rest=>
          clear HC44
          try clear c16
          try clear c16b0
          try clear c16b1
          try clear c21b0
          try clear c21b1
          try clear c22b0
          try clear c22b1
          try clear c24b0
          try clear c25b0
          obtain⟨kq,x696002_43,HA,HJ43,BK682,BK695,HB⟩:=hcut
          cases kq with
          |zero=>exact absurd HA.out (by simp[impl_ReadUrl.j3])
          |succ kj43=>
           have H:=HA.out
           clear HA
           simp only[impl_ReadUrl.j3] at H
           replace H:=gD H
           obtain⟨t699,A50,H⟩:=H
           replace H:=gD H
           obtain⟨t700,A51,H⟩:=H
           replace H:=gB H
           rcases H with⟨rfl,H⟩|⟨rfl,H⟩
           ·simp only[Option.some.injEq,Prod.mk.injEq] at H
            obtain⟨rfl,rfl,rfl,rfl,rfl,rfl⟩:=H
            have hnb53:=NB695_682.out
            have hnc53:=NB682_695.out
            obtain⟨_,_,_,_,_⟩:=czA5 BK695
            obtain⟨_,_,_,_,_⟩:=cfA5 BK695
            go_wp2_with(first|((with_reducible refine gate_callee (f:=152) rfl ?_);refine goesL_ (some 77) rfl rfl Tryz.func152 (by kernel_rfl) rfl #[.string x696002_43] rfl gq0 ?_;(with_reducible refine(impl_CleanPath.calls kj43 x696002_43 t699 _ A50.out).mono ?_);rintro e wq3a ⟨rfl,hb⟩;refine⟨_,rfl,?_⟩;replace BK682:=blA (g:=gb682) hb;replace BK695:=blA (g:=gb695) hb;replace HB:=beA hb;(try clear hb);(try clear hb2);(try clear hk);(try clear hi);obtain⟨_,_,_,_,_⟩:=czA5 BK695;obtain⟨_,_,_,_,_⟩:=cfA5 BK695)|((with_reducible refine gate_callee (f:=153) rfl ?_);refine goesL_ (some 80) rfl rfl Tryz.func153 (by kernel_rfl) rfl #[.agg #[.string t696,.int .i64 x696001_27,.string t699,.string t693,.bool t694]] rfl gq0 ?_;(with_reducible refine(impl_UrlOk.calls kj43 t696 x696001_27 t699 t693 t694 true _ A51.out ?hT).mono ?_);(case hT=>exact tab_go HT);rintro e wq4a ⟨rfl,hb⟩;refine⟨_,rfl,?_⟩;replace BK682:=blA (g:=gb682) hb;replace BK695:=blA (g:=gb695) (o:=.cells #[.string t696,.int .i64 x696001_27,.string t699,.string t693,.bool t694] 92 (0,0)) hb;replace HB:=beA hb;(try clear hb);(try clear hb2);(try clear hk);(try clear hi);obtain⟨_,_,_,_,_⟩:=czA5 BK695;obtain⟨_,_,_,_,_⟩:=cfA5 BK695;obtain⟨_,_,_,_,_⟩:=czA5 BK682;obtain⟨_,_,_,_,_⟩:=cfA5 BK682))
            refine rctA gb682 92 #[.string t696,.int .i64 x696001_27,.string t699,.string t693,.bool t694] Tryz.underlying92 ?_
            exact⟨gq2,gBe⟩
           ·simp only[Option.some.injEq,Prod.mk.injEq] at H
            obtain⟨rfl,rfl,rfl,rfl,rfl,rfl⟩:=H
            have hnb60:=NB695_682.out
            have hnc60:=NB682_695.out
            obtain⟨_,_,_,_,_⟩:=czA5 BK695
            obtain⟨_,_,_,_,_⟩:=cfA5 BK695
            exact impl_ReadUrl.e1
    ·exact absurd H (by simp)


def impl_Canon.f (k:Nat) (a0:ByteArray):Option (ByteArray×Bool):=(impl_ReadUrl.f k a0).bind fun bt701=>(if bt701.2.2.2.2.2=true then((impl_urlText.f bt701.1 bt701.2.1 bt701.2.2.1 bt701.2.2.2.1 bt701.2.2.2.2.1).bind fun t708=>(some (t708,true))) else(some ((⟨#[]⟩:ByteArray),false)))
theorem impl_Canon.e0 {p:Prop} (h:p:=by
  go_enter Tryz.func64,Tryz.ntmps64
  go_wp2_with(first|((with_reducible refine gate_callee (f:=104) rfl ?_);refine goesL_ (some 8) rfl rfl Tryz.func104 (by kernel_rfl) rfl #[.string a0] rfl gq0 ?_;(with_reducible refine(impl_ReadUrl.calls k a0 t701 t702 t703 t704 t705 false _ A2.out ?hT).mono ?_);(case hT=>exact tab_go HT);rintro e wq3a ⟨rfl,hb⟩;refine⟨_,rfl,?_⟩;replace HB:=beA hb;(try clear hb);(try clear hb2);(try clear hk);(try clear hi))|((with_reducible refine gate_callee (f:=104) rfl ?_);refine goesL_ (some 8) rfl rfl Tryz.func104 (by kernel_rfl) rfl #[.string a0] rfl gq0 ?_;(with_reducible refine(impl_ReadUrl.calls k a0 t701 t702 t703 t704 t705 true _ A2.out ?hT).mono ?_);(case hT=>exact tab_go HT);rintro e wq0a ⟨rfl,hb⟩;refine⟨_,rfl,?_⟩;replace HB:=beA hb;(try clear hb);(try clear hb2);(try clear hk);(try clear hi))|((with_reducible refine gate_dst (N:=4) rfl ?_);refine boxA #[.string (⟨#[]⟩:ByteArray),.int .i64 0,.string (⟨#[]⟩:ByteArray),.string (⟨#[]⟩:ByteArray),.bool false] 92 ?_;intro gb707 hg wq1a hbox hb;have BK707:=Aside0.mk (hbox);have GW707:=geA hg;have GE707:=geA hg;replace HB:=beA hb;clear hb hbox hg;obtain⟨_,_,_,_,_⟩:=czA5 BK707;obtain⟨_,_,_,_,_⟩:=cfA5 BK707)|((with_reducible refine gate_callee (f:=105) rfl ?_);refine goesL_ (some 14) rfl rfl Tryz.func105 (by kernel_rfl) rfl #[.agg #[.string t701,.int .i64 t702,.string t703,.string t704,.bool t705]] rfl gq0 ?_;(with_reducible refine(impl_urlText.calls t701 t702 t703 t704 t705 t708 _ A4.out ?hT).mono ?_);(case hT=>exact tab_go HT);rintro e wq2a ⟨rfl,hb⟩;refine⟨_,rfl,?_⟩;replace BK707:=blA (g:=gb707) (o:=.cells #[.string t701,.int .i64 t702,.string t703,.string t704,.bool t705] 92 (0,0)) hb;replace HB:=beA hb;(try clear hb);(try clear hb2);(try clear hk);(try clear hi)))
  go_ret2
  exact⟨gq2,gBe⟩):p:=h
set_option maxHeartbeats 8000000 in
set_option maxRecDepth 100000 in
theorem impl_Canon.calls (k:Nat) (a0:ByteArray) (r1:ByteArray) (r2:Bool) (w:World) (h:impl_Canon.f k a0=some (r1,r2)) (HT0:Tab10 w) :
  Calls Tryz.prog 64 #[.string a0] w fun e w'=>e = .returned (.tuple #[.string r1,.bool r2])∧Below w.heap.size w w':=by
 have HT:=Aside0.mk HT0
 clear HT0
 have hu92:=Tryz.underlying92
 have HB:=Aside0.mk (Below.refl w.heap.size w)
 have H:=h
 clear h
 unfold impl_Canon.f at H
 replace H:=gD H
 obtain⟨⟨t701,t702,t703,t704,t705,t706⟩,A2,H⟩:=H
 dsimp only at H
 replace H:=gB H
 rcases H with⟨rfl,H⟩|⟨rfl,H⟩
 ·replace H:=gD H
  obtain⟨t708,A4,H⟩:=H
  simp only[Option.some.injEq,Prod.mk.injEq] at H
  obtain⟨rfl,rfl⟩:=H
  exact impl_Canon.e0
 ·simp only[Option.some.injEq,Prod.mk.injEq] at H
  obtain⟨rfl,rfl⟩:=H
  exact impl_Canon.e0

def impl_isCanonical.f (k:Nat) (a0:ByteArray):Option (Bool):=(impl_Canon.f k a0).bind fun bt709=>(if bt709.2=true then(some (bt709.1.toList==a0.toList)) else(some false))
theorem impl_isCanonical.e0 {p:Prop} (h:p:=by
  obtain rfl:=Option.some.inj H
  go_enter Tryz.func36,Tryz.ntmps36
  go_wp2_with(first|((with_reducible refine gate_callee (f:=64) rfl ?_);refine goesL_ (some 7) rfl rfl Tryz.func64 (by kernel_rfl) rfl #[.string a0] rfl gq0 ?_;(with_reducible refine(impl_Canon.calls k a0 t709 false _ A2.out ?hT).mono ?_);(case hT=>exact tab_go HT);rintro e wq1a ⟨rfl,hb⟩;refine⟨_,rfl,?_⟩;replace HB:=beA hb;(try clear hb);(try clear hb2);(try clear hk);(try clear hi))|((with_reducible refine gate_callee (f:=64) rfl ?_);refine goesL_ (some 7) rfl rfl Tryz.func64 (by kernel_rfl) rfl #[.string a0] rfl gq0 ?_;(with_reducible refine(impl_Canon.calls k a0 t709 true _ A2.out ?hT).mono ?_);(case hT=>exact tab_go HT);rintro e wq0a ⟨rfl,hb⟩;refine⟨_,rfl,?_⟩;replace HB:=beA hb;(try clear hb);(try clear hb2);(try clear hk);(try clear hi)))
  go_ret
  exact⟨gq2,gBe⟩):p:=h
set_option maxHeartbeats 8000000 in
set_option maxRecDepth 100000 in
theorem impl_isCanonical.calls (k:Nat) (a0:ByteArray) (r:Bool) (w:World) (h:impl_isCanonical.f k a0=some r) (HT0:Tab10 w) :
  Calls Tryz.prog 36 #[.string a0] w fun e w'=>e = .returned (.bool r)∧Below w.heap.size w w':=by
 have HT:=Aside0.mk HT0
 clear HT0
 have HB:=Aside0.mk (Below.refl w.heap.size w)
 have H:=h
 clear h
 unfold impl_isCanonical.f at H
 replace H:=gD H
 obtain⟨⟨t709,t710⟩,A2,H⟩:=H
 dsimp only at H
 replace H:=gB H
 rcases H with⟨rfl,H⟩|⟨rfl,H⟩
 ·exact impl_isCanonical.e0
 ·exact impl_isCanonical.e0


def impl_EntryOk.f (k:Nat) (a0_0:ByteArray) (a0_1:Int) (a0_2:Int) (l0_3:List (S72)) (a0_4:ByteArray) (a0_5:ByteArray) (a0_6:Int) (a0_7:ByteArray) (a0_8:Bool) (l0_9:List (S72)) (a0_10:ByteArray):Option (Bool):=(impl_isCanonical.f k a0_0).bind fun t866=>(if t866=true then((impl_isTime.f a0_1).bind fun t867=>(if t867=true then((impl_isTime.f a0_2).bind fun t868=>(if t868=true then(if a0_1≤a0_2 then((impl_FieldsOk.f k l0_3).bind fun t869=>(if t869=true then((impl_MsgOk.f k a0_4 a0_5 a0_6 a0_7 a0_8 l0_9 a0_10).bind fun t870=>(if t870=true then(if a0_4.toList=([]:List UInt8) then(some (!a0_8)) else(some false)) else(some false))) else(some false))) else(some false)) else(some false))) else(some false))) else(some false))
theorem impl_EntryOk.e0 {p:Prop} (h:p:=by
  obtain rfl:=Option.some.inj H
  go_enter Tryz.func13,Tryz.ntmps13
  go_wp2_with(first|((with_reducible refine gate_dst (N:=1) rfl ?_);refine boxA #[.string a0_0,.int .i64 a0_1,.int .i64 a0_2,.slice A0_3 l0_3.length c0_3,.string a0_4,.string a0_5,.int .i64 a0_6,.string a0_7,.bool a0_8,.slice A0_9 l0_9.length c0_9,.string a0_10] 33 ?_;intro gb865 hg wq0a hbox hb;have BK865:=Aside0.mk (hbox);have GW865:=geA hg;have GE865:=geA hg;replace HB:=beA hb;clear hb hbox hg;obtain⟨_,_,_,_,_,_,_,_,_,_,_⟩:=czA11 BK865;obtain⟨_,_,_,_,_,_,_,_,_,_,_⟩:=cfA11 BK865)|((with_reducible refine gate_callee (f:=36) rfl ?_);refine goesL_ (some 5) rfl rfl Tryz.func36 (by kernel_rfl) rfl #[.string a0_0] rfl gq0 ?_;(with_reducible refine(impl_isCanonical.calls k a0_0 false _ A2.out ?hT).mono ?_);(case hT=>exact tab_go HT);rintro e wq6a ⟨rfl,hb⟩;refine⟨_,rfl,?_⟩;replace BK865:=blA (g:=gb865) hb;replace HB:=beA hb;(try clear hb);(try clear hb2);(try clear hk);(try clear hi))|((with_reducible refine gate_callee (f:=36) rfl ?_);refine goesL_ (some 5) rfl rfl Tryz.func36 (by kernel_rfl) rfl #[.string a0_0] rfl gq0 ?_;(with_reducible refine(impl_isCanonical.calls k a0_0 true _ A2.out ?hT).mono ?_);(case hT=>exact tab_go HT);rintro e wq1a ⟨rfl,hb⟩;refine⟨_,rfl,?_⟩;replace BK865:=blA (g:=gb865) hb;replace HB:=beA hb;(try clear hb);(try clear hb2);(try clear hk);(try clear hi);obtain⟨_,_,_,_,_,_,_,_,_,_,_⟩:=czA11 BK865;obtain⟨_,_,_,_,_,_,_,_,_,_,_⟩:=cfA11 BK865)|(go_at_call 37;(with_reducible refine(impl_isTime.calls a0_1 false _ A4.out).mono ?_);rintro e w' ⟨rfl,⟨nd,rfl⟩⟩)|(go_at_call 37;(with_reducible refine(impl_isTime.calls a0_1 true _ A4.out).mono ?_);rintro e w' ⟨rfl,⟨nd,rfl⟩⟩)|(go_at_call 37;(with_reducible refine(impl_isTime.calls a0_2 false _ A6.out).mono ?_);rintro e w' ⟨rfl,⟨nd,rfl⟩⟩)|(go_at_call 37;(with_reducible refine(impl_isTime.calls a0_2 true _ A6.out).mono ?_);rintro e w' ⟨rfl,⟨nd,rfl⟩⟩)|(go_at_call 38;(with_reducible refine(impl_FieldsOk.calls k _ _ l0_3 false _ ?side1 ?side2 A9.out).mono ?_);(case side1=>repeat(first|exact(Kd.C_below HR0_3.out gBe)|(with_reducible refine Kd.C_alloc ?_ _)|(with_reducible refine Kd.C_drewN ?_ _)|(with_reducible refine Kd.C_drew ?_)));(case side2=>exact HC0_3.out);rintro e wq5a ⟨rfl,hb⟩;replace BK865:=blA (g:=gb865) hb;replace HB:=beA hb;(try clear hb);(try clear hb2);(try clear hk);(try clear hi))|(go_at_call 38;(with_reducible refine(impl_FieldsOk.calls k _ _ l0_3 true _ ?side1 ?side2 A9.out).mono ?_);(case side1=>repeat(first|exact(Kd.C_below HR0_3.out gBe)|(with_reducible refine Kd.C_alloc ?_ _)|(with_reducible refine Kd.C_drewN ?_ _)|(with_reducible refine Kd.C_drew ?_)));(case side2=>exact HC0_3.out);rintro e wq2a ⟨rfl,hb⟩;replace BK865:=blA (g:=gb865) hb;replace HB:=beA hb;(try clear hb);(try clear hb2);(try clear hk);(try clear hi);obtain⟨_,_,_,_,_,_,_,_,_,_,_⟩:=czA11 BK865;obtain⟨_,_,_,_,_,_,_,_,_,_,_⟩:=cfA11 BK865)|(go_at_call 39;(with_reducible refine(impl_MsgOk.calls k a0_4 a0_5 a0_6 a0_7 a0_8 _ _ l0_9 a0_10 false _ ?side1 ?side2 A11.out ?hT).mono ?_);(case hT=>exact tab_go HT);(case side1=>repeat(first|exact(Kd.C_below HR0_9.out HB.out)|(with_reducible refine Kd.C_alloc ?_ _)|(with_reducible refine Kd.C_drewN ?_ _)|(with_reducible refine Kd.C_drew ?_)));(case side2=>exact HC0_9.out);rintro e wq4a ⟨rfl,hb⟩;replace BK865:=blA (g:=gb865) hb;replace HB:=beA hb;(try clear hb);(try clear hb2);(try clear hk);(try clear hi))|(go_at_call 39;(with_reducible refine(impl_MsgOk.calls k a0_4 a0_5 a0_6 a0_7 a0_8 _ _ l0_9 a0_10 true _ ?side1 ?side2 A11.out ?hT).mono ?_);(case hT=>exact tab_go HT);(case side1=>repeat(first|exact(Kd.C_below HR0_9.out HB.out)|(with_reducible refine Kd.C_alloc ?_ _)|(with_reducible refine Kd.C_drewN ?_ _)|(with_reducible refine Kd.C_drew ?_)));(case side2=>exact HC0_9.out);rintro e wq3a ⟨rfl,hb⟩;replace BK865:=blA (g:=gb865) hb;replace HB:=beA hb;(try clear hb);(try clear hb2);(try clear hk);(try clear hi);obtain⟨_,_,_,_,_,_,_,_,_,_,_⟩:=czA11 BK865;obtain⟨_,_,_,_,_,_,_,_,_,_,_⟩:=cfA11 BK865))
  go_ret
  exact⟨gq2,gBe⟩):p:=h
set_option maxHeartbeats 8000000 in
set_option maxRecDepth 100000 in
theorem impl_EntryOk.calls (k:Nat) (a0_0:ByteArray) (a0_1:Int) (a0_2:Int) (A0_3:Option Addr) (c0_3:Nat) (l0_3:List (S72)) (a0_4:ByteArray) (a0_5:ByteArray) (a0_6:Int) (a0_7:ByteArray) (a0_8:Bool) (A0_9:Option Addr) (c0_9:Nat) (l0_9:List (S72)) (a0_10:ByteArray) (r:Bool) (w:World) (hr0_3:Kd.C k72 w A0_3 l0_3.length l0_3) (hc0_3:l0_3.length≤c0_3) (hr0_9:Kd.C k72 w A0_9 l0_9.length l0_9) (hc0_9:l0_9.length≤c0_9) (h:impl_EntryOk.f k a0_0 a0_1 a0_2 l0_3 a0_4 a0_5 a0_6 a0_7 a0_8 l0_9 a0_10=some r) (HT0:Tab10 w) :
  Calls Tryz.prog 13 #[.agg #[.string a0_0,.int .i64 a0_1,.int .i64 a0_2,.slice A0_3 l0_3.length c0_3,.string a0_4,.string a0_5,.int .i64 a0_6,.string a0_7,.bool a0_8,.slice A0_9 l0_9.length c0_9,.string a0_10]] w fun e w'=>e = .returned (.bool r)∧Below w.heap.size w w':=by
 have HT:=Aside0.mk HT0
 clear HT0
 have hu33:=Tryz.underlying33
 have hu31:=Tryz.underlying31
 have HR0_3:=Aside0.mk hr0_3
 have HC0_3:=Aside0.mk hc0_3
 clear hr0_3 hc0_3
 have HR0_9:=Aside0.mk hr0_9
 have HC0_9:=Aside0.mk hc0_9
 clear hr0_9 hc0_9
 have HB:=Aside0.mk (Below.refl w.heap.size w)
 have H:=h
 clear h
 unfold impl_EntryOk.f at H
 replace H:=gD H
 obtain⟨t866,A2,H⟩:=H
 replace H:=gB H
 rcases H with⟨rfl,H⟩|⟨rfl,H⟩
 ·replace H:=gD H
  obtain⟨t867,A4,H⟩:=H
  replace H:=gB H
  rcases H with⟨rfl,H⟩|⟨rfl,H⟩
  ·replace H:=gD H
   obtain⟨t868,A6,H⟩:=H
   replace H:=gB H
   rcases H with⟨rfl,H⟩|⟨rfl,H⟩
   ·replace H:=gI H
    rcases H with⟨-,c8b0,-,H⟩|⟨-,c8b0,-,H⟩
    ·replace H:=gD H
     obtain⟨t869,A9,H⟩:=H
     replace H:=gB H
     rcases H with⟨rfl,H⟩|⟨rfl,H⟩
     ·replace H:=gD H
      obtain⟨t870,A11,H⟩:=H
      replace H:=gB H
      rcases H with⟨rfl,H⟩|⟨rfl,H⟩
      ·replace H:=gI H
       rcases H with⟨c13,-,-,H⟩|⟨c13,-,-,H⟩
       ·have c13b0:(a0_4.toList==([]:List UInt8))=true:=beq_iff_eq.mpr c13
        have c13b1:(a0_4.toList != ([]:List UInt8))=false:=bne_eq_false_iff_eq.mpr c13
        clear c13
        exact impl_EntryOk.e0
       ·have c13b0:(a0_4.toList==([]:List UInt8))=false:=beq_eq_false_iff_ne.mpr c13
        have c13b1:(a0_4.toList != ([]:List UInt8))=true:=bne_iff_ne.mpr c13
        exact impl_EntryOk.e0
      ·exact impl_EntryOk.e0
     ·exact impl_EntryOk.e0
    ·exact impl_EntryOk.e0
   ·exact impl_EntryOk.e0
  ·exact impl_EntryOk.e0
 ·exact impl_EntryOk.e0

end Go.Proofs.YtfhllanhldbkkaaGreatDoor.P
