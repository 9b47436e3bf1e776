-- Written by a program of ours (myprint.py, by way of the kit's print) out of Lean's print of the translation.
import Derived.Test.YtfhllanhldbkkaaGreatDoorPx0
import Derived.Test.YtfhllanhldbkkaaGreatDoorPxauxa
import Derived.Test.YtfhllanhldbkkaaGreatDoorPxauxg
import Derived.Test.YtfhllanhldbkkaaGreatDoorPximpl07e
import Derived.Test.YtfhllanhldbkkaaGreatDoorPxspec07h
import Derived.Test.YtfhllanhldbkkaaGreatDoorWC
namespace Go.Proofs.YtfhllanhldbkkaaGreatDoor.P
open Go.RowKit Go.Proofs.YtfhllanhldbkkaaGreatDoorW.PrintWords Go.Proofs.YtfhllanhldbkkaaGreatDoorW.PrintLast Go.Proofs.YtfhllanhldbkkaaGreatDoorW.PrintMore
attribute [local go_sem] max2_int min2_int max_two min_two max_three min_three max_four min_four   -- for this text's walks alone
set_option linter.unusedVariables false
set_option linter.unusedSimpArgs false

def laws_FnExactEntryOk.f (k:Nat) (a0_0:ByteArray) (a0_1:Int) (a0_2:Int) (l0_3:List (S69)) (a0_4:ByteArray) (a0_5:ByteArray) (a0_6:Int) (a0_7:ByteArray) (a0_8:Bool) (l0_9:List (S69)) (a0_10:ByteArray):Option (Bool):=(laws_szEntry.f k a0_0 a0_1 a0_2 l0_3 a0_4 a0_5 a0_6 a0_7 a0_8 l0_9 a0_10 1048576).bind fun t941=>(if t941<0 then(some true) else((laws_toEntry.f k a0_0 a0_1 a0_2 l0_3 a0_4 a0_5 a0_6 a0_7 a0_8 l0_9 a0_10).bind fun bt942=>((spec_EntryOk.f k bt942.1 bt942.2.1 bt942.2.2.1 bt942.2.2.2.1 bt942.2.2.2.2.1 bt942.2.2.2.2.2.1 bt942.2.2.2.2.2.2.1 bt942.2.2.2.2.2.2.2.1 bt942.2.2.2.2.2.2.2.2.1 bt942.2.2.2.2.2.2.2.2.2.1 bt942.2.2.2.2.2.2.2.2.2.2).bind fun t957=>((laws_toEntry.f k a0_0 a0_1 a0_2 l0_3 a0_4 a0_5 a0_6 a0_7 a0_8 l0_9 a0_10).bind fun bt958=>((impl_EntryOk.f k bt958.1 bt958.2.1 bt958.2.2.1 bt958.2.2.2.1 bt958.2.2.2.2.1 bt958.2.2.2.2.2.1 bt958.2.2.2.2.2.2.1 bt958.2.2.2.2.2.2.2.1 bt958.2.2.2.2.2.2.2.2.1 bt958.2.2.2.2.2.2.2.2.2.1 bt958.2.2.2.2.2.2.2.2.2.2).bind fun t974=>(if(t974 != t957)=true then(none) else((laws_toEntry.f k a0_0 a0_1 a0_2 l0_3 a0_4 a0_5 a0_6 a0_7 a0_8 l0_9 a0_10).bind fun bt975=>((laws_eqEntry.f k bt958.1 bt958.2.1 bt958.2.2.1 bt958.2.2.2.1 bt958.2.2.2.2.1 bt958.2.2.2.2.2.1 bt958.2.2.2.2.2.2.1 bt958.2.2.2.2.2.2.2.1 bt958.2.2.2.2.2.2.2.2.1 bt958.2.2.2.2.2.2.2.2.2.1 bt958.2.2.2.2.2.2.2.2.2.2 bt975.1 bt975.2.1 bt975.2.2.1 bt975.2.2.2.1 bt975.2.2.2.2.1 bt975.2.2.2.2.2.1 bt975.2.2.2.2.2.2.1 bt975.2.2.2.2.2.2.2.1 bt975.2.2.2.2.2.2.2.2.1 bt975.2.2.2.2.2.2.2.2.2.1 bt975.2.2.2.2.2.2.2.2.2.2).bind fun t990=>(if t990=true then(some true) else(none))))))))))
theorem laws_FnExactEntryOk.gBs {p:Prop} (h:p:=by repeat(first|(with_reducible first|exact Aside0.out (by assumption)|apply blk_put|(apply blk_farA;assumption)|apply blk_drewN|apply blk_drew|apply blk_alloc)|(simp only[List.setIfInBounds_toArray,List.set_cons_zero,List.set_cons_succ];with_reducible rfl)|(simp only[List.setIfInBounds_toArray,List.set_cons_zero,List.set_cons_succ];done)|exact(rfl:(_:Array Value)=_))):p:=h
theorem laws_FnExactEntryOk.blS {W w1:World} {g:Nat} {o:Obj} (hb:Below W.heap.size W w1) (h:W.heap[g]? = some o:=by exact laws_FnExactEntryOk.gBs):Aside0 (w1.heap[g]? = some o):=⟨blk_below h hb⟩
set_option maxHeartbeats 8000000 in
set_option maxRecDepth 100000 in
theorem laws_FnExactEntryOk.calls (k:Nat) (a0_0:ByteArray) (a0_1:Int) (a0_2:Int) (A0_3:Option Addr) (c0_3:Nat) (l0_3:List (S69)) (a0_4:ByteArray) (a0_5:ByteArray) (a0_6:Int) (a0_7:ByteArray) (a0_8:Bool) (A0_9:Option Addr) (c0_9:Nat) (l0_9:List (S69)) (a0_10:ByteArray) (r:Bool) (w:World) (hr0_3:Kd.C k69 w A0_3 l0_3.length l0_3) (hc0_3:l0_3.length≤c0_3) (hr0_9:Kd.C k69 w A0_9 l0_9.length l0_9) (hc0_9:l0_9.length≤c0_9) (h:laws_FnExactEntryOk.f k a0_0 a0_1 a0_2 l0_3 a0_4 a0_5 a0_6 a0_7 a0_8 l0_9 a0_10=some r) (HT0:Tab10 w) :
  Calls Tryz.prog 3 #[.agg #[.string a0_0,.int .i64 a0_1,.int .i64 a0_2,.slice A0_3 l0_3.length c0_3,.string a0_4,.string a0_5,.int .i64 a0_6,.string a0_7,.bool a0_8,.slice A0_9 l0_9.length c0_9,.string a0_10]] w fun e w'=>e = .returned (.bool r)∧Below w.heap.size w w':=by
 have HT:=Aside0.mk HT0
 clear HT0
 have hu26:=Tryz.underlying26
 have hu33:=Tryz.underlying33
 have HR0_3:=Aside0.mk hr0_3
 have HC0_3:=Aside0.mk hc0_3
 clear hr0_3 hc0_3
 have HR0_9:=Aside0.mk hr0_9
 have HC0_9:=Aside0.mk hc0_9
 clear hr0_9 hc0_9
 have HB:=Aside0.mk (Below.refl w.heap.size w)
 have H:=h
 clear h
 unfold laws_FnExactEntryOk.f at H
 replace H:=gD H
 obtain⟨t941,A2,H⟩:=H
 replace H:=gI H
 rcases H with⟨-,c3b0,-,H⟩|⟨-,c3b0,-,H⟩
 ·obtain rfl:=Option.some.inj H
  go_enter Tryz.func3,Tryz.ntmps3
  go_wp2_with(first|((with_reducible refine gate_dst (N:=1) rfl ?_);refine boxA #[.string a0_0,.int .i64 a0_1,.int .i64 a0_2,.slice A0_3 l0_3.length c0_3,.string a0_4,.string a0_5,.int .i64 a0_6,.string a0_7,.bool a0_8,.slice A0_9 l0_9.length c0_9,.string a0_10] 26 ?_;intro gb940 hg wq0a hbox hb;have BK940:=Aside0.mk (hbox);have GW940:=geA hg;have GE940:=geA hg;replace HB:=beA hb;clear hb hbox hg;obtain⟨_,_,_,_,_,_,_,_,_,_,_⟩:=czA11 BK940;obtain⟨_,_,_,_,_,_,_,_,_,_,_⟩:=cfA11 BK940)|((with_reducible refine gate_callee (f:=10) rfl ?_);refine goesL_ (some 9) rfl rfl Tryz.func10 (by kernel_rfl) rfl #[.agg #[.string a0_0,.int .i64 a0_1,.int .i64 a0_2,.slice A0_3 l0_3.length c0_3,.string a0_4,.string a0_5,.int .i64 a0_6,.string a0_7,.bool a0_8,.slice A0_9 l0_9.length c0_9,.string a0_10],.int .i64 1048576] rfl gq0 ?_;(with_reducible refine(laws_szEntry.calls k a0_0 a0_1 a0_2 _ _ l0_3 a0_4 a0_5 a0_6 a0_7 a0_8 _ _ l0_9 a0_10 1048576 t941 _ ?side1 ?side2 ?side3 ?side4 A2.out).mono ?_);(case side1=>repeat(first|exact(Kd.C_below HR0_3.out HB.out)|(with_reducible refine Kd.C_alloc ?_ _)|(with_reducible refine Kd.C_drewN ?_ _)|(with_reducible refine Kd.C_drew ?_)));(case side2=>exact HC0_3.out);(case side3=>repeat(first|exact(Kd.C_below HR0_9.out HB.out)|(with_reducible refine Kd.C_alloc ?_ _)|(with_reducible refine Kd.C_drewN ?_ _)|(with_reducible refine Kd.C_drew ?_)));(case side4=>exact HC0_9.out);rintro e wq1a ⟨rfl,hb⟩;refine⟨_,rfl,?_⟩;replace BK940:=blA (g:=gb940) hb;replace HB:=beA hb;(try clear hb);(try clear hb2);(try clear hk);(try clear hi)))
  go_ret
  exact⟨gq2,gBe⟩
 ·replace H:=gD H
  obtain⟨⟨t942,t943,t944,t945,t948,t949,t950,t951,t952,t953,t956⟩,A7,H⟩:=H
  dsimp only at H
  replace H:=gD H
  obtain⟨t957,A8,H⟩:=H
  replace H:=gD H
  obtain⟨⟨t958,t959,t960,t961,t964,t965,t966,t967,t968,t969,t972⟩,A9,H⟩:=H
  dsimp only at H
  replace H:=gD H
  obtain⟨t974,A10,H⟩:=H
  replace H:=gI H
  rcases H with⟨c11,-,-,H⟩|⟨c11,-,-,H⟩
  ·exact absurd H (by simp)
  ·have c11b0:(t974 != t957)=false:=by simpa using c11
   (try(have c11b1:decide (t974=t957)=true:=by simpa using c11))
   (try(have c11b2:(t974==t957)=true:=by simpa using c11))
   clear c11
   replace H:=gD H
   obtain⟨⟨t975,t976,t977,t978,t981,t982,t983,t984,t985,t986,t989⟩,A12,H⟩:=H
   dsimp only at H
   replace H:=gD H
   obtain⟨t990,A13,H⟩:=H
   replace H:=gB H
   rcases H with⟨rfl,H⟩|⟨rfl,H⟩
   ·obtain rfl:=Option.some.inj H
    go_enter Tryz.func3,Tryz.ntmps3
    try go_wp2_with(first|((with_reducible refine gate_dst (N:=1) rfl ?_);refine boxA #[.string a0_0,.int .i64 a0_1,.int .i64 a0_2,.slice A0_3 l0_3.length c0_3,.string a0_4,.string a0_5,.int .i64 a0_6,.string a0_7,.bool a0_8,.slice A0_9 l0_9.length c0_9,.string a0_10] 26 ?_;intro gb940 hg wq0a hbox hb;have BK940:=Aside0.mk (hbox);have GW940:=geA hg;have GE940:=geA hg;replace HB:=beA hb;clear hb hbox hg;obtain⟨_,_,_,_,_,_,_,_,_,_,_⟩:=czA11 BK940;obtain⟨_,_,_,_,_,_,_,_,_,_,_⟩:=cfA11 BK940)|((with_reducible refine gate_callee (f:=10) rfl ?_);refine goesL_ (some 9) rfl rfl Tryz.func10 (by kernel_rfl) rfl #[.agg #[.string a0_0,.int .i64 a0_1,.int .i64 a0_2,.slice A0_3 l0_3.length c0_3,.string a0_4,.string a0_5,.int .i64 a0_6,.string a0_7,.bool a0_8,.slice A0_9 l0_9.length c0_9,.string a0_10],.int .i64 1048576] rfl gq0 ?_;(with_reducible refine(laws_szEntry.calls k a0_0 a0_1 a0_2 _ _ l0_3 a0_4 a0_5 a0_6 a0_7 a0_8 _ _ l0_9 a0_10 1048576 t941 _ ?side1 ?side2 ?side3 ?side4 A2.out).mono ?_);(case side1=>repeat(first|exact(Kd.C_below HR0_3.out HB.out)|(with_reducible refine Kd.C_alloc ?_ _)|(with_reducible refine Kd.C_drewN ?_ _)|(with_reducible refine Kd.C_drew ?_)));(case side2=>exact HC0_3.out);(case side3=>repeat(first|exact(Kd.C_below HR0_9.out HB.out)|(with_reducible refine Kd.C_alloc ?_ _)|(with_reducible refine Kd.C_drewN ?_ _)|(with_reducible refine Kd.C_drew ?_)));(case side4=>exact HC0_9.out);rintro e wq2a ⟨rfl,hb⟩;refine⟨_,rfl,?_⟩;replace BK940:=blA (g:=gb940) hb;replace HB:=beA hb;(try clear hb);(try clear hb2);(try clear hk);(try clear hi);obtain⟨_,_,_,_,_,_,_,_,_,_,_⟩:=czA11 BK940;obtain⟨_,_,_,_,_,_,_,_,_,_,_⟩:=cfA11 BK940)|((with_reducible refine gate_callee (f:=12) rfl ?_);refine goesL_ (some 13) rfl rfl Tryz.func12 (by kernel_rfl) rfl #[.agg #[.string a0_0,.int .i64 a0_1,.int .i64 a0_2,.slice A0_3 l0_3.length c0_3,.string a0_4,.string a0_5,.int .i64 a0_6,.string a0_7,.bool a0_8,.slice A0_9 l0_9.length c0_9,.string a0_10]] rfl gq0 ?_;(with_reducible refine(laws_toEntry.calls k a0_0 a0_1 a0_2 _ _ l0_3 a0_4 a0_5 a0_6 a0_7 a0_8 _ _ l0_9 a0_10 t942 t943 t944 t945 t948 t949 t950 t951 t952 t953 t956 _ ?side1 ?side2 ?side3 ?side4 A7.out).mono ?_);(case side1=>repeat(first|exact(Kd.C_below HR0_3.out HB.out)|(with_reducible refine Kd.C_alloc ?_ _)|(with_reducible refine Kd.C_drewN ?_ _)|(with_reducible refine Kd.C_drew ?_)));(case side2=>exact HC0_3.out);(case side3=>repeat(first|exact(Kd.C_below HR0_9.out HB.out)|(with_reducible refine Kd.C_alloc ?_ _)|(with_reducible refine Kd.C_drewN ?_ _)|(with_reducible refine Kd.C_drew ?_)));(case side4=>exact HC0_9.out);rintro e wq3a ⟨v946,v954,rfl,ho0,ho1,hb⟩;refine⟨_,rfl,?_⟩;have HO947:=Aside0.mk (Kd.R_lower ho0 (below_size gBe));have HO955:=Aside0.mk (Kd.R_lower ho1 (below_size gBe));replace BK940:=blA (g:=gb940) hb;replace HB:=beA hb;(try clear hb);(try clear hb2);(try clear hk);(try clear hi);(try clear ho0);(try clear ho1);obtain⟨Ao20,co20,eo20⟩:=Kd.R_slice HO947.out;subst eo20;obtain⟨Ao21,co21,eo21⟩:=Kd.R_slice HO955.out;subst eo21)|((with_reducible refine gate_callee (f:=11) rfl ?_);refine goesL_ (some 14) rfl rfl Tryz.func11 (by kernel_rfl) rfl #[.agg #[.string t942,.int .i64 t943,.int .i64 t944,.slice Ao20 t945.length co20,.string t948,.string t949,.int .i64 t950,.string t951,.bool t952,.slice Ao21 t953.length co21,.string t956]] rfl gq0 ?_;(with_reducible refine(spec_EntryOk.calls k t942 t943 t944 _ _ t945 t948 t949 t950 t951 t952 _ _ t953 t956 t957 _ ?side1 ?side2 ?side3 ?side4 A8.out).mono ?_);(case side1=>repeat(first|exact(Kd.R_reads' HO947.out).2.2|(with_reducible refine Kd.C_alloc ?_ _)|(with_reducible refine Kd.C_drewN ?_ _)|(with_reducible refine Kd.C_drew ?_)));(case side2=>exact(Kd.R_reads' HO947.out).2.1);(case side3=>repeat(first|exact(Kd.R_reads' HO955.out).2.2|(with_reducible refine Kd.C_alloc ?_ _)|(with_reducible refine Kd.C_drewN ?_ _)|(with_reducible refine Kd.C_drew ?_)));(case side4=>exact(Kd.R_reads' HO955.out).2.1);rintro e wq4a ⟨rfl,hb⟩;refine⟨_,rfl,?_⟩;replace HO947:=Aside0.mk (Kd.R_below gq32 hb);replace HO955:=Aside0.mk (Kd.R_below gq33 hb);replace BK940:=blA (g:=gb940) hb;replace HB:=beA hb;(try clear hb);(try clear hb2);(try clear hk);(try clear hi);obtain⟨_,_,_,_,_,_,_,_,_,_,_⟩:=czA11 BK940;obtain⟨_,_,_,_,_,_,_,_,_,_,_⟩:=cfA11 BK940)|((with_reducible refine gate_callee (f:=12) rfl ?_);refine goesL_ (some 16) rfl rfl Tryz.func12 (by kernel_rfl) rfl #[.agg #[.string a0_0,.int .i64 a0_1,.int .i64 a0_2,.slice A0_3 l0_3.length c0_3,.string a0_4,.string a0_5,.int .i64 a0_6,.string a0_7,.bool a0_8,.slice A0_9 l0_9.length c0_9,.string a0_10]] rfl gq0 ?_;(with_reducible refine(laws_toEntry.calls k a0_0 a0_1 a0_2 _ _ l0_3 a0_4 a0_5 a0_6 a0_7 a0_8 _ _ l0_9 a0_10 t958 t959 t960 t961 t964 t965 t966 t967 t968 t969 t972 _ ?side1 ?side2 ?side3 ?side4 A9.out).mono ?_);(case side1=>repeat(first|exact(Kd.C_below HR0_3.out HB.out)|(with_reducible refine Kd.C_alloc ?_ _)|(with_reducible refine Kd.C_drewN ?_ _)|(with_reducible refine Kd.C_drew ?_)));(case side2=>exact HC0_3.out);(case side3=>repeat(first|exact(Kd.C_below HR0_9.out HB.out)|(with_reducible refine Kd.C_alloc ?_ _)|(with_reducible refine Kd.C_drewN ?_ _)|(with_reducible refine Kd.C_drew ?_)));(case side4=>exact HC0_9.out);rintro e wq5a ⟨v962,v970,rfl,ho0,ho1,hb⟩;refine⟨_,rfl,?_⟩;have HO963:=Aside0.mk (Kd.R_lower (Kd.R_new' (Kd.R_new' ho0 (Kd.R_lt gq32)) (Kd.R_lt gq33)) (below_size gBe));have HO971:=Aside0.mk (Kd.R_lower (Kd.R_new' (Kd.R_new' ho1 (Kd.R_lt gq32)) (Kd.R_lt gq33)) (below_size gBe));replace HO947:=Aside0.mk (Kd.R_mono (Kd.R_told (Kd.R_told (Kd.R_old gq32 hb) (Kd.R_base ho0)) (Kd.R_base ho1)) (fun _ h_=>h_.1));replace HO955:=Aside0.mk (Kd.R_mono (Kd.R_told (Kd.R_told (Kd.R_old gq33 hb) (Kd.R_base ho0)) (Kd.R_base ho1)) (fun _ h_=>h_.1));replace BK940:=blA (g:=gb940) hb;replace HB:=beA hb;(try clear hb);(try clear hb2);(try clear hk);(try clear hi);(try clear ho0);(try clear ho1))|((with_reducible refine gate_dst (N:=5) rfl ?_);refine boxA #[.string (⟨#[]⟩:ByteArray),.int .i64 0,.int .i64 0,.slice none 0 0,.string (⟨#[]⟩:ByteArray),.string (⟨#[]⟩:ByteArray),.int .i64 0,.string (⟨#[]⟩:ByteArray),.bool false,.slice none 0 0,.string (⟨#[]⟩:ByteArray)] 33 ?_;intro gb973 hg wq6a hbox hb;have BK973:=Aside0.mk (hbox);have GE973:=geA hg;have NB940_973:=neA (g:=gb940) hg;have NB973_940:=neB NB940_973;replace HO947:=Aside0.mk (Kd.R_below gq32 hb);replace HO955:=Aside0.mk (Kd.R_below gq33 hb);replace HO963:=Aside0.mk (Kd.R_below gq68 hb);replace HO971:=Aside0.mk (Kd.R_below gq69 hb);replace BK940:=blA (g:=gb940) hb;replace HB:=beA hb;clear hb hbox hg;have hnb26:=NB973_940.out;have hnc26:=NB940_973.out;obtain⟨_,_,_,_,_,_,_,_,_,_,_⟩:=czA11 BK973;obtain⟨_,_,_,_,_,_,_,_,_,_,_⟩:=cfA11 BK973;obtain⟨Ao28,co28,eo28⟩:=Kd.R_slice HO963.out;subst eo28;obtain⟨Ao29,co29,eo29⟩:=Kd.R_slice HO971.out;subst eo29)|((with_reducible refine gate_callee (f:=13) rfl ?_);refine goesL_ (some 18) rfl rfl Tryz.func13 (by kernel_rfl) rfl #[.agg #[.string t958,.int .i64 t959,.int .i64 t960,.slice Ao28 t961.length co28,.string t964,.string t965,.int .i64 t966,.string t967,.bool t968,.slice Ao29 t969.length co29,.string t972]] rfl gq0 ?_;(with_reducible refine(impl_EntryOk.calls k t958 t959 t960 _ _ t961 t964 t965 t966 t967 t968 _ _ t969 t972 t974 _ ?side1 ?side2 ?side3 ?side4 A10.out ?hT).mono ?_);(case hT=>exact tab_go HT);(case side1=>refine(Kd.R_reads' (e:=72) (base:=w.heap.size) (ok:=fun k_=>((some k_≠(.slice Ao29 t969.length co29:Value).ownBlock∧some k_≠(.slice Ao20 t945.length co20:Value).ownBlock)∧some k_≠(.slice Ao21 t953.length co21:Value).ownBlock)) (n:=t961.length) (c:=co28) ?_).2.2;exact(by(with_reducible repeat(first|apply Kd.R_alloc|apply Kd.R_drewN|apply Kd.R_drew));exact(gFar (Kd.R_types HO963.out BK973.out (by decide)) (fun _ h_=>h_.1))));(case side2=>exact(Kd.R_reads' HO963.out).2.1);(case side3=>refine(Kd.R_reads' (e:=72) (base:=w.heap.size) (ok:=fun k_=>((some k_≠(.slice Ao28 t961.length co28:Value).ownBlock∧some k_≠(.slice Ao20 t945.length co20:Value).ownBlock)∧some k_≠(.slice Ao21 t953.length co21:Value).ownBlock)) (n:=t969.length) (c:=co29) ?_).2.2;exact(by(with_reducible repeat(first|apply Kd.R_alloc|apply Kd.R_drewN|apply Kd.R_drew));exact(gFar (Kd.R_types HO971.out BK973.out (by decide)) (fun _ h_=>h_.1))));(case side4=>exact(Kd.R_reads' HO971.out).2.1);rintro e wq7a ⟨rfl,hb⟩;refine⟨_,rfl,?_⟩;replace HO947:=Aside0.mk (Kd.R_below (by(with_reducible repeat(first|apply Kd.R_alloc|apply Kd.R_drewN|apply Kd.R_drew));exact(gFar (Kd.R_types HO947.out BK973.out (by decide)) (fun _ h_=>h_.1))) hb);replace HO955:=Aside0.mk (Kd.R_below (by(with_reducible repeat(first|apply Kd.R_alloc|apply Kd.R_drewN|apply Kd.R_drew));exact(gFar (Kd.R_types HO955.out BK973.out (by decide)) (fun _ h_=>h_.1))) hb);replace HO963:=Aside0.mk (Kd.R_below (by(with_reducible repeat(first|apply Kd.R_alloc|apply Kd.R_drewN|apply Kd.R_drew));exact(gFar (Kd.R_types HO963.out BK973.out (by decide)) (fun _ h_=>h_.1))) hb);replace HO971:=Aside0.mk (Kd.R_below (by(with_reducible repeat(first|apply Kd.R_alloc|apply Kd.R_drewN|apply Kd.R_drew));exact(gFar (Kd.R_types HO971.out BK973.out (by decide)) (fun _ h_=>h_.1))) hb);replace BK940:=blA (g:=gb940) hb;replace BK973:=laws_FnExactEntryOk.blS (g:=gb973) (o:=.cells #[.string t958,.int .i64 t959,.int .i64 t960,.slice Ao28 t961.length co28,.string t964,.string t965,.int .i64 t966,.string t967,.bool t968,.slice Ao29 t969.length co29,.string t972] 33 (0,0)) hb;replace HB:=beA hb;(try clear hb);(try clear hb2);(try clear hk);(try clear hi)))
    replace HO947:=Aside0.mk (Kd.R_drew HO947.out)
    replace HO955:=Aside0.mk (Kd.R_drew HO955.out)
    replace HO963:=Aside0.mk (Kd.R_drew HO963.out)
    replace HO971:=Aside0.mk (Kd.R_drew HO971.out)
    replace BK940:=Aside0.mk (blk_drew BK940.out)
    replace BK973:=Aside0.mk (blk_drew BK973.out)
    replace HB:=Aside0.mk (below_drew1 HB.out)
    refine start_ (n:=5) (S:=fun w'=>w'.cell? ⟨gb973,0,none⟩=some (.string t958)∧w'.cell? ⟨gb973,1,none⟩=some (.int .i64 t959)∧w'.cell? ⟨gb973,2,none⟩=some (.int .i64 t960)∧w'.cell? ⟨gb973,3,none⟩=some (.slice Ao28 t961.length co28)∧w'.cell? ⟨gb973,4,none⟩=some (.string t964)∧w'.cell? ⟨gb973,5,none⟩=some (.string t965)∧w'.cell? ⟨gb973,6,none⟩=some (.int .i64 t966)∧w'.cell? ⟨gb973,7,none⟩=some (.string t967)∧w'.cell? ⟨gb973,8,none⟩=some (.bool t968)∧w'.cell? ⟨gb973,9,none⟩=some (.slice Ao29 t969.length co29)∧w'.cell? ⟨gb973,10,none⟩=some (.string t972)∧w'.cell? ⟨gb940,0,none⟩=some (.string a0_0)∧w'.cell? ⟨gb940,1,none⟩=some (.int .i64 a0_1)∧w'.cell? ⟨gb940,2,none⟩=some (.int .i64 a0_2)∧w'.cell? ⟨gb940,3,none⟩=some (.slice A0_3 l0_3.length c0_3)∧w'.cell? ⟨gb940,4,none⟩=some (.string a0_4)∧w'.cell? ⟨gb940,5,none⟩=some (.string a0_5)∧w'.cell? ⟨gb940,6,none⟩=some (.int .i64 a0_6)∧w'.cell? ⟨gb940,7,none⟩=some (.string a0_7)∧w'.cell? ⟨gb940,8,none⟩=some (.bool a0_8)∧w'.cell? ⟨gb940,9,none⟩=some (.slice A0_9 l0_9.length c0_9)∧w'.cell? ⟨gb940,10,none⟩=some (.string a0_10)) (ds:=[]) #[false,false,false,false,false] (by kernel_rfl) rfl rfl ⟨(blk_cell BK973.out 0).trans rfl,(blk_cell BK973.out 1).trans rfl,(blk_cell BK973.out 2).trans rfl,(blk_cell BK973.out 3).trans rfl,(blk_cell BK973.out 4).trans rfl,(blk_cell BK973.out 5).trans rfl,(blk_cell BK973.out 6).trans rfl,(blk_cell BK973.out 7).trans rfl,(blk_cell BK973.out 8).trans rfl,(blk_cell BK973.out 9).trans rfl,(blk_cell BK973.out 10).trans rfl,(blk_cell BK940.out 0).trans rfl,(blk_cell BK940.out 1).trans rfl,(blk_cell BK940.out 2).trans rfl,(blk_cell BK940.out 3).trans rfl,(blk_cell BK940.out 4).trans rfl,(blk_cell BK940.out 5).trans rfl,(blk_cell BK940.out 6).trans rfl,(blk_cell BK940.out 7).trans rfl,(blk_cell BK940.out 8).trans rfl,(blk_cell BK940.out 9).trans rfl,(blk_cell BK940.out 10).trans rfl⟩ (fun hHeld=>?_)
    generalize wq7a.drew=wq8a at HO947 HO955 HO963 HO971 BK940 BK973 HB hHeld ⊢
    refine takeK_ 0 (some 22) (hy:=Or.inl ⟨by rfl,gq12⟩) ?_
    refine takeK_ 1 (some 23) (hy:=Or.inl ⟨by rfl,gq12⟩) ?_
    refine one_ (i:=2) (N:=some 24) #[true,true,true,false,false] rfl rfl (by kernel_rfl) (by decide) (fun K hK=>?_)
    refine goes_ Tryz.func12 (by kernel_rfl) rfl #[.agg #[.string a0_0,.int .i64 a0_1,.int .i64 a0_2,.slice A0_3 l0_3.length c0_3,.string a0_4,.string a0_5,.int .i64 a0_6,.string a0_7,.bool a0_8,.slice A0_9 l0_9.length c0_9,.string a0_10]] (by rfl) rfl rfl gq0 ?_
    with_reducible refine(laws_toEntry.calls k a0_0 a0_1 a0_2 _ _ l0_3 a0_4 a0_5 a0_6 a0_7 a0_8 _ _ l0_9 a0_10 t975 t976 t977 t978 t981 t982 t983 t984 t985 t986 t989 _ ?side1 ?side2 ?side3 ?side4 A12.out).mono ?_
    (case side1=>repeat(first|exact(Kd.C_below HR0_3.out HB.out)|(with_reducible refine Kd.C_alloc ?_ _)|(with_reducible refine Kd.C_drewN ?_ _)|(with_reducible refine Kd.C_drew ?_)))
    (case side2=>exact HC0_3.out)
    (case side3=>repeat(first|exact(Kd.C_below HR0_9.out HB.out)|(with_reducible refine Kd.C_alloc ?_ _)|(with_reducible refine Kd.C_drewN ?_ _)|(with_reducible refine Kd.C_drew ?_)))
    (case side4=>exact HC0_9.out)
    rintro e wq9a ⟨v979,v987,rfl,ho0,ho1,hb⟩
    refine⟨_,rfl,?_⟩
    have HO980:=Aside0.mk (Kd.R_lower (Kd.R_new' (Kd.R_new' (Kd.R_new' (Kd.R_new' ho0 (Kd.R_lt gq32)) (Kd.R_lt gq33)) (Kd.R_lt gq68)) (Kd.R_lt gq69)) (below_size gBe))
    have HO988:=Aside0.mk (Kd.R_lower (Kd.R_new' (Kd.R_new' (Kd.R_new' (Kd.R_new' ho1 (Kd.R_lt gq32)) (Kd.R_lt gq33)) (Kd.R_lt gq68)) (Kd.R_lt gq69)) (below_size gBe))
    replace HO947:=Aside0.mk (Kd.R_mono (Kd.R_told (Kd.R_told (Kd.R_old gq32 hb) (Kd.R_base ho0)) (Kd.R_base ho1)) (fun _ h_=>h_.1))
    replace HO955:=Aside0.mk (Kd.R_mono (Kd.R_told (Kd.R_told (Kd.R_old gq33 hb) (Kd.R_base ho0)) (Kd.R_base ho1)) (fun _ h_=>h_.1))
    replace HO963:=Aside0.mk (Kd.R_mono (Kd.R_told (Kd.R_told (Kd.R_old gq68 hb) (Kd.R_base ho0)) (Kd.R_base ho1)) (fun _ h_=>h_.1))
    replace HO971:=Aside0.mk (Kd.R_mono (Kd.R_told (Kd.R_told (Kd.R_old gq69 hb) (Kd.R_base ho0)) (Kd.R_base ho1)) (fun _ h_=>h_.1))
    replace BK940:=blA (g:=gb940) hb
    replace BK973:=blA (g:=gb973) hb
    replace HB:=beA hb
    (try clear hb)
    (try clear hb2)
    (try clear hk)
    (try clear hi)
    (try clear ho0)
    (try clear ho1)
    obtain⟨Ao33,co33,eo33⟩:=Kd.R_slice HO980.out
    (first|subst eo33|(injection eo33 with f1_ f2_ f3_;have f4_:=f1_.symm;have f5_:=f3_.symm;clear f1_ f2_ f3_;subst f4_;subst f5_))
    obtain⟨Ao34,co34,eo34⟩:=Kd.R_slice HO988.out
    (first|subst eo34|(injection eo34 with f1_ f2_ f3_;have f4_:=f1_.symm;have f5_:=f3_.symm;clear f1_ f2_ f3_;subst f4_;subst f5_))
    refine hK.out _ _ ⟨(blk_cell BK973.out 0).trans rfl,(blk_cell BK973.out 1).trans rfl,(blk_cell BK973.out 2).trans rfl,(blk_cell BK973.out 3).trans rfl,(blk_cell BK973.out 4).trans rfl,(blk_cell BK973.out 5).trans rfl,(blk_cell BK973.out 6).trans rfl,(blk_cell BK973.out 7).trans rfl,(blk_cell BK973.out 8).trans rfl,(blk_cell BK973.out 9).trans rfl,(blk_cell BK973.out 10).trans rfl,(blk_cell BK940.out 0).trans rfl,(blk_cell BK940.out 1).trans rfl,(blk_cell BK940.out 2).trans rfl,(blk_cell BK940.out 3).trans rfl,(blk_cell BK940.out 4).trans rfl,(blk_cell BK940.out 5).trans rfl,(blk_cell BK940.out 6).trans rfl,(blk_cell BK940.out 7).trans rfl,(blk_cell BK940.out 8).trans rfl,(blk_cell BK940.out 9).trans rfl,(blk_cell BK940.out 10).trans rfl⟩ (fun hHeld=>?_)
    clear hK K
    refine normA (some 24) ?_
    refine one_ (i:=3) (N:=some 25) #[true,true,true,true,false] rfl rfl (by kernel_rfl) (by decide) (fun K hK=>?_)
    refine goes_ Tryz.func14 (by kernel_rfl) rfl #[.agg #[.string t958,.int .i64 t959,.int .i64 t960,.slice Ao28 t961.length co28,.string t964,.string t965,.int .i64 t966,.string t967,.bool t968,.slice Ao29 t969.length co29,.string t972],.agg #[.string t975,.int .i64 t976,.int .i64 t977,.slice Ao33 t978.length co33,.string t981,.string t982,.int .i64 t983,.string t984,.bool t985,.slice Ao34 t986.length co34,.string t989]] (by rfl) rfl rfl gq0 ?_
    with_reducible refine(laws_eqEntry.calls k t958 t959 t960 _ _ t961 t964 t965 t966 t967 t968 _ _ t969 t972 t975 t976 t977 _ _ t978 t981 t982 t983 t984 t985 _ _ t986 t989 true _ ?side1 ?side2 ?side3 ?side4 ?side5 ?side6 ?side7 ?side8 A13.out).mono ?_
    (case side1=>repeat(first|exact(Kd.R_reads' HO963.out).2.2|(with_reducible refine Kd.C_alloc ?_ _)|(with_reducible refine Kd.C_drewN ?_ _)|(with_reducible refine Kd.C_drew ?_)))
    (case side2=>exact(Kd.R_reads' HO963.out).2.1)
    (case side3=>repeat(first|exact(Kd.R_reads' HO971.out).2.2|(with_reducible refine Kd.C_alloc ?_ _)|(with_reducible refine Kd.C_drewN ?_ _)|(with_reducible refine Kd.C_drew ?_)))
    (case side4=>exact(Kd.R_reads' HO971.out).2.1)
    (case side5=>repeat(first|exact(Kd.R_reads' HO980.out).2.2|(with_reducible refine Kd.C_alloc ?_ _)|(with_reducible refine Kd.C_drewN ?_ _)|(with_reducible refine Kd.C_drew ?_)))
    (case side6=>exact(Kd.R_reads' HO980.out).2.1)
    (case side7=>repeat(first|exact(Kd.R_reads' HO988.out).2.2|(with_reducible refine Kd.C_alloc ?_ _)|(with_reducible refine Kd.C_drewN ?_ _)|(with_reducible refine Kd.C_drew ?_)))
    (case side8=>exact(Kd.R_reads' HO988.out).2.1)
    rintro e wq10a ⟨rfl,hb⟩
    refine⟨_,rfl,?_⟩
    replace HO947:=Aside0.mk (Kd.R_below gq32 hb)
    replace HO955:=Aside0.mk (Kd.R_below gq33 hb)
    replace HO963:=Aside0.mk (Kd.R_below gq68 hb)
    replace HO971:=Aside0.mk (Kd.R_below gq69 hb)
    replace HO980:=Aside0.mk (Kd.R_below (by(with_reducible repeat(first|apply Kd.R_alloc|apply Kd.R_drewN|apply Kd.R_drew));exact HO980.out) hb)
    replace HO988:=Aside0.mk (Kd.R_below (by(with_reducible repeat(first|apply Kd.R_alloc|apply Kd.R_drewN|apply Kd.R_drew));exact HO988.out) hb)
    replace BK940:=blA (g:=gb940) hb
    replace BK973:=blA (g:=gb973) hb
    replace HB:=beA hb
    (try clear hb)
    (try clear hb2)
    (try clear hk)
    (try clear hi)
    refine hK.out _ _ ⟨(blk_cell BK973.out 0).trans rfl,(blk_cell BK973.out 1).trans rfl,(blk_cell BK973.out 2).trans rfl,(blk_cell BK973.out 3).trans rfl,(blk_cell BK973.out 4).trans rfl,(blk_cell BK973.out 5).trans rfl,(blk_cell BK973.out 6).trans rfl,(blk_cell BK973.out 7).trans rfl,(blk_cell BK973.out 8).trans rfl,(blk_cell BK973.out 9).trans rfl,(blk_cell BK973.out 10).trans rfl,(blk_cell BK940.out 0).trans rfl,(blk_cell BK940.out 1).trans rfl,(blk_cell BK940.out 2).trans rfl,(blk_cell BK940.out 3).trans rfl,(blk_cell BK940.out 4).trans rfl,(blk_cell BK940.out 5).trans rfl,(blk_cell BK940.out 6).trans rfl,(blk_cell BK940.out 7).trans rfl,(blk_cell BK940.out 8).trans rfl,(blk_cell BK940.out 9).trans rfl,(blk_cell BK940.out 10).trans rfl⟩ (fun hHeld=>?_)
    clear hK K
    refine normA (some 25) ?_
    refine pureK 4 (some 26) ?_
    refine done_ (by kernel_rfl) ?_
    try go_wp2
    go_ret
    exact⟨gq2,gBe⟩
   ·exact absurd H (by simp)

end Go.Proofs.YtfhllanhldbkkaaGreatDoor.P
