import Derived.Test.YtfhllanhldbkkaaGreatDoorPx0
import Derived.Test.YtfhllanhldbkkaaGreatDoorPxauxa
import Derived.Test.YtfhllanhldbkkaaGreatDoorWC
namespace Go.Proofs.YtfhllanhldbkkaaGreatDoor.P
open Go.RowKit Go.Proofs.YtfhllanhldbkkaaGreatDoorW.PrintWords Go.Proofs.YtfhllanhldbkkaaGreatDoorW.PrintLast Go.Proofs.YtfhllanhldbkkaaGreatDoorW.PrintMore
attribute [local go_sem] max2_int min2_int max_two min_two max_three min_three max_four min_four   -- for this text's walks alone
set_option linter.unusedVariables false
set_option linter.unusedSimpArgs false

def laws_eqMsg.f (k:Nat) (a0_0:ByteArray) (a0_1:ByteArray) (a0_2:Int) (a0_3:ByteArray) (a0_4:Bool) (l0_5:List (S72)) (a0_6:ByteArray) (a1_0:ByteArray) (a1_1:ByteArray) (a1_2:Int) (a1_3:ByteArray) (a1_4:Bool) (l1_5:List (S72)) (a1_6:ByteArray):Option (Bool):=if a0_0.toList=a1_0.toList then(if a0_1.toList=a1_1.toList then(if a0_2=a1_2 then(if a0_3.toList=a1_3.toList then(if(a0_4 != a1_4)=true then(some false) else((laws_eqFieldS.f k l0_5 l1_5).bind fun t935=>(if t935=true then(if a0_6.toList=a1_6.toList then(some true) else(some false)) else(some false)))) else(some false)) else(some false)) else(some false)) else(some false)
theorem laws_eqMsg.e0 {p:Prop} (h:p:=by
  obtain rfl:=Option.some.inj H
  go_enter Tryz.func41,Tryz.ntmps41
  go_wp2_with(first|((with_reducible refine gate_dst (N:=2) rfl ?_);refine boxA #[.string a0_0,.string a0_1,.int .i64 a0_2,.string a0_3,.bool a0_4,.slice A0_5 l0_5.length c0_5,.string a0_6] 31 ?_;intro gb933 hg wq0a hbox hb;have BK933:=Aside0.mk (hbox);have GW933:=geA hg;have GE933:=geA hg;replace HB:=beA hb;clear hb hbox hg)|((with_reducible refine gate_dst (N:=3) rfl ?_);refine boxA #[.string a1_0,.string a1_1,.int .i64 a1_2,.string a1_3,.bool a1_4,.slice A1_5 l1_5.length c1_5,.string a1_6] 31 ?_;intro gb934 hg wq10a hbox hb;have BK934:=Aside0.mk (hbox);have GW934:=geA hg;have GE934:=geA hg;have NB933_934:=neA (g:=gb933) hg;have NB934_933:=neB NB933_934;replace BK933:=blA (g:=gb933) hb;replace HB:=beA hb;clear hb hbox hg;have hnb55:=NB933_934.out;have hnc55:=NB934_933.out;obtain⟨_,_,_,_,_,_,_⟩:=czA7 BK933;obtain⟨_,_,_,_,_,_,_⟩:=cfA7 BK933;obtain⟨_,_,_,_,_,_,_⟩:=czA7 BK934;obtain⟨_,_,_,_,_,_,_⟩:=cfA7 BK934)|((with_reducible refine gate_dst (N:=3) rfl ?_);refine boxA #[.string a1_0,.string a1_1,.int .i64 a1_2,.string a1_3,.bool a1_4,.slice A1_5 l1_5.length c1_5,.string a1_6] 31 ?_;intro gb934 hg wq9a hbox hb;have BK934:=Aside0.mk (hbox);have GW934:=geA hg;have GE934:=geA hg;have NB933_934:=neA (g:=gb933) hg;have NB934_933:=neB NB933_934;replace BK933:=blA (g:=gb933) hb;replace HB:=beA hb;clear hb hbox hg;have hnb50:=NB933_934.out;have hnc50:=NB934_933.out;obtain⟨_,_,_,_,_,_,_⟩:=czA7 BK933;obtain⟨_,_,_,_,_,_,_⟩:=cfA7 BK933;obtain⟨_,_,_,_,_,_,_⟩:=czA7 BK934;obtain⟨_,_,_,_,_,_,_⟩:=cfA7 BK934)|((with_reducible refine gate_dst (N:=3) rfl ?_);refine boxA #[.string a1_0,.string a1_1,.int .i64 a1_2,.string a1_3,.bool a1_4,.slice A1_5 l1_5.length c1_5,.string a1_6] 31 ?_;intro gb934 hg wq8a hbox hb;have BK934:=Aside0.mk (hbox);have GW934:=geA hg;have GE934:=geA hg;have NB933_934:=neA (g:=gb933) hg;have NB934_933:=neB NB933_934;replace BK933:=blA (g:=gb933) hb;replace HB:=beA hb;clear hb hbox hg;have hnb45:=NB933_934.out;have hnc45:=NB934_933.out;obtain⟨_,_,_,_,_,_,_⟩:=czA7 BK933;obtain⟨_,_,_,_,_,_,_⟩:=cfA7 BK933;obtain⟨_,_,_,_,_,_,_⟩:=czA7 BK934;obtain⟨_,_,_,_,_,_,_⟩:=cfA7 BK934)|((with_reducible refine gate_dst (N:=3) rfl ?_);refine boxA #[.string a1_0,.string a1_1,.int .i64 a1_2,.string a1_3,.bool a1_4,.slice A1_5 l1_5.length c1_5,.string a1_6] 31 ?_;intro gb934 hg wq7a hbox hb;have BK934:=Aside0.mk (hbox);have GW934:=geA hg;have GE934:=geA hg;have NB933_934:=neA (g:=gb933) hg;have NB934_933:=neB NB933_934;replace BK933:=blA (g:=gb933) hb;replace HB:=beA hb;clear hb hbox hg;have hnb40:=NB933_934.out;have hnc40:=NB934_933.out;obtain⟨_,_,_,_,_,_,_⟩:=czA7 BK933;obtain⟨_,_,_,_,_,_,_⟩:=cfA7 BK933;obtain⟨_,_,_,_,_,_,_⟩:=czA7 BK934;obtain⟨_,_,_,_,_,_,_⟩:=cfA7 BK934)|((with_reducible refine gate_dst (N:=3) rfl ?_);refine boxA #[.string a1_0,.string a1_1,.int .i64 a1_2,.string a1_3,.bool a1_4,.slice A1_5 l1_5.length c1_5,.string a1_6] 31 ?_;intro gb934 hg wq5a hbox hb;have BK934:=Aside0.mk (hbox);have GW934:=geA hg;have GE934:=geA hg;have NB933_934:=neA (g:=gb933) hg;have NB934_933:=neB NB933_934;replace BK933:=blA (g:=gb933) hb;replace HB:=beA hb;clear hb hbox hg;have hnb34:=NB933_934.out;have hnc34:=NB934_933.out;obtain⟨_,_,_,_,_,_,_⟩:=czA7 BK933;obtain⟨_,_,_,_,_,_,_⟩:=cfA7 BK933;obtain⟨_,_,_,_,_,_,_⟩:=czA7 BK934;obtain⟨_,_,_,_,_,_,_⟩:=cfA7 BK934)|((with_reducible refine gate_callee (f:=40) rfl ?_);refine goesL_ (some 34) rfl rfl Tryz.func40 (by kernel_rfl) rfl #[.slice A0_5 l0_5.length c0_5,.slice A1_5 l1_5.length c1_5] rfl gq0 ?_;(with_reducible refine(laws_eqFieldS.calls k _ _ l0_5 _ _ l1_5 false _ ?side1 ?side2 ?side3 ?side4 A13.out).mono ?_);(case side1=>repeat(first|exact(Kd.C_below HR0_5.out HB.out)|(with_reducible refine Kd.C_alloc ?_ _)|(with_reducible refine Kd.C_drewN ?_ _)|(with_reducible refine Kd.C_drew ?_)));(case side2=>exact HC0_5.out);(case side3=>repeat(first|exact(Kd.C_below HR1_5.out HB.out)|(with_reducible refine Kd.C_alloc ?_ _)|(with_reducible refine Kd.C_drewN ?_ _)|(with_reducible refine Kd.C_drew ?_)));(case side4=>exact HC1_5.out);rintro e wq6a ⟨rfl,hb⟩;refine⟨_,rfl,?_⟩;replace BK933:=blA (g:=gb933) hb;replace BK934:=blA (g:=gb934) hb;replace HB:=beA hb;(try clear hb);(try clear hb2);(try clear hk);(try clear hi))|((with_reducible refine gate_dst (N:=3) rfl ?_);refine boxA #[.string a1_0,.string a1_1,.int .i64 a1_2,.string a1_3,.bool a1_4,.slice A1_5 l1_5.length c1_5,.string a1_6] 31 ?_;intro gb934 hg wq4a hbox hb;have BK934:=Aside0.mk (hbox);have GW934:=geA hg;have GE934:=geA hg;have NB933_934:=neA (g:=gb933) hg;have NB934_933:=neB NB933_934;replace BK933:=blA (g:=gb933) hb;replace HB:=beA hb;clear hb hbox hg;have hnb26:=NB933_934.out;have hnc26:=NB934_933.out;obtain⟨_,_,_,_,_,_,_⟩:=czA7 BK933;obtain⟨_,_,_,_,_,_,_⟩:=cfA7 BK933;obtain⟨_,_,_,_,_,_,_⟩:=czA7 BK934;obtain⟨_,_,_,_,_,_,_⟩:=cfA7 BK934)|((with_reducible refine gate_dst (N:=3) rfl ?_);refine boxA #[.string a1_0,.string a1_1,.int .i64 a1_2,.string a1_3,.bool a1_4,.slice A1_5 l1_5.length c1_5,.string a1_6] 31 ?_;intro gb934 hg wq2a hbox hb;have BK934:=Aside0.mk (hbox);have GW934:=geA hg;have GE934:=geA hg;have NB933_934:=neA (g:=gb933) hg;have NB934_933:=neB NB933_934;replace BK933:=blA (g:=gb933) hb;replace HB:=beA hb;clear hb hbox hg;have hnb18:=NB933_934.out;have hnc18:=NB934_933.out;obtain⟨_,_,_,_,_,_,_⟩:=czA7 BK933;obtain⟨_,_,_,_,_,_,_⟩:=cfA7 BK933;obtain⟨_,_,_,_,_,_,_⟩:=czA7 BK934;obtain⟨_,_,_,_,_,_,_⟩:=cfA7 BK934)|((with_reducible refine gate_callee (f:=40) rfl ?_);refine goesL_ (some 34) rfl rfl Tryz.func40 (by kernel_rfl) rfl #[.slice A0_5 l0_5.length c0_5,.slice A1_5 l1_5.length c1_5] rfl gq0 ?_;(with_reducible refine(laws_eqFieldS.calls k _ _ l0_5 _ _ l1_5 true _ ?side1 ?side2 ?side3 ?side4 A13.out).mono ?_);(case side1=>repeat(first|exact(Kd.C_below HR0_5.out HB.out)|(with_reducible refine Kd.C_alloc ?_ _)|(with_reducible refine Kd.C_drewN ?_ _)|(with_reducible refine Kd.C_drew ?_)));(case side2=>exact HC0_5.out);(case side3=>repeat(first|exact(Kd.C_below HR1_5.out HB.out)|(with_reducible refine Kd.C_alloc ?_ _)|(with_reducible refine Kd.C_drewN ?_ _)|(with_reducible refine Kd.C_drew ?_)));(case side4=>exact HC1_5.out);rintro e wq3a ⟨rfl,hb⟩;refine⟨_,rfl,?_⟩;replace BK933:=blA (g:=gb933) hb;replace BK934:=blA (g:=gb934) hb;replace HB:=beA hb;(try clear hb);(try clear hb2);(try clear hk);(try clear hi);obtain⟨_,_,_,_,_,_,_⟩:=czA7 BK933;obtain⟨_,_,_,_,_,_,_⟩:=cfA7 BK933;obtain⟨_,_,_,_,_,_,_⟩:=czA7 BK934;obtain⟨_,_,_,_,_,_,_⟩:=cfA7 BK934)|((with_reducible refine gate_dst (N:=3) rfl ?_);refine boxA #[.string a1_0,.string a1_1,.int .i64 a1_2,.string a1_3,.bool a1_4,.slice A1_5 l1_5.length c1_5,.string a1_6] 31 ?_;intro gb934 hg wq1a hbox hb;have BK934:=Aside0.mk (hbox);have GW934:=geA hg;have GE934:=geA hg;have NB933_934:=neA (g:=gb933) hg;have NB934_933:=neB NB933_934;replace BK933:=blA (g:=gb933) hb;replace HB:=beA hb;clear hb hbox hg;have hnb10:=NB933_934.out;have hnc10:=NB934_933.out;obtain⟨_,_,_,_,_,_,_⟩:=czA7 BK933;obtain⟨_,_,_,_,_,_,_⟩:=cfA7 BK933;obtain⟨_,_,_,_,_,_,_⟩:=czA7 BK934;obtain⟨_,_,_,_,_,_,_⟩:=cfA7 BK934))
  go_ret
  exact⟨gq2,gBe⟩):p:=h
set_option maxHeartbeats 8000000 in
set_option maxRecDepth 100000 in
theorem laws_eqMsg.calls (k:Nat) (a0_0:ByteArray) (a0_1:ByteArray) (a0_2:Int) (a0_3:ByteArray) (a0_4:Bool) (A0_5:Option Addr) (c0_5:Nat) (l0_5:List (S72)) (a0_6:ByteArray) (a1_0:ByteArray) (a1_1:ByteArray) (a1_2:Int) (a1_3:ByteArray) (a1_4:Bool) (A1_5:Option Addr) (c1_5:Nat) (l1_5:List (S72)) (a1_6:ByteArray) (r:Bool) (w:World) (hr0_5:Kd.C k72 w A0_5 l0_5.length l0_5) (hc0_5:l0_5.length≤c0_5) (hr1_5:Kd.C k72 w A1_5 l1_5.length l1_5) (hc1_5:l1_5.length≤c1_5) (h:laws_eqMsg.f k a0_0 a0_1 a0_2 a0_3 a0_4 l0_5 a0_6 a1_0 a1_1 a1_2 a1_3 a1_4 l1_5 a1_6=some r) :
  Calls Tryz.prog 41 #[.agg #[.string a0_0,.string a0_1,.int .i64 a0_2,.string a0_3,.bool a0_4,.slice A0_5 l0_5.length c0_5,.string a0_6],.agg #[.string a1_0,.string a1_1,.int .i64 a1_2,.string a1_3,.bool a1_4,.slice A1_5 l1_5.length c1_5,.string a1_6]] w fun e w'=>e = .returned (.bool r)∧Below w.heap.size w w':=by
 have hu31:=Tryz.underlying31
 have HR0_5:=Aside0.mk hr0_5
 have HC0_5:=Aside0.mk hc0_5
 clear hr0_5 hc0_5
 have HR1_5:=Aside0.mk hr1_5
 have HC1_5:=Aside0.mk hc1_5
 clear hr1_5 hc1_5
 have HB:=Aside0.mk (Below.refl w.heap.size w)
 have H:=h
 clear h
 unfold laws_eqMsg.f at H
 replace H:=gI H
 rcases H with⟨c3,-,-,H⟩|⟨c3,-,-,H⟩
 ·have c3b0:(a0_0.toList==a1_0.toList)=true:=beq_iff_eq.mpr c3
  have c3b1:(a0_0.toList != a1_0.toList)=false:=bne_eq_false_iff_eq.mpr c3
  clear c3
  replace H:=gI H
  rcases H with⟨c4,-,-,H⟩|⟨c4,-,-,H⟩
  ·have c4b0:(a0_1.toList==a1_1.toList)=true:=beq_iff_eq.mpr c4
   have c4b1:(a0_1.toList != a1_1.toList)=false:=bne_eq_false_iff_eq.mpr c4
   clear c4
   replace H:=gI H
   rcases H with⟨c5,-,-,H⟩|⟨c5,-,-,H⟩
   ·have c5b0:(a0_2==a1_2)=true:=beq_iff_eq.mpr c5
    have c5b1:(a0_2 != a1_2)=false:=bne_eq_false_iff_eq.mpr c5
    clear c5
    replace H:=gI H
    rcases H with⟨c6,-,-,H⟩|⟨c6,-,-,H⟩
    ·have c6b0:(a0_3.toList==a1_3.toList)=true:=beq_iff_eq.mpr c6
     have c6b1:(a0_3.toList != a1_3.toList)=false:=bne_eq_false_iff_eq.mpr c6
     clear c6
     replace H:=gI H
     rcases H with⟨c7,-,-,H⟩|⟨c7,-,-,H⟩
     ·have c7b0:(a0_4 != a1_4)=true:=c7
      (try(have c7b1:decide (a0_4=a1_4)=false:=by simpa using c7))
      (try(have c7b2:(a0_4==a1_4)=false:=by simpa using c7))
      (try(have c7b3:¬ (a0_4=a1_4):=by simpa using c7))
      clear c7
      exact laws_eqMsg.e0
     ·have c7b0:(a0_4 != a1_4)=false:=by simpa using c7
      (try(have c7b1:decide (a0_4=a1_4)=true:=by simpa using c7))
      (try(have c7b2:(a0_4==a1_4)=true:=by simpa using c7))
      clear c7
      replace H:=gD H
      obtain⟨t935,A13,H⟩:=H
      replace H:=gB H
      rcases H with⟨rfl,H⟩|⟨rfl,H⟩
      ·replace H:=gI H
       rcases H with⟨c15,-,-,H⟩|⟨c15,-,-,H⟩
       ·have c15b0:(a0_6.toList==a1_6.toList)=true:=beq_iff_eq.mpr c15
        have c15b1:(a0_6.toList != a1_6.toList)=false:=bne_eq_false_iff_eq.mpr c15
        clear c15
        exact laws_eqMsg.e0
       ·have c15b0:(a0_6.toList==a1_6.toList)=false:=beq_eq_false_iff_ne.mpr c15
        have c15b1:(a0_6.toList != a1_6.toList)=true:=bne_iff_ne.mpr c15
        exact laws_eqMsg.e0
      ·exact laws_eqMsg.e0
    ·have c6b0:(a0_3.toList==a1_3.toList)=false:=beq_eq_false_iff_ne.mpr c6
     have c6b1:(a0_3.toList != a1_3.toList)=true:=bne_iff_ne.mpr c6
     exact laws_eqMsg.e0
   ·have c5b0:(a0_2==a1_2)=false:=beq_eq_false_iff_ne.mpr c5
    have c5b1:(a0_2 != a1_2)=true:=bne_iff_ne.mpr c5
    exact laws_eqMsg.e0
  ·have c4b0:(a0_1.toList==a1_1.toList)=false:=beq_eq_false_iff_ne.mpr c4
   have c4b1:(a0_1.toList != a1_1.toList)=true:=bne_iff_ne.mpr c4
   exact laws_eqMsg.e0
 ·have c3b0:(a0_0.toList==a1_0.toList)=false:=beq_eq_false_iff_ne.mpr c3
  have c3b1:(a0_0.toList != a1_0.toList)=true:=bne_iff_ne.mpr c3
  exact laws_eqMsg.e0


def laws_eqEntry.f (k:Nat) (a0_0:ByteArray) (a0_1:Int) (a0_2:Int) (l0_3:List (S72)) (a0_4:ByteArray) (a0_5:ByteArray) (a0_6:Int) (a0_7:ByteArray) (a0_8:Bool) (l0_9:List (S72)) (a0_10:ByteArray) (a1_0:ByteArray) (a1_1:Int) (a1_2:Int) (l1_3:List (S72)) (a1_4:ByteArray) (a1_5:ByteArray) (a1_6:Int) (a1_7:ByteArray) (a1_8:Bool) (l1_9:List (S72)) (a1_10:ByteArray):Option (Bool):=if a0_0.toList=a1_0.toList then(if a0_1=a1_1 then(if a0_2=a1_2 then((laws_eqFieldS.f k l0_3 l1_3).bind fun t938=>(if t938=true then((laws_eqMsg.f k a0_4 a0_5 a0_6 a0_7 a0_8 l0_9 a0_10 a1_4 a1_5 a1_6 a1_7 a1_8 l1_9 a1_10).bind fun t939=>(if t939=true then(some true) else(some false))) else(some false))) else(some false)) else(some false)) else(some false)
theorem laws_eqEntry.e0 {p:Prop} (h:p:=by
  obtain rfl:=Option.some.inj H
  go_enter Tryz.func14,Tryz.ntmps14
  go_wp2_with(first|((with_reducible refine gate_dst (N:=2) rfl ?_);refine boxA #[.string a0_0,.int .i64 a0_1,.int .i64 a0_2,.slice A0_3 l0_3.length c0_3,.string a0_4,.string a0_5,.int .i64 a0_6,.string a0_7,.bool a0_8,.slice A0_9 l0_9.length c0_9,.string a0_10] 33 ?_;intro gb936 hg wq0a hbox hb;have BK936:=Aside0.mk (hbox);have GW936:=geA hg;have GE936:=geA hg;replace HB:=beA hb;clear hb hbox hg)|((with_reducible refine gate_dst (N:=3) rfl ?_);refine boxA #[.string a1_0,.int .i64 a1_1,.int .i64 a1_2,.slice A1_3 l1_3.length c1_3,.string a1_4,.string a1_5,.int .i64 a1_6,.string a1_7,.bool a1_8,.slice A1_9 l1_9.length c1_9,.string a1_10] 33 ?_;intro gb937 hg wq10a hbox hb;have BK937:=Aside0.mk (hbox);have GW937:=geA hg;have GE937:=geA hg;have NB936_937:=neA (g:=gb936) hg;have NB937_936:=neB NB936_937;replace BK936:=blA (g:=gb936) hb;replace HB:=beA hb;clear hb hbox hg;have hnb46:=NB936_937.out;have hnc46:=NB937_936.out;obtain⟨_,_,_,_,_,_,_,_,_,_,_⟩:=czA11 BK936;obtain⟨_,_,_,_,_,_,_,_,_,_,_⟩:=cfA11 BK936;obtain⟨_,_,_,_,_,_,_,_,_,_,_⟩:=czA11 BK937;obtain⟨_,_,_,_,_,_,_,_,_,_,_⟩:=cfA11 BK937)|((with_reducible refine gate_dst (N:=3) rfl ?_);refine boxA #[.string a1_0,.int .i64 a1_1,.int .i64 a1_2,.slice A1_3 l1_3.length c1_3,.string a1_4,.string a1_5,.int .i64 a1_6,.string a1_7,.bool a1_8,.slice A1_9 l1_9.length c1_9,.string a1_10] 33 ?_;intro gb937 hg wq9a hbox hb;have BK937:=Aside0.mk (hbox);have GW937:=geA hg;have GE937:=geA hg;have NB936_937:=neA (g:=gb936) hg;have NB937_936:=neB NB936_937;replace BK936:=blA (g:=gb936) hb;replace HB:=beA hb;clear hb hbox hg;have hnb41:=NB936_937.out;have hnc41:=NB937_936.out;obtain⟨_,_,_,_,_,_,_,_,_,_,_⟩:=czA11 BK936;obtain⟨_,_,_,_,_,_,_,_,_,_,_⟩:=cfA11 BK936;obtain⟨_,_,_,_,_,_,_,_,_,_,_⟩:=czA11 BK937;obtain⟨_,_,_,_,_,_,_,_,_,_,_⟩:=cfA11 BK937)|((with_reducible refine gate_dst (N:=3) rfl ?_);refine boxA #[.string a1_0,.int .i64 a1_1,.int .i64 a1_2,.slice A1_3 l1_3.length c1_3,.string a1_4,.string a1_5,.int .i64 a1_6,.string a1_7,.bool a1_8,.slice A1_9 l1_9.length c1_9,.string a1_10] 33 ?_;intro gb937 hg wq8a hbox hb;have BK937:=Aside0.mk (hbox);have GW937:=geA hg;have GE937:=geA hg;have NB936_937:=neA (g:=gb936) hg;have NB937_936:=neB NB936_937;replace BK936:=blA (g:=gb936) hb;replace HB:=beA hb;clear hb hbox hg;have hnb36:=NB936_937.out;have hnc36:=NB937_936.out;obtain⟨_,_,_,_,_,_,_,_,_,_,_⟩:=czA11 BK936;obtain⟨_,_,_,_,_,_,_,_,_,_,_⟩:=cfA11 BK936;obtain⟨_,_,_,_,_,_,_,_,_,_,_⟩:=czA11 BK937;obtain⟨_,_,_,_,_,_,_,_,_,_,_⟩:=cfA11 BK937)|((with_reducible refine gate_dst (N:=3) rfl ?_);refine boxA #[.string a1_0,.int .i64 a1_1,.int .i64 a1_2,.slice A1_3 l1_3.length c1_3,.string a1_4,.string a1_5,.int .i64 a1_6,.string a1_7,.bool a1_8,.slice A1_9 l1_9.length c1_9,.string a1_10] 33 ?_;intro gb937 hg wq6a hbox hb;have BK937:=Aside0.mk (hbox);have GW937:=geA hg;have GE937:=geA hg;have NB936_937:=neA (g:=gb936) hg;have NB937_936:=neB NB936_937;replace BK936:=blA (g:=gb936) hb;replace HB:=beA hb;clear hb hbox hg;have hnb30:=NB936_937.out;have hnc30:=NB937_936.out;obtain⟨_,_,_,_,_,_,_,_,_,_,_⟩:=czA11 BK936;obtain⟨_,_,_,_,_,_,_,_,_,_,_⟩:=cfA11 BK936;obtain⟨_,_,_,_,_,_,_,_,_,_,_⟩:=czA11 BK937;obtain⟨_,_,_,_,_,_,_,_,_,_,_⟩:=cfA11 BK937)|((with_reducible refine gate_callee (f:=40) rfl ?_);refine goesL_ (some 24) rfl rfl Tryz.func40 (by kernel_rfl) rfl #[.slice A0_3 l0_3.length c0_3,.slice A1_3 l1_3.length c1_3] rfl gq0 ?_;(with_reducible refine(laws_eqFieldS.calls k _ _ l0_3 _ _ l1_3 false _ ?side1 ?side2 ?side3 ?side4 A6.out).mono ?_);(case side1=>repeat(first|exact(Kd.C_below HR0_3.out HB.out)|(with_reducible refine Kd.C_alloc ?_ _)|(with_reducible refine Kd.C_drewN ?_ _)|(with_reducible refine Kd.C_drew ?_)));(case side2=>exact HC0_3.out);(case side3=>repeat(first|exact(Kd.C_below HR1_3.out HB.out)|(with_reducible refine Kd.C_alloc ?_ _)|(with_reducible refine Kd.C_drewN ?_ _)|(with_reducible refine Kd.C_drew ?_)));(case side4=>exact HC1_3.out);rintro e wq7a ⟨rfl,hb⟩;refine⟨_,rfl,?_⟩;replace BK936:=blA (g:=gb936) hb;replace BK937:=blA (g:=gb937) hb;replace HB:=beA hb;(try clear hb);(try clear hb2);(try clear hk);(try clear hi))|((with_reducible refine gate_dst (N:=3) rfl ?_);refine boxA #[.string a1_0,.int .i64 a1_1,.int .i64 a1_2,.slice A1_3 l1_3.length c1_3,.string a1_4,.string a1_5,.int .i64 a1_6,.string a1_7,.bool a1_8,.slice A1_9 l1_9.length c1_9,.string a1_10] 33 ?_;intro gb937 hg wq4a hbox hb;have BK937:=Aside0.mk (hbox);have GW937:=geA hg;have GE937:=geA hg;have NB936_937:=neA (g:=gb936) hg;have NB937_936:=neB NB936_937;replace BK936:=blA (g:=gb936) hb;replace HB:=beA hb;clear hb hbox hg;have hnb21:=NB936_937.out;have hnc21:=NB937_936.out;obtain⟨_,_,_,_,_,_,_,_,_,_,_⟩:=czA11 BK936;obtain⟨_,_,_,_,_,_,_,_,_,_,_⟩:=cfA11 BK936;obtain⟨_,_,_,_,_,_,_,_,_,_,_⟩:=czA11 BK937;obtain⟨_,_,_,_,_,_,_,_,_,_,_⟩:=cfA11 BK937)|((with_reducible refine gate_dst (N:=3) rfl ?_);refine boxA #[.string a1_0,.int .i64 a1_1,.int .i64 a1_2,.slice A1_3 l1_3.length c1_3,.string a1_4,.string a1_5,.int .i64 a1_6,.string a1_7,.bool a1_8,.slice A1_9 l1_9.length c1_9,.string a1_10] 33 ?_;intro gb937 hg wq1a hbox hb;have BK937:=Aside0.mk (hbox);have GW937:=geA hg;have GE937:=geA hg;have NB936_937:=neA (g:=gb936) hg;have NB937_936:=neB NB936_937;replace BK936:=blA (g:=gb936) hb;replace HB:=beA hb;clear hb hbox hg;have hnb12:=NB936_937.out;have hnc12:=NB937_936.out;obtain⟨_,_,_,_,_,_,_,_,_,_,_⟩:=czA11 BK936;obtain⟨_,_,_,_,_,_,_,_,_,_,_⟩:=cfA11 BK936;obtain⟨_,_,_,_,_,_,_,_,_,_,_⟩:=czA11 BK937;obtain⟨_,_,_,_,_,_,_,_,_,_,_⟩:=cfA11 BK937)|((with_reducible refine gate_callee (f:=40) rfl ?_);refine goesL_ (some 24) rfl rfl Tryz.func40 (by kernel_rfl) rfl #[.slice A0_3 l0_3.length c0_3,.slice A1_3 l1_3.length c1_3] rfl gq0 ?_;(with_reducible refine(laws_eqFieldS.calls k _ _ l0_3 _ _ l1_3 true _ ?side1 ?side2 ?side3 ?side4 A6.out).mono ?_);(case side1=>repeat(first|exact(Kd.C_below HR0_3.out HB.out)|(with_reducible refine Kd.C_alloc ?_ _)|(with_reducible refine Kd.C_drewN ?_ _)|(with_reducible refine Kd.C_drew ?_)));(case side2=>exact HC0_3.out);(case side3=>repeat(first|exact(Kd.C_below HR1_3.out HB.out)|(with_reducible refine Kd.C_alloc ?_ _)|(with_reducible refine Kd.C_drewN ?_ _)|(with_reducible refine Kd.C_drew ?_)));(case side4=>exact HC1_3.out);rintro e wq2a ⟨rfl,hb⟩;refine⟨_,rfl,?_⟩;replace BK936:=blA (g:=gb936) hb;replace BK937:=blA (g:=gb937) hb;replace HB:=beA hb;(try clear hb);(try clear hb2);(try clear hk);(try clear hi);obtain⟨_,_,_,_,_,_,_,_,_,_,_⟩:=czA11 BK936;obtain⟨_,_,_,_,_,_,_,_,_,_,_⟩:=cfA11 BK936;obtain⟨_,_,_,_,_,_,_,_,_,_,_⟩:=czA11 BK937;obtain⟨_,_,_,_,_,_,_,_,_,_,_⟩:=cfA11 BK937)|((with_reducible refine gate_callee (f:=41) rfl ?_);refine goesL_ (some 30) rfl rfl Tryz.func41 (by kernel_rfl) rfl #[.agg #[.string a0_4,.string a0_5,.int .i64 a0_6,.string a0_7,.bool a0_8,.slice A0_9 l0_9.length c0_9,.string a0_10],.agg #[.string a1_4,.string a1_5,.int .i64 a1_6,.string a1_7,.bool a1_8,.slice A1_9 l1_9.length c1_9,.string a1_10]] rfl gq0 ?_;(with_reducible refine(laws_eqMsg.calls k a0_4 a0_5 a0_6 a0_7 a0_8 _ _ l0_9 a0_10 a1_4 a1_5 a1_6 a1_7 a1_8 _ _ l1_9 a1_10 false _ ?side1 ?side2 ?side3 ?side4 A8.out).mono ?_);(case side1=>repeat(first|exact(Kd.C_below HR0_9.out HB.out)|(with_reducible refine Kd.C_alloc ?_ _)|(with_reducible refine Kd.C_drewN ?_ _)|(with_reducible refine Kd.C_drew ?_)));(case side2=>exact HC0_9.out);(case side3=>repeat(first|exact(Kd.C_below HR1_9.out HB.out)|(with_reducible refine Kd.C_alloc ?_ _)|(with_reducible refine Kd.C_drewN ?_ _)|(with_reducible refine Kd.C_drew ?_)));(case side4=>exact HC1_9.out);rintro e wq5a ⟨rfl,hb⟩;refine⟨_,rfl,?_⟩;replace BK936:=blA (g:=gb936) hb;replace BK937:=blA (g:=gb937) hb;replace HB:=beA hb;(try clear hb);(try clear hb2);(try clear hk);(try clear hi))|((with_reducible refine gate_callee (f:=41) rfl ?_);refine goesL_ (some 30) rfl rfl Tryz.func41 (by kernel_rfl) rfl #[.agg #[.string a0_4,.string a0_5,.int .i64 a0_6,.string a0_7,.bool a0_8,.slice A0_9 l0_9.length c0_9,.string a0_10],.agg #[.string a1_4,.string a1_5,.int .i64 a1_6,.string a1_7,.bool a1_8,.slice A1_9 l1_9.length c1_9,.string a1_10]] rfl gq0 ?_;(with_reducible refine(laws_eqMsg.calls k a0_4 a0_5 a0_6 a0_7 a0_8 _ _ l0_9 a0_10 a1_4 a1_5 a1_6 a1_7 a1_8 _ _ l1_9 a1_10 true _ ?side1 ?side2 ?side3 ?side4 A8.out).mono ?_);(case side1=>repeat(first|exact(Kd.C_below HR0_9.out HB.out)|(with_reducible refine Kd.C_alloc ?_ _)|(with_reducible refine Kd.C_drewN ?_ _)|(with_reducible refine Kd.C_drew ?_)));(case side2=>exact HC0_9.out);(case side3=>repeat(first|exact(Kd.C_below HR1_9.out HB.out)|(with_reducible refine Kd.C_alloc ?_ _)|(with_reducible refine Kd.C_drewN ?_ _)|(with_reducible refine Kd.C_drew ?_)));(case side4=>exact HC1_9.out);rintro e wq3a ⟨rfl,hb⟩;refine⟨_,rfl,?_⟩;replace BK936:=blA (g:=gb936) hb;replace BK937:=blA (g:=gb937) hb;replace HB:=beA hb;(try clear hb);(try clear hb2);(try clear hk);(try clear hi)))
  go_ret
  exact⟨gq2,gBe⟩):p:=h
set_option maxHeartbeats 8000000 in
set_option maxRecDepth 100000 in
theorem laws_eqEntry.calls (k:Nat) (a0_0:ByteArray) (a0_1:Int) (a0_2:Int) (A0_3:Option Addr) (c0_3:Nat) (l0_3:List (S72)) (a0_4:ByteArray) (a0_5:ByteArray) (a0_6:Int) (a0_7:ByteArray) (a0_8:Bool) (A0_9:Option Addr) (c0_9:Nat) (l0_9:List (S72)) (a0_10:ByteArray) (a1_0:ByteArray) (a1_1:Int) (a1_2:Int) (A1_3:Option Addr) (c1_3:Nat) (l1_3:List (S72)) (a1_4:ByteArray) (a1_5:ByteArray) (a1_6:Int) (a1_7:ByteArray) (a1_8:Bool) (A1_9:Option Addr) (c1_9:Nat) (l1_9:List (S72)) (a1_10:ByteArray) (r:Bool) (w:World) (hr0_3:Kd.C k72 w A0_3 l0_3.length l0_3) (hc0_3:l0_3.length≤c0_3) (hr0_9:Kd.C k72 w A0_9 l0_9.length l0_9) (hc0_9:l0_9.length≤c0_9) (hr1_3:Kd.C k72 w A1_3 l1_3.length l1_3) (hc1_3:l1_3.length≤c1_3) (hr1_9:Kd.C k72 w A1_9 l1_9.length l1_9) (hc1_9:l1_9.length≤c1_9) (h:laws_eqEntry.f k a0_0 a0_1 a0_2 l0_3 a0_4 a0_5 a0_6 a0_7 a0_8 l0_9 a0_10 a1_0 a1_1 a1_2 l1_3 a1_4 a1_5 a1_6 a1_7 a1_8 l1_9 a1_10=some r) :
  Calls Tryz.prog 14 #[.agg #[.string a0_0,.int .i64 a0_1,.int .i64 a0_2,.slice A0_3 l0_3.length c0_3,.string a0_4,.string a0_5,.int .i64 a0_6,.string a0_7,.bool a0_8,.slice A0_9 l0_9.length c0_9,.string a0_10],.agg #[.string a1_0,.int .i64 a1_1,.int .i64 a1_2,.slice A1_3 l1_3.length c1_3,.string a1_4,.string a1_5,.int .i64 a1_6,.string a1_7,.bool a1_8,.slice A1_9 l1_9.length c1_9,.string a1_10]] w fun e w'=>e = .returned (.bool r)∧Below w.heap.size w w':=by
 have hu33:=Tryz.underlying33
 have hu31:=Tryz.underlying31
 have HR0_3:=Aside0.mk hr0_3
 have HC0_3:=Aside0.mk hc0_3
 clear hr0_3 hc0_3
 have HR0_9:=Aside0.mk hr0_9
 have HC0_9:=Aside0.mk hc0_9
 clear hr0_9 hc0_9
 have HR1_3:=Aside0.mk hr1_3
 have HC1_3:=Aside0.mk hc1_3
 clear hr1_3 hc1_3
 have HR1_9:=Aside0.mk hr1_9
 have HC1_9:=Aside0.mk hc1_9
 clear hr1_9 hc1_9
 have HB:=Aside0.mk (Below.refl w.heap.size w)
 have H:=h
 clear h
 unfold laws_eqEntry.f at H
 replace H:=gI H
 rcases H with⟨c3,-,-,H⟩|⟨c3,-,-,H⟩
 ·have c3b0:(a0_0.toList==a1_0.toList)=true:=beq_iff_eq.mpr c3
  have c3b1:(a0_0.toList != a1_0.toList)=false:=bne_eq_false_iff_eq.mpr c3
  clear c3
  replace H:=gI H
  rcases H with⟨c4,-,-,H⟩|⟨c4,-,-,H⟩
  ·have c4b0:(a0_1==a1_1)=true:=beq_iff_eq.mpr c4
   have c4b1:(a0_1 != a1_1)=false:=bne_eq_false_iff_eq.mpr c4
   clear c4
   replace H:=gI H
   rcases H with⟨c5,-,-,H⟩|⟨c5,-,-,H⟩
   ·have c5b0:(a0_2==a1_2)=true:=beq_iff_eq.mpr c5
    have c5b1:(a0_2 != a1_2)=false:=bne_eq_false_iff_eq.mpr c5
    clear c5
    replace H:=gD H
    obtain⟨t938,A6,H⟩:=H
    replace H:=gB H
    rcases H with⟨rfl,H⟩|⟨rfl,H⟩
    ·replace H:=gD H
     obtain⟨t939,A8,H⟩:=H
     replace H:=gB H
     rcases H with⟨rfl,H⟩|⟨rfl,H⟩
     ·exact laws_eqEntry.e0
     ·exact laws_eqEntry.e0
    ·exact laws_eqEntry.e0
   ·have c5b0:(a0_2==a1_2)=false:=beq_eq_false_iff_ne.mpr c5
    have c5b1:(a0_2 != a1_2)=true:=bne_iff_ne.mpr c5
    exact laws_eqEntry.e0
  ·have c4b0:(a0_1==a1_1)=false:=beq_eq_false_iff_ne.mpr c4
   have c4b1:(a0_1 != a1_1)=true:=bne_iff_ne.mpr c4
   exact laws_eqEntry.e0
 ·have c3b0:(a0_0.toList==a1_0.toList)=false:=beq_eq_false_iff_ne.mpr c3
  have c3b1:(a0_0.toList != a1_0.toList)=true:=bne_iff_ne.mpr c3
  exact laws_eqEntry.e0

end Go.Proofs.YtfhllanhldbkkaaGreatDoor.P
