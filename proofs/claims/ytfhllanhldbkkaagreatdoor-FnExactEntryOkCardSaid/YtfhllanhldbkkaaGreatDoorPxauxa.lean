import Derived.Test.YtfhllanhldbkkaaGreatDoorPx0
import Derived.Test.YtfhllanhldbkkaaGreatDoorWC
namespace Go.Proofs.YtfhllanhldbkkaaGreatDoor.P
open Go.RowKit Go.Proofs.YtfhllanhldbkkaaGreatDoorW.PrintWords Go.Proofs.YtfhllanhldbkkaaGreatDoorW.PrintLast Go.Proofs.YtfhllanhldbkkaaGreatDoorW.PrintMore
attribute [local go_sem] max2_int min2_int max_two min_two max_three min_three max_four min_four   -- for this text's walks alone
set_option linter.unusedVariables false
set_option linter.unusedSimpArgs false

def laws_szField.f (a0_0:ByteArray) (a0_1:ByteArray) (a1:Int):Option (Int):=if(wrap64 (a1-(a0_0.size:Int)))<0 then(some (-1)) else(if(wrap64 ((wrap64 (a1-(a0_0.size:Int)))-(a0_1.size:Int)))<0 then(some (-1)) else(some (wrap64 ((wrap64 (a1-(a0_0.size:Int)))-(a0_1.size:Int)))))
theorem laws_szField.e0 {p:Prop} (h:p:=by
  obtain rfl:=Option.some.inj H
  go_enter Tryz.func56,Tryz.ntmps56
  go_wp2_with(((with_reducible refine gate_dst (N:=2) rfl ?_);refine boxA #[.string a0_0,.string a0_1] 69 ?_;intro gb104 hg wq0a hbox hb;have BK104:=Aside0.mk (hbox);have GW104:=geA hg;have GE104:=geA hg;replace HB:=beA hb;clear hb hbox hg;obtain⟨_,_⟩:=czA2 BK104;obtain⟨_,_⟩:=cfA2 BK104))
  go_ret
  exact⟨gq2,gBe⟩):p:=h
set_option maxHeartbeats 8000000 in
set_option maxRecDepth 100000 in
theorem laws_szField.calls (a0_0:ByteArray) (a0_1:ByteArray) (a1:Int) (r:Int) (w:World) (h:laws_szField.f a0_0 a0_1 a1=some r) :
  Calls Tryz.prog 56 #[.agg #[.string a0_0,.string a0_1],.int .i64 a1] w fun e w'=>e = .returned (.int .i64 r)∧Below w.heap.size w w':=by
 have hu69:=Tryz.underlying69
 have HB:=Aside0.mk (Below.refl w.heap.size w)
 have H:=h
 clear h
 unfold laws_szField.f at H
 replace H:=gI H
 rcases H with⟨-,c3b0,-,H⟩|⟨-,c3b0,-,H⟩
 ·exact laws_szField.e0
 ·replace H:=gI H
  rcases H with⟨-,c6b0,-,H⟩|⟨-,c6b0,-,H⟩
  ·exact laws_szField.e0
  ·exact laws_szField.e0

def laws_szFieldS.l0 : Nat→List (S69)→Int→Int→Option (Int)
 |0,_,_,_=>none
 |k+1,x0,x1,x5=>if x5<(x0.length:Int) then(if 0≤x5 then((laws_szField.f ((rd_T69 x0 x5).f0) ((rd_T69 x0 x5).f1) x1).bind fun t106=>(if t106<0 then(some (-1)) else(laws_szFieldS.l0 k x0 t106 (wrap64 (x5+1))))) else(none)) else(some x1)
def laws_szFieldS.f (k:Nat) (l0:List (S69)) (a1:Int):Option (Int):=if(wrap64 (a1-(l0.length:Int)))<0 then(some (-1)) else(laws_szFieldS.l0 k l0 (wrap64 (a1-(l0.length:Int))) 0)
set_option maxHeartbeats 8000000 in
set_option maxRecDepth 100000 in
theorem laws_szFieldS.calls (k:Nat) (A0:Option Addr) (c0:Nat) (l0:List (S69)) (a1:Int) (r:Int) (w:World) (hr0:Kd.C k69 w A0 l0.length l0) (hc0:l0.length≤c0) (h:laws_szFieldS.f k l0 a1=some r) :
  Calls Tryz.prog 28 #[.slice A0 l0.length c0,.int .i64 a1] w fun e w'=>e = .returned (.int .i64 r)∧Below w.heap.size w w':=by
 have hu69:=Tryz.underlying69
 have HR0:=Aside0.mk hr0
 have HC0:=Aside0.mk hc0
 clear hr0 hc0
 have HB:=Aside0.mk (Below.refl w.heap.size w)
 have H:=h
 clear h
 unfold laws_szFieldS.f at H
 replace H:=gI H
 rcases H with⟨-,c3b0,-,H⟩|⟨-,c3b0,-,H⟩
 ·obtain rfl:=Option.some.inj H
  go_enter Tryz.func28,Tryz.ntmps28
  go_wp2
  go_ret
  exact⟨gq2,gBe⟩
 ·have H':=Aside0.mk H
  clear H
  go_enter Tryz.func28,Tryz.ntmps28
  go_wp2
  go_loopg [1,5] k (fun kq v1 v5 w'=>∃(x1_1:Int) (x5_1:Int),v1 = .int .i64 x1_1∧v5 = .int .i64 x5_1∧Aside0 (laws_szFieldS.l0 kq l0 x1_1 x5_1=some r)∧Aside0 (kq≤k)∧Aside0 (Below w.heap.size w w'))
  case atStart=>exact⟨(wrap64 (a1-(l0.length:Int))),(0),gq4,gq4,H',⟨Nat.le_refl _⟩,⟨gBe⟩⟩
  case round=>
   clear H'
   try clear c3b0
   obtain⟨x1_1,x5_1,rfl,rfl,HA,HK1,HB⟩:=hrel
   cases gk with
   |zero=>exact absurd HA.out (by simp[laws_szFieldS.l0])
   |succ k1=>
    have H:=HA.out
    clear HA
    simp only[laws_szFieldS.l0] at H
    replace H:=gI H
    rcases H with⟨-,c4b0,-,H⟩|⟨-,c4b0,-,H⟩
    ·replace H:=gN H
     obtain⟨-,c5b0,-,H⟩:=H
     replace H:=gD H
     obtain⟨t106,A6,H⟩:=H
     replace H:=gI H
     rcases H with⟨-,c7b0,-,H⟩|⟨-,c7b0,-,H⟩
     ·obtain rfl:=Option.some.inj H
      have p105:0≤(x5_1:Int):=of_decide_eq_true gq3
      have q105:x5_1<(l0.length:Int):=of_decide_eq_true gq3
      obtain⟨ad105,e105,hx105_0,hx105_1⟩:=at_T69 HR0.out x5_1 p105 q105
      cases e105
      replace hx105_0:=(HB.out.cell (World.block_lt_of_cell? w _ hx105_0)).trans hx105_0
      replace hx105_1:=(HB.out.cell (World.block_lt_of_cell? w _ hx105_1)).trans hx105_1
      replace p105:=eq_true p105
      replace q105:=eq_true q105
      go_wp2_with(((with_reducible refine gate_callee (f:=56) rfl ?_);refine goesL_ (some 23) rfl rfl Tryz.func56 (by kernel_rfl) rfl #[.agg #[.string ((rd_T69 l0 x5_1).f0),.string ((rd_T69 l0 x5_1).f1)],.int .i64 x1_1] rfl gq0 ?_;(with_reducible refine(laws_szField.calls ((rd_T69 l0 x5_1).f0) ((rd_T69 l0 x5_1).f1) x1_1 t106 _ A6.out).mono ?_);rintro e wq0a ⟨rfl,hb⟩;refine⟨_,rfl,?_⟩;replace HB:=beA hb;(try clear hb);(try clear hb2);(try clear hk);(try clear hi)))
      go_ret
      exact⟨gq2,gBe⟩
     ·have H':=Aside0.mk H
      clear H
      have p105:0≤(x5_1:Int):=of_decide_eq_true gq3
      have q105:x5_1<(l0.length:Int):=of_decide_eq_true gq3
      obtain⟨ad105,e105,hx105_0,hx105_1⟩:=at_T69 HR0.out x5_1 p105 q105
      cases e105
      replace hx105_0:=(HB.out.cell (World.block_lt_of_cell? w _ hx105_0)).trans hx105_0
      replace hx105_1:=(HB.out.cell (World.block_lt_of_cell? w _ hx105_1)).trans hx105_1
      replace p105:=eq_true p105
      replace q105:=eq_true q105
      go_wp2_with(((with_reducible refine gate_callee (f:=56) rfl ?_);refine goesL_ (some 23) rfl rfl Tryz.func56 (by kernel_rfl) rfl #[.agg #[.string ((rd_T69 l0 x5_1).f0),.string ((rd_T69 l0 x5_1).f1)],.int .i64 x1_1] rfl gq0 ?_;(with_reducible refine(laws_szField.calls ((rd_T69 l0 x5_1).f0) ((rd_T69 l0 x5_1).f1) x1_1 t106 _ A6.out).mono ?_);rintro e wq0a ⟨rfl,hb⟩;refine⟨_,rfl,?_⟩;replace HB:=beA hb;(try clear hb);(try clear hb2);(try clear hk);(try clear hi)))
      go_roundg k1
      case measure=>have:=HK1.out;omega
      case rel=>exact⟨(t106),(wrap64 (x5_1+1)),gq4,gq4,H',⟨by have:=HK1.out;omega⟩,⟨gBe⟩⟩
    ·obtain rfl:=Option.some.inj H
     go_wp2
     go_ret
     exact⟨gq2,gBe⟩

def laws_szMsg.f (k:Nat) (a0_0:ByteArray) (a0_1:ByteArray) (a0_2:Int) (a0_3:ByteArray) (a0_4:Bool) (l0_5:List (S69)) (a0_6:ByteArray) (a1:Int):Option (Int):=if(wrap64 (a1-(a0_0.size:Int)))<0 then(some (-1)) else(if(wrap64 ((wrap64 (a1-(a0_0.size:Int)))-(a0_1.size:Int)))<0 then(some (-1)) else(if(wrap64 ((wrap64 ((wrap64 (a1-(a0_0.size:Int)))-(a0_1.size:Int)))-(a0_3.size:Int)))<0 then(some (-1)) else((laws_szFieldS.f k l0_5 (wrap64 ((wrap64 ((wrap64 (a1-(a0_0.size:Int)))-(a0_1.size:Int)))-(a0_3.size:Int)))).bind fun t110=>(if t110<0 then(some (-1)) else(if(wrap64 (t110-(a0_6.size:Int)))<0 then(some (-1)) else(some (wrap64 (t110-(a0_6.size:Int)))))))))
theorem laws_szMsg.e0 {p:Prop} (h:p:=by
  obtain rfl:=Option.some.inj H
  go_enter Tryz.func29,Tryz.ntmps29
  go_wp2_with(first|((with_reducible refine gate_dst (N:=2) rfl ?_);refine boxA #[.string a0_0,.string a0_1,.int .i64 a0_2,.string a0_3,.bool a0_4,.slice A0_5 l0_5.length c0_5,.string a0_6] 24 ?_;intro gb109 hg wq0a hbox hb;have BK109:=Aside0.mk (hbox);have GW109:=geA hg;have GE109:=geA hg;replace HB:=beA hb;clear hb hbox hg;obtain⟨_,_,_,_,_,_,_⟩:=czA7 BK109;obtain⟨_,_,_,_,_,_,_⟩:=cfA7 BK109)|((with_reducible refine gate_callee (f:=28) rfl ?_);refine goesL_ (some 29) rfl rfl Tryz.func28 (by kernel_rfl) rfl #[.slice A0_5 l0_5.length c0_5,.int .i64 (wrap64 ((wrap64 ((wrap64 (a1-(a0_0.size:Int)))-(a0_1.size:Int)))-(a0_3.size:Int)))] rfl gq0 ?_;(with_reducible refine(laws_szFieldS.calls k _ _ l0_5 (wrap64 ((wrap64 ((wrap64 (a1-(a0_0.size:Int)))-(a0_1.size:Int)))-(a0_3.size:Int))) t110 _ ?side1 ?side2 A12.out).mono ?_);(case side1=>repeat(first|exact(Kd.C_below HR0_5.out HB.out)|(with_reducible refine Kd.C_alloc ?_ _)|(with_reducible refine Kd.C_drewN ?_ _)|(with_reducible refine Kd.C_drew ?_)));(case side2=>exact HC0_5.out);rintro e wq2a ⟨rfl,hb⟩;refine⟨_,rfl,?_⟩;replace BK109:=blA (g:=gb109) hb;replace HB:=beA hb;(try clear hb);(try clear hb2);(try clear hk);(try clear hi);obtain⟨_,_,_,_,_,_,_⟩:=czA7 BK109;obtain⟨_,_,_,_,_,_,_⟩:=cfA7 BK109)|((with_reducible refine gate_callee (f:=28) rfl ?_);refine goesL_ (some 29) rfl rfl Tryz.func28 (by kernel_rfl) rfl #[.slice A0_5 l0_5.length c0_5,.int .i64 (wrap64 ((wrap64 ((wrap64 (a1-(a0_0.size:Int)))-(a0_1.size:Int)))-(a0_3.size:Int)))] rfl gq0 ?_;(with_reducible refine(laws_szFieldS.calls k _ _ l0_5 (wrap64 ((wrap64 ((wrap64 (a1-(a0_0.size:Int)))-(a0_1.size:Int)))-(a0_3.size:Int))) t110 _ ?side1 ?side2 A12.out).mono ?_);(case side1=>repeat(first|exact(Kd.C_below HR0_5.out HB.out)|(with_reducible refine Kd.C_alloc ?_ _)|(with_reducible refine Kd.C_drewN ?_ _)|(with_reducible refine Kd.C_drew ?_)));(case side2=>exact HC0_5.out);rintro e wq1a ⟨rfl,hb⟩;refine⟨_,rfl,?_⟩;replace BK109:=blA (g:=gb109) hb;replace HB:=beA hb;(try clear hb);(try clear hb2);(try clear hk);(try clear hi)))
  go_ret
  exact⟨gq2,gBe⟩):p:=h
set_option maxHeartbeats 8000000 in
set_option maxRecDepth 100000 in
theorem laws_szMsg.calls (k:Nat) (a0_0:ByteArray) (a0_1:ByteArray) (a0_2:Int) (a0_3:ByteArray) (a0_4:Bool) (A0_5:Option Addr) (c0_5:Nat) (l0_5:List (S69)) (a0_6:ByteArray) (a1:Int) (r:Int) (w:World) (hr0_5:Kd.C k69 w A0_5 l0_5.length l0_5) (hc0_5:l0_5.length≤c0_5) (h:laws_szMsg.f k a0_0 a0_1 a0_2 a0_3 a0_4 l0_5 a0_6 a1=some r) :
  Calls Tryz.prog 29 #[.agg #[.string a0_0,.string a0_1,.int .i64 a0_2,.string a0_3,.bool a0_4,.slice A0_5 l0_5.length c0_5,.string a0_6],.int .i64 a1] w fun e w'=>e = .returned (.int .i64 r)∧Below w.heap.size w w':=by
 have hu24:=Tryz.underlying24
 have HR0_5:=Aside0.mk hr0_5
 have HC0_5:=Aside0.mk hc0_5
 clear hr0_5 hc0_5
 have HB:=Aside0.mk (Below.refl w.heap.size w)
 have H:=h
 clear h
 unfold laws_szMsg.f at H
 replace H:=gI H
 rcases H with⟨-,c3b0,-,H⟩|⟨-,c3b0,-,H⟩
 ·exact laws_szMsg.e0
 ·replace H:=gI H
  rcases H with⟨-,c6b0,-,H⟩|⟨-,c6b0,-,H⟩
  ·exact laws_szMsg.e0
  ·replace H:=gI H
   rcases H with⟨-,c9b0,-,H⟩|⟨-,c9b0,-,H⟩
   ·exact laws_szMsg.e0
   ·replace H:=gD H
    obtain⟨t110,A12,H⟩:=H
    replace H:=gI H
    rcases H with⟨-,c13b0,-,H⟩|⟨-,c13b0,-,H⟩
    ·exact laws_szMsg.e0
    ·replace H:=gI H
     rcases H with⟨-,c17b0,-,H⟩|⟨-,c17b0,-,H⟩
     ·exact laws_szMsg.e0
     ·exact laws_szMsg.e0


def laws_szEntry.f (k:Nat) (a0_0:ByteArray) (a0_1:Int) (a0_2:Int) (l0_3:List (S69)) (a0_4:ByteArray) (a0_5:ByteArray) (a0_6:Int) (a0_7:ByteArray) (a0_8:Bool) (l0_9:List (S69)) (a0_10:ByteArray) (a1:Int):Option (Int):=if(wrap64 (a1-(a0_0.size:Int)))<0 then(some (-1)) else((laws_szFieldS.f k l0_3 (wrap64 (a1-(a0_0.size:Int)))).bind fun t112=>(if t112<0 then(some (-1)) else((laws_szMsg.f k a0_4 a0_5 a0_6 a0_7 a0_8 l0_9 a0_10 t112).bind fun t113=>(if t113<0 then(some (-1)) else(some t113)))))
theorem laws_szEntry.e0 {p:Prop} (h:p:=by
  obtain rfl:=Option.some.inj H
  go_enter Tryz.func10,Tryz.ntmps10
  go_wp2_with(first|((with_reducible refine gate_dst (N:=2) rfl ?_);refine boxA #[.string a0_0,.int .i64 a0_1,.int .i64 a0_2,.slice A0_3 l0_3.length c0_3,.string a0_4,.string a0_5,.int .i64 a0_6,.string a0_7,.bool a0_8,.slice A0_9 l0_9.length c0_9,.string a0_10] 26 ?_;intro gb111 hg wq0a hbox hb;have BK111:=Aside0.mk (hbox);have GW111:=geA hg;have GE111:=geA hg;replace HB:=beA hb;clear hb hbox hg;obtain⟨_,_,_,_,_,_,_,_,_,_,_⟩:=czA11 BK111;obtain⟨_,_,_,_,_,_,_,_,_,_,_⟩:=cfA11 BK111)|((with_reducible refine gate_callee (f:=28) rfl ?_);refine goesL_ (some 15) rfl rfl Tryz.func28 (by kernel_rfl) rfl #[.slice A0_3 l0_3.length c0_3,.int .i64 (wrap64 (a1-(a0_0.size:Int)))] rfl gq0 ?_;(with_reducible refine(laws_szFieldS.calls k _ _ l0_3 (wrap64 (a1-(a0_0.size:Int))) t112 _ ?side1 ?side2 A6.out).mono ?_);(case side1=>repeat(first|exact(Kd.C_below HR0_3.out HB.out)|(with_reducible refine Kd.C_alloc ?_ _)|(with_reducible refine Kd.C_drewN ?_ _)|(with_reducible refine Kd.C_drew ?_)));(case side2=>exact HC0_3.out);rintro e wq2a ⟨rfl,hb⟩;refine⟨_,rfl,?_⟩;replace BK111:=blA (g:=gb111) hb;replace HB:=beA hb;(try clear hb);(try clear hb2);(try clear hk);(try clear hi);obtain⟨_,_,_,_,_,_,_,_,_,_,_⟩:=czA11 BK111;obtain⟨_,_,_,_,_,_,_,_,_,_,_⟩:=cfA11 BK111)|((with_reducible refine gate_callee (f:=29) rfl ?_);refine goesL_ (some 21) rfl rfl Tryz.func29 (by kernel_rfl) rfl #[.agg #[.string a0_4,.string a0_5,.int .i64 a0_6,.string a0_7,.bool a0_8,.slice A0_9 l0_9.length c0_9,.string a0_10],.int .i64 t112] rfl gq0 ?_;(with_reducible refine(laws_szMsg.calls k a0_4 a0_5 a0_6 a0_7 a0_8 _ _ l0_9 a0_10 t112 t113 _ ?side1 ?side2 A11.out).mono ?_);(case side1=>repeat(first|exact(Kd.C_below HR0_9.out HB.out)|(with_reducible refine Kd.C_alloc ?_ _)|(with_reducible refine Kd.C_drewN ?_ _)|(with_reducible refine Kd.C_drew ?_)));(case side2=>exact HC0_9.out);rintro e wq3a ⟨rfl,hb⟩;refine⟨_,rfl,?_⟩;replace BK111:=blA (g:=gb111) hb;replace HB:=beA hb;(try clear hb);(try clear hb2);(try clear hk);(try clear hi))|((with_reducible refine gate_callee (f:=28) rfl ?_);refine goesL_ (some 15) rfl rfl Tryz.func28 (by kernel_rfl) rfl #[.slice A0_3 l0_3.length c0_3,.int .i64 (wrap64 (a1-(a0_0.size:Int)))] rfl gq0 ?_;(with_reducible refine(laws_szFieldS.calls k _ _ l0_3 (wrap64 (a1-(a0_0.size:Int))) t112 _ ?side1 ?side2 A6.out).mono ?_);(case side1=>repeat(first|exact(Kd.C_below HR0_3.out HB.out)|(with_reducible refine Kd.C_alloc ?_ _)|(with_reducible refine Kd.C_drewN ?_ _)|(with_reducible refine Kd.C_drew ?_)));(case side2=>exact HC0_3.out);rintro e wq1a ⟨rfl,hb⟩;refine⟨_,rfl,?_⟩;replace BK111:=blA (g:=gb111) hb;replace HB:=beA hb;(try clear hb);(try clear hb2);(try clear hk);(try clear hi)))
  go_ret
  exact⟨gq2,gBe⟩):p:=h
set_option maxHeartbeats 8000000 in
set_option maxRecDepth 100000 in
theorem laws_szEntry.calls (k:Nat) (a0_0:ByteArray) (a0_1:Int) (a0_2:Int) (A0_3:Option Addr) (c0_3:Nat) (l0_3:List (S69)) (a0_4:ByteArray) (a0_5:ByteArray) (a0_6:Int) (a0_7:ByteArray) (a0_8:Bool) (A0_9:Option Addr) (c0_9:Nat) (l0_9:List (S69)) (a0_10:ByteArray) (a1:Int) (r:Int) (w:World) (hr0_3:Kd.C k69 w A0_3 l0_3.length l0_3) (hc0_3:l0_3.length≤c0_3) (hr0_9:Kd.C k69 w A0_9 l0_9.length l0_9) (hc0_9:l0_9.length≤c0_9) (h:laws_szEntry.f k a0_0 a0_1 a0_2 l0_3 a0_4 a0_5 a0_6 a0_7 a0_8 l0_9 a0_10 a1=some r) :
  Calls Tryz.prog 10 #[.agg #[.string a0_0,.int .i64 a0_1,.int .i64 a0_2,.slice A0_3 l0_3.length c0_3,.string a0_4,.string a0_5,.int .i64 a0_6,.string a0_7,.bool a0_8,.slice A0_9 l0_9.length c0_9,.string a0_10],.int .i64 a1] w fun e w'=>e = .returned (.int .i64 r)∧Below w.heap.size w w':=by
 have hu26:=Tryz.underlying26
 have hu24:=Tryz.underlying24
 have HR0_3:=Aside0.mk hr0_3
 have HC0_3:=Aside0.mk hc0_3
 clear hr0_3 hc0_3
 have HR0_9:=Aside0.mk hr0_9
 have HC0_9:=Aside0.mk hc0_9
 clear hr0_9 hc0_9
 have HB:=Aside0.mk (Below.refl w.heap.size w)
 have H:=h
 clear h
 unfold laws_szEntry.f at H
 replace H:=gI H
 rcases H with⟨-,c3b0,-,H⟩|⟨-,c3b0,-,H⟩
 ·exact laws_szEntry.e0
 ·replace H:=gD H
  obtain⟨t112,A6,H⟩:=H
  replace H:=gI H
  rcases H with⟨-,c7b0,-,H⟩|⟨-,c7b0,-,H⟩
  ·exact laws_szEntry.e0
  ·replace H:=gD H
   obtain⟨t113,A11,H⟩:=H
   replace H:=gI H
   rcases H with⟨-,c12b0,-,H⟩|⟨-,c12b0,-,H⟩
   ·exact laws_szEntry.e0
   ·exact laws_szEntry.e0

def laws_toField.f (a0_0:ByteArray) (a0_1:ByteArray):Option (ByteArray×ByteArray):=some (a0_0,a0_1)
set_option maxHeartbeats 8000000 in
set_option maxRecDepth 100000 in
theorem laws_toField.calls (a0_0:ByteArray) (a0_1:ByteArray) (r1:ByteArray) (r2:ByteArray) (w:World) (h:laws_toField.f a0_0 a0_1=some (r1,r2)) :
  Calls Tryz.prog 63 #[.agg #[.string a0_0,.string a0_1]] w fun e w'=>e = .returned (.agg #[.string r1,.string r2])∧Below w.heap.size w w':=by
 have hu69:=Tryz.underlying69
 have hu72:=Tryz.underlying72
 have HB:=Aside0.mk (Below.refl w.heap.size w)
 have H:=h
 clear h
 unfold laws_toField.f at H
 simp only[Option.some.injEq,Prod.mk.injEq] at H
 obtain⟨rfl,rfl⟩:=H
 go_enter Tryz.func63,Tryz.ntmps63
 go_wp2_with(first|((with_reducible refine gate_dst (N:=1) rfl ?_);refine boxA #[.string a0_0,.string a0_1] 69 ?_;intro gb123 hg w2 hbox hb;have BK123:=Aside0.mk (hbox);have GE123:=geA hg;replace HB:=beA hb;clear hb hbox hg)|((with_reducible refine gate_dst (N:=2) rfl ?_);refine boxA #[.string (⟨#[]⟩:ByteArray),.string (⟨#[]⟩:ByteArray)] 72 ?_;intro gb124 hg w3 hbox hb;have BK124:=Aside0.mk (hbox);have GE124:=geA hg;have NB123_124:=neA (g:=gb123) hg;have NB124_123:=neB NB123_124;replace BK123:=blA (g:=gb123) hb;replace HB:=beA hb;clear hb hbox hg)|((with_reducible refine gate_dst (N:=3) rfl ?_);refine boxA #[.string (⟨#[]⟩:ByteArray),.string (⟨#[]⟩:ByteArray)] 72 ?_;intro gb125 hg w4 hbox hb;have BK125:=Aside0.mk (hbox);have GE125:=geA hg;have NB123_125:=neA (g:=gb123) hg;have NB125_123:=neB NB123_125;have NB124_125:=neA (g:=gb124) hg;have NB125_124:=neB NB124_125;replace BK123:=blA (g:=gb123) hb;replace BK124:=blA (g:=gb124) hb;replace HB:=beA hb;clear hb hbox hg;have hnb5:=NB123_124.out;have hnc5:=NB124_123.out;have hnb6:=NB123_125.out;have hnc6:=NB125_123.out;obtain⟨_,_⟩:=czA2 BK123;obtain⟨_,_⟩:=cfA2 BK123;have hnb8:=NB125_124.out;have hnc8:=NB124_125.out;obtain⟨_,_⟩:=czA2 BK125;obtain⟨_,_⟩:=cfA2 BK125;obtain⟨_,_⟩:=czA2 BK124;obtain⟨_,_⟩:=cfA2 BK124))
 refine bodyPost_ret (results_cell_row rfl _ _ gb124 72 #[.string a0_0,.string a0_1] (0,0) _ rfl (by(with_reducible repeat(first|refine blk_drewN ?_ _|refine blk_drew ?_|refine blk_alloc ?_ _));refine blk_put (cs:=#[.string a0_0,.string (⟨#[]⟩:ByteArray)]) ?_ 1 _ rfl;(with_reducible repeat(first|refine blk_drewN ?_ _|refine blk_drew ?_|refine blk_alloc ?_ _));refine blk_put (cs:=#[.string (⟨#[]⟩:ByteArray),.string (⟨#[]⟩:ByteArray)]) ?_ 0 _ rfl;(with_reducible repeat(first|refine blk_drewN ?_ _|refine blk_drew ?_|refine blk_alloc ?_ _));refine blk_far ?_ NB124_125.out _;(with_reducible repeat(first|refine blk_drewN ?_ _|refine blk_drew ?_|refine blk_alloc ?_ _));refine blk_far ?_ NB124_125.out _;(with_reducible repeat(first|refine blk_drewN ?_ _|refine blk_drew ?_|refine blk_alloc ?_ _));exact BK124.out) Tryz.underlying72 rfl (by kernel_rfl)) rfl ?_
 exact⟨gq2,gBe⟩


def laws_toFieldS.l0 : Nat→List (S69)→List (S72)→Int→Option ((List (S72)))
 |0,_,_,_=>none
 |k+1,x0,x3,x4=>if x4<(x0.length:Int) then(if 0≤x4 then((laws_toField.f ((rd_T69 x0 x4).f0) ((rd_T69 x0 x4).f1)).bind fun bt130=>(if x4<(x3.length:Int) then(laws_toFieldS.l0 k x0 (x3.set (x4:Int).toNat (⟨bt130.1,bt130.2⟩:S72)) (wrap64 (x4+1))) else(none))) else(none)) else(some x3)
def laws_toFieldS.f (k:Nat) (l0:List (S69)):Option ((List (S72))):=if 0≤(l0.length:Int) then(if((l0.length:Int):Int).toNat≤8796093022208 then(laws_toFieldS.l0 k l0 (List.replicate ((l0.length:Int):Int).toNat z72) 0) else(none)) else(none)
set_option maxHeartbeats 8000000 in
set_option maxRecDepth 100000 in
theorem laws_toFieldS.calls (k:Nat) (A0:Option Addr) (c0:Nat) (l0:List (S69)) (r:List (S72)) (w:World) (hr0:Kd.C k69 w A0 l0.length l0) (hc0:l0.length≤c0) (h:laws_toFieldS.f k l0=some r) :
  Calls Tryz.prog 34 #[.slice A0 l0.length c0] w fun e w'=>∃ v0_:Value,e = .returned (v0_)∧Kd.R k72 72 w' w.heap.size (fun _=>True) v0_ r∧Below w.heap.size w w':=by
 have hu69:=Tryz.underlying69
 have hu72:=Tryz.underlying72
 have HR0:=Aside0.mk hr0
 have HC0:=Aside0.mk hc0
 clear hr0 hc0
 have HB:=Aside0.mk (Below.refl w.heap.size w)
 have H:=h
 clear h
 unfold laws_toFieldS.f at H
 replace H:=gI H
 rcases H with⟨-,c2b1,c2b0,H⟩|⟨c2,-,-,H⟩
 ·replace H:=gN H
  obtain⟨-,c3b1,c3b0,H⟩:=H
  obtain⟨y126,hy126⟩:∃ y_:List (S72),y_=(List.replicate ((l0.length:Int):Int).toNat z72):=⟨_,rfl⟩
  replace H:(laws_toFieldS.l0 k l0 y126 0)=some r:=by first|(rw[hy126];with_reducible exact H)|(have H2_:=(Option.bind_some _ _).symm.trans H;rw[hy126];with_reducible exact H2_)|(have H2_:=(Option.bind_some _ _).symm.trans H;with_reducible exact H2_)|with_reducible exact H|(rw[hy126];exact H)|exact H
  have Ny126:=Aside0.mk hy126
  clear hy126
  have H':=Aside0.mk H
  clear H
  go_enter Tryz.func34,Tryz.ntmps34
  go_wp2_with(first|((with_reducible refine gate_dst (N:=7) rfl ?_);refine Kd.R_make k72 _ 72 rfl (N:=7) rfl 29 _ _ rfl (l0.length:Int) rfl rfl Tryz.underlying29 (.agg #[(.string ⟨#[]⟩),(.string ⟨#[]⟩)]) 32 info72 rfl (by decide) (by omega) z72 (ok:=fun _=>True) (okp:=fun _=>True) (k72_mkM _ _ _ z72 ) (fun _ hk=>hk) trivial (of_decide_eq_true gq3) (Nat.le_trans (Nat.mul_le_mul_right _ (of_decide_eq_true gq3:(l0.length:Int).toNat≤8796093022208)) (by omega)) (Below.refl _ _) (Nat.le_refl _) ?_;intro v127 w4 ho5 hb hg_ hnew_;clear hg_ hnew_;(first|rw[← Ny126.out] at ho5|(simp only[Int.reduceToNat] at ho5;rw[← Ny126.out] at ho5));have HO128:=Aside0.mk (Kd.R_lower ho5 (below_size gBe));replace HB:=beA hb;clear hb ho5))
  go_loopg [4] k (fun kq v4 w'=>∃(x3_1:List (S72)) (x4_1:Int),v4 = .int .i64 x4_1∧Aside0 (laws_toFieldS.l0 kq l0 x3_1 x4_1=some r)∧Aside0 (kq≤k)∧Aside0 (Kd.R k72 72 w' w.heap.size (fun _=>True) v127 x3_1)∧Aside0 (Below w.heap.size w w'))
  case atStart=>exact⟨(y126),(0),gq4,H',⟨Nat.le_refl _⟩,⟨gRo⟩,⟨gBe⟩⟩
  case round=>
   clear H'
   try clear c2
   try clear c2b0
   try clear c2b1
   try clear c3b0
   try clear c3b1
   obtain⟨x3_1,x4_1,rfl,HA,HK1,HO_3,HB⟩:=hrel
   cases gk with
   |zero=>exact absurd HA.out (by simp[laws_toFieldS.l0])
   |succ k1=>
    have H:=HA.out
    clear HA
    simp only[laws_toFieldS.l0] at H
    replace H:=gI H
    rcases H with⟨-,c6b0,-,H⟩|⟨-,c6b0,-,H⟩
    ·replace H:=gN H
     obtain⟨-,c7b0,-,H⟩:=H
     replace H:=gD H
     obtain⟨⟨t130,t131⟩,A8,H⟩:=H
     dsimp only at H
     replace H:=gN H
     obtain⟨-,c9b0,-,H⟩:=H
     obtain⟨y132,hy132⟩:∃ y_:List (S72),y_=(x3_1.set (x4_1:Int).toNat (⟨t130,t131⟩:S72)):=⟨_,rfl⟩
     replace H:(laws_toFieldS.l0 k1 l0 y132 (wrap64 (x4_1+1)))=some r:=by first|(rw[hy132];with_reducible exact H)|(have H2_:=(Option.bind_some _ _).symm.trans H;rw[hy132];with_reducible exact H2_)|(have H2_:=(Option.bind_some _ _).symm.trans H;with_reducible exact H2_)|with_reducible exact H|(rw[hy132];exact H)|exact H
     have Ny132:=Aside0.mk hy132
     clear hy132
     have H':=Aside0.mk H
     clear H
     have p129:0≤(x4_1:Int):=of_decide_eq_true gq3
     have q129:x4_1<(l0.length:Int):=of_decide_eq_true gq3
     obtain⟨ad129,e129,hx129_0,hx129_1⟩:=at_T69 HR0.out x4_1 p129 q129
     cases e129
     replace hx129_0:=(HB.out.cell (World.block_lt_of_cell? w _ hx129_0)).trans hx129_0
     replace hx129_1:=(HB.out.cell (World.block_lt_of_cell? w _ hx129_1)).trans hx129_1
     replace p129:=eq_true p129
     replace q129:=eq_true q129
     go_wp2_with(first|((with_reducible refine gate_callee (f:=63) rfl ?_);refine goesL_ (some 20) rfl rfl Tryz.func63 (by kernel_rfl) rfl #[.agg #[.string ((rd_T69 l0 x4_1).f0),.string ((rd_T69 l0 x4_1).f1)]] rfl gq0 ?_;(with_reducible refine(laws_toField.calls ((rd_T69 l0 x4_1).f0) ((rd_T69 l0 x4_1).f1) t130 t131 _ A8.out).mono ?_);rintro e w11 ⟨rfl,hb⟩;refine⟨_,rfl,?_⟩;replace HO_3:=Aside0.mk (Kd.R_below gq9 hb);replace HB:=beA hb;(try clear hb);(try clear hb2);(try clear hk);(try clear hi);have p10:0≤(x4_1:Int):=of_decide_eq_true gq3;have q10:(x4_1:Int)<((x3_1.length:Int):Int):=of_decide_eq_true gq3;obtain⟨go10,co10,eo10,gb10,gl10,cl10,HG10⟩:=Kd.R_form HO_3.out (by omega);(first|cases eo10|(injection eo10 with ea_ en_ ec_;(first|subst ea_|(injection ea_ with ea_;subst ea_));subst ec_;clear en_));have GB10:=Aside0.mk gb10;have GG10:=Aside0.mk HG10;clear gb10 gl10 HG10;obtain⟨ce10,hcl10,hM10,hcc10,hfr10⟩:=Kd.R_elem HO_3.out z72 (x4_1:Int) p10 q10;obtain rfl:=k72_openM hM10;have hx10_0:w11.cell? ⟨go10,(x4_1:Int).toNat*2,none⟩=some (.string ((rd_T72 x3_1 x4_1).f0)):=hcc10 0 _ rfl;have hx10_1:w11.cell? ⟨go10,(x4_1:Int).toNat*2+1,none⟩=some (.string ((rd_T72 x3_1 x4_1).f1)):=hcc10 1 _ rfl;have hf10_0:w11.frozen? ⟨go10,(x4_1:Int).toNat*2,none⟩=false:=hfr10 0;have hf10_1:w11.frozen? ⟨go10,(x4_1:Int).toNat*2+1,none⟩=false:=hfr10 1;clear hcl10 hcc10 hfr10 hM10;replace p10:=eq_true p10;replace q10:=eq_true q10;have HX12:=Aside0.mk (show Kd.R k72 72 w11 w.heap.size (fun _=>True) (.slice (some ⟨go10,0,none⟩) x3_1.length co10) x3_1 from gq9);obtain⟨ce12,hcl12,hM12,hcc12,hfr12⟩:=Kd.R_elem HX12.out z72 (x4_1:Int) (of_decide_eq_true gq3) (by have h_:(x4_1:Int)<((x3_1.length:Int):Int):=of_decide_eq_true gq3;first|exact h_|(have e_:=(Kd.R_reads' HO_3.out).1;omega)|simpa using h_);obtain rfl:=k72_openM hM12;have HP12:=Kd.R_seg HX12.out (x4_1:Int) (of_decide_eq_true gq3) (by have h_:(x4_1:Int)<((x3_1.length:Int):Int):=of_decide_eq_true gq3;first|exact h_|(have e_:=(Kd.R_reads' HO_3.out).1;omega)|simpa using h_) (seg:=[.string t130,.string t131]) (j:=0) hcl12 hcc12 (show 2≤2 from by decide) (x':=(⟨t130,t131⟩:S72)) (k72_mkM _ _ _ (⟨t130,t131⟩:S72) ) (fun _ hk=>hk);have hx12_0:=hcc12 0 _ rfl;(try simp only[show(k72).sz=2 from rfl,Nat.mul_one,Nat.add_zero] at hx12_0);have hf12_0:=hfr12 0;(try simp only[show(k72).sz=2 from rfl,Nat.mul_one,Nat.add_zero] at hf12_0);have hx12_1:=hcc12 1 _ rfl;(try simp only[show(k72).sz=2 from rfl,Nat.mul_one,Nat.add_zero] at hx12_1);have hf12_1:=hfr12 1;(try simp only[show(k72).sz=2 from rfl,Nat.mul_one,Nat.add_zero] at hf12_1);clear hcl12 hcc12 hfr12 hM12)|((with_reducible refine gate_store (t:=72) (p:=21) rfl ?_);refine store_event (t:=72) (p:=21) (v:=?vo_w13) (w1:=((w11.setCell ⟨go10,(x4_1:Int).toNat*2,none⟩ (.string t130)).setCell ⟨go10,(x4_1:Int).toNat*2+1,none⟩ (.string t131))) ?hg ?ho ?hn ?hr ?_;(case ho=>rfl);(case hg=>rfl);(case hn=>rfl);(case hr=>first|(go_simp;done)|(go_simp;rfl));intro w13 hw;have hg:w11.grownBy w13 (some go10):=(by rw[hw];exact HP12.2);have hp_:Kd.R k72 72 w13 w.heap.size (fun _=>True) (.slice (some ⟨go10,0,none⟩) x3_1.length co10) y132:=(by rw[hw,Ny132.out];exact HP12.1);clear HP12;replace HO_3:=Aside0.mk (hp_);replace HB:=Aside0.mk ((by rw[hw];exact below_set (below_set (HB.out) GB10.out) GB10.out:Below w.heap.size w w13));clear hg hw hp_))
     go_roundg k1
     case measure=>have:=HK1.out;omega
     case rel=>exact⟨(y132),(wrap64 (x4_1+1)),gq4,H',⟨by have:=HK1.out;omega⟩,⟨gRo⟩,⟨gBe⟩⟩
    ·obtain rfl:=Option.some.inj H
     go_wp2
     go_ret
     exact⟨_,gq2,gRo,gBe⟩
 ·exact absurd H (by simp)

def laws_toMsg.f (k:Nat) (a0_0:ByteArray) (a0_1:ByteArray) (a0_2:Int) (a0_3:ByteArray) (a0_4:Bool) (l0_5:List (S69)) (a0_6:ByteArray):Option (ByteArray×ByteArray×Int×ByteArray×Bool×(List (S72))×ByteArray):=(laws_toFieldS.f k l0_5).bind fun t142=>(some (a0_0,a0_1,a0_2,a0_3,a0_4,t142,a0_6))
set_option maxHeartbeats 8000000 in
set_option maxRecDepth 100000 in
theorem laws_toMsg.calls (k:Nat) (a0_0:ByteArray) (a0_1:ByteArray) (a0_2:Int) (a0_3:ByteArray) (a0_4:Bool) (A0_5:Option Addr) (c0_5:Nat) (l0_5:List (S69)) (a0_6:ByteArray) (r1:ByteArray) (r2:ByteArray) (r3:Int) (r4:ByteArray) (r5:Bool) (r6:List (S72)) (r7:ByteArray) (w:World) (hr0_5:Kd.C k69 w A0_5 l0_5.length l0_5) (hc0_5:l0_5.length≤c0_5) (h:laws_toMsg.f k a0_0 a0_1 a0_2 a0_3 a0_4 l0_5 a0_6=some (r1,r2,r3,r4,r5,r6,r7)) :
  Calls Tryz.prog 35 #[.agg #[.string a0_0,.string a0_1,.int .i64 a0_2,.string a0_3,.bool a0_4,.slice A0_5 l0_5.length c0_5,.string a0_6]] w fun e w'=>∃ v5_:Value,e = .returned (.agg #[.string r1,.string r2,.int .i64 r3,.string r4,.bool r5,v5_,.string r7])∧Kd.R k72 72 w' w.heap.size (fun _=>True) v5_ r6∧Below w.heap.size w w':=by
 have hu24:=Tryz.underlying24
 have hu31:=Tryz.underlying31
 have HR0_5:=Aside0.mk hr0_5
 have HC0_5:=Aside0.mk hc0_5
 clear hr0_5 hc0_5
 have HB:=Aside0.mk (Below.refl w.heap.size w)
 have H:=h
 clear h
 unfold laws_toMsg.f at H
 replace H:=gD H
 obtain⟨t142,A2,H⟩:=H
 simp only[Option.some.injEq,Prod.mk.injEq] at H
 obtain⟨rfl,rfl,rfl,rfl,rfl,rfl,rfl⟩:=H
 go_enter Tryz.func35,Tryz.ntmps35
 go_wp2_with(first|((with_reducible refine gate_dst (N:=1) rfl ?_);refine boxA #[.string a0_0,.string a0_1,.int .i64 a0_2,.string a0_3,.bool a0_4,.slice A0_5 l0_5.length c0_5,.string a0_6] 24 ?_;intro gb139 hg w3 hbox hb;have BK139:=Aside0.mk (hbox);have GE139:=geA hg;replace HB:=beA hb;clear hb hbox hg)|((with_reducible refine gate_dst (N:=2) rfl ?_);refine boxA #[.string (⟨#[]⟩:ByteArray),.string (⟨#[]⟩:ByteArray),.int .i64 0,.string (⟨#[]⟩:ByteArray),.bool false,.slice none 0 0,.string (⟨#[]⟩:ByteArray)] 31 ?_;intro gb140 hg w4 hbox hb;have BK140:=Aside0.mk (hbox);have GE140:=geA hg;have NB139_140:=neA (g:=gb139) hg;have NB140_139:=neB NB139_140;replace BK139:=blA (g:=gb139) hb;replace HB:=beA hb;clear hb hbox hg)|((with_reducible refine gate_dst (N:=3) rfl ?_);refine boxA #[.string (⟨#[]⟩:ByteArray),.string (⟨#[]⟩:ByteArray),.int .i64 0,.string (⟨#[]⟩:ByteArray),.bool false,.slice none 0 0,.string (⟨#[]⟩:ByteArray)] 31 ?_;intro gb141 hg w5 hbox hb;have BK141:=Aside0.mk (hbox);have GE141:=geA hg;have NB139_141:=neA (g:=gb139) hg;have NB141_139:=neB NB139_141;have NB140_141:=neA (g:=gb140) hg;have NB141_140:=neB NB140_141;replace BK139:=blA (g:=gb139) hb;replace BK140:=blA (g:=gb140) hb;replace HB:=beA hb;clear hb hbox hg;have hnb6:=NB139_140.out;have hnc6:=NB140_139.out;have hnb7:=NB139_141.out;have hnc7:=NB141_139.out;obtain⟨_,_,_,_,_,_,_⟩:=czA7 BK139;obtain⟨_,_,_,_,_,_,_⟩:=cfA7 BK139;have hnb9:=NB141_140.out;have hnc9:=NB140_141.out;obtain⟨_,_,_,_,_,_,_⟩:=czA7 BK141;obtain⟨_,_,_,_,_,_,_⟩:=cfA7 BK141)|((with_reducible refine gate_callee (f:=34) rfl ?_);refine goesL_ (some 21) rfl rfl Tryz.func34 (by kernel_rfl) rfl #[.slice A0_5 l0_5.length c0_5] rfl gq0 ?_;(with_reducible refine(laws_toFieldS.calls k _ _ l0_5 t142 _ ?side1 ?side2 A2.out).mono ?_);(case side1=>exact Kd.C_below HR0_5.out gBe);(case side2=>exact HC0_5.out);rintro e w11 ⟨v143,rfl,ho0,hb⟩;refine⟨_,rfl,?_⟩;have HO144:=Aside0.mk (Kd.R_lower ho0 (below_size gBe));replace BK139:=blA (g:=gb139) hb;replace BK140:=blA (g:=gb140) hb;replace BK141:=blA (g:=gb141) (o:=.cells #[.string a0_0,.string a0_1,.int .i64 a0_2,.string a0_3,.bool a0_4,.slice none 0 0,.string (⟨#[]⟩:ByteArray)] 31 (0,0)) hb;replace HB:=beA hb;(try clear hb);(try clear hb2);(try clear hk);(try clear hi);(try clear ho0);obtain⟨Ao12,co12,eo12⟩:=Kd.R_slice HO144.out;subst eo12;obtain⟨_,_,_,_,_,_,_⟩:=czA7 BK141;obtain⟨_,_,_,_,_,_,_⟩:=cfA7 BK141;obtain⟨_,_,_,_,_,_,_⟩:=czA7 BK139;obtain⟨_,_,_,_,_,_,_⟩:=cfA7 BK139;obtain⟨_,_,_,_,_,_,_⟩:=czA7 BK140;obtain⟨_,_,_,_,_,_,_⟩:=cfA7 BK140))
 refine bodyPost_ret (results_cell_row rfl _ _ gb140 31 #[.string a0_0,.string a0_1,.int .i64 a0_2,.string a0_3,.bool a0_4,.slice Ao12 t142.length co12,.string a0_6] (0,0) _ rfl (by(with_reducible repeat(first|refine blk_drewN ?_ _|refine blk_drew ?_|refine blk_alloc ?_ _));refine blk_put (cs:=#[.string a0_0,.string a0_1,.int .i64 a0_2,.string a0_3,.bool a0_4,.slice Ao12 t142.length co12,.string (⟨#[]⟩:ByteArray)]) ?_ 6 _ rfl;(with_reducible repeat(first|refine blk_drewN ?_ _|refine blk_drew ?_|refine blk_alloc ?_ _));refine blk_put (cs:=#[.string a0_0,.string a0_1,.int .i64 a0_2,.string a0_3,.bool a0_4,.slice none 0 0,.string (⟨#[]⟩:ByteArray)]) ?_ 5 _ rfl;(with_reducible repeat(first|refine blk_drewN ?_ _|refine blk_drew ?_|refine blk_alloc ?_ _));refine blk_put (cs:=#[.string a0_0,.string a0_1,.int .i64 a0_2,.string a0_3,.bool false,.slice none 0 0,.string (⟨#[]⟩:ByteArray)]) ?_ 4 _ rfl;(with_reducible repeat(first|refine blk_drewN ?_ _|refine blk_drew ?_|refine blk_alloc ?_ _));refine blk_put (cs:=#[.string a0_0,.string a0_1,.int .i64 a0_2,.string (⟨#[]⟩:ByteArray),.bool false,.slice none 0 0,.string (⟨#[]⟩:ByteArray)]) ?_ 3 _ rfl;(with_reducible repeat(first|refine blk_drewN ?_ _|refine blk_drew ?_|refine blk_alloc ?_ _));refine blk_put (cs:=#[.string a0_0,.string a0_1,.int .i64 0,.string (⟨#[]⟩:ByteArray),.bool false,.slice none 0 0,.string (⟨#[]⟩:ByteArray)]) ?_ 2 _ rfl;(with_reducible repeat(first|refine blk_drewN ?_ _|refine blk_drew ?_|refine blk_alloc ?_ _));refine blk_put (cs:=#[.string a0_0,.string (⟨#[]⟩:ByteArray),.int .i64 0,.string (⟨#[]⟩:ByteArray),.bool false,.slice none 0 0,.string (⟨#[]⟩:ByteArray)]) ?_ 1 _ rfl;(with_reducible repeat(first|refine blk_drewN ?_ _|refine blk_drew ?_|refine blk_alloc ?_ _));refine blk_put (cs:=#[.string (⟨#[]⟩:ByteArray),.string (⟨#[]⟩:ByteArray),.int .i64 0,.string (⟨#[]⟩:ByteArray),.bool false,.slice none 0 0,.string (⟨#[]⟩:ByteArray)]) ?_ 0 _ rfl;(with_reducible repeat(first|refine blk_drewN ?_ _|refine blk_drew ?_|refine blk_alloc ?_ _));refine blk_far ?_ NB140_141.out _;(with_reducible repeat(first|refine blk_drewN ?_ _|refine blk_drew ?_|refine blk_alloc ?_ _));refine blk_far ?_ NB140_141.out _;(with_reducible repeat(first|refine blk_drewN ?_ _|refine blk_drew ?_|refine blk_alloc ?_ _));exact BK140.out) Tryz.underlying31 rfl (by kernel_rfl)) rfl ?_
 exact⟨_,gq2,by(with_reducible repeat(first|apply Kd.R_alloc|apply Kd.R_drewN|apply Kd.R_drew));exact gFar (Kd.R_types (Kd.R_types HO144.out BK141.out (by decide)) BK140.out (by decide)) (fun _ hk=>trivial),gBe⟩


def laws_toEntry.f (k:Nat) (a0_0:ByteArray) (a0_1:Int) (a0_2:Int) (l0_3:List (S69)) (a0_4:ByteArray) (a0_5:ByteArray) (a0_6:Int) (a0_7:ByteArray) (a0_8:Bool) (l0_9:List (S69)) (a0_10:ByteArray):Option (ByteArray×Int×Int×(List (S72))×ByteArray×ByteArray×Int×ByteArray×Bool×(List (S72))×ByteArray):=(laws_toFieldS.f k l0_3).bind fun t148=>((laws_toMsg.f k a0_4 a0_5 a0_6 a0_7 a0_8 l0_9 a0_10).bind fun bt151=>(some (a0_0,a0_1,a0_2,t148,bt151.1,bt151.2.1,bt151.2.2.1,bt151.2.2.2.1,bt151.2.2.2.2.1,bt151.2.2.2.2.2.1,bt151.2.2.2.2.2.2)))
set_option maxHeartbeats 8000000 in
set_option maxRecDepth 100000 in
theorem laws_toEntry.calls (k:Nat) (a0_0:ByteArray) (a0_1:Int) (a0_2:Int) (A0_3:Option Addr) (c0_3:Nat) (l0_3:List (S69)) (a0_4:ByteArray) (a0_5:ByteArray) (a0_6:Int) (a0_7:ByteArray) (a0_8:Bool) (A0_9:Option Addr) (c0_9:Nat) (l0_9:List (S69)) (a0_10:ByteArray) (r1:ByteArray) (r2:Int) (r3:Int) (r4:List (S72)) (r5:ByteArray) (r6:ByteArray) (r7:Int) (r8:ByteArray) (r9:Bool) (r10:List (S72)) (r11:ByteArray) (w:World) (hr0_3:Kd.C k69 w A0_3 l0_3.length l0_3) (hc0_3:l0_3.length≤c0_3) (hr0_9:Kd.C k69 w A0_9 l0_9.length l0_9) (hc0_9:l0_9.length≤c0_9) (h:laws_toEntry.f k a0_0 a0_1 a0_2 l0_3 a0_4 a0_5 a0_6 a0_7 a0_8 l0_9 a0_10=some (r1,r2,r3,r4,r5,r6,r7,r8,r9,r10,r11)) :
  Calls Tryz.prog 12 #[.agg #[.string a0_0,.int .i64 a0_1,.int .i64 a0_2,.slice A0_3 l0_3.length c0_3,.string a0_4,.string a0_5,.int .i64 a0_6,.string a0_7,.bool a0_8,.slice A0_9 l0_9.length c0_9,.string a0_10]] w fun e w'=>∃ v3_ v9_:Value,e = .returned (.agg #[.string r1,.int .i64 r2,.int .i64 r3,v3_,.string r5,.string r6,.int .i64 r7,.string r8,.bool r9,v9_,.string r11])∧Kd.R k72 72 w' w.heap.size (fun k_=>some k_≠(v9_:Value).ownBlock) v3_ r4∧Kd.R k72 72 w' w.heap.size (fun k_=>some k_≠(v3_:Value).ownBlock) v9_ r10∧Below w.heap.size w w':=by
 have hu26:=Tryz.underlying26
 have hu33:=Tryz.underlying33
 have hu24:=Tryz.underlying24
 have hu31:=Tryz.underlying31
 have HR0_3:=Aside0.mk hr0_3
 have HC0_3:=Aside0.mk hc0_3
 clear hr0_3 hc0_3
 have HR0_9:=Aside0.mk hr0_9
 have HC0_9:=Aside0.mk hc0_9
 clear hr0_9 hc0_9
 have HB:=Aside0.mk (Below.refl w.heap.size w)
 have H:=h
 clear h
 unfold laws_toEntry.f at H
 replace H:=gD H
 obtain⟨t148,A2,H⟩:=H
 replace H:=gD H
 obtain⟨⟨t151,t152,t153,t154,t155,t156,t159⟩,A3,H⟩:=H
 dsimp only at H
 simp only[Option.some.injEq,Prod.mk.injEq] at H
 obtain⟨rfl,rfl,rfl,rfl,rfl,rfl,rfl,rfl,rfl,rfl,rfl⟩:=H
 go_enter Tryz.func12,Tryz.ntmps12
 go_wp2_with(first|((with_reducible refine gate_dst (N:=1) rfl ?_);refine boxA #[.string a0_0,.int .i64 a0_1,.int .i64 a0_2,.slice A0_3 l0_3.length c0_3,.string a0_4,.string a0_5,.int .i64 a0_6,.string a0_7,.bool a0_8,.slice A0_9 l0_9.length c0_9,.string a0_10] 26 ?_;intro gb145 hg wq0a hbox hb;have BK145:=Aside0.mk (hbox);have GE145:=geA hg;replace HB:=beA hb;clear hb hbox hg)|((with_reducible refine gate_dst (N:=2) rfl ?_);refine boxA #[.string (⟨#[]⟩:ByteArray),.int .i64 0,.int .i64 0,.slice none 0 0,.string (⟨#[]⟩:ByteArray),.string (⟨#[]⟩:ByteArray),.int .i64 0,.string (⟨#[]⟩:ByteArray),.bool false,.slice none 0 0,.string (⟨#[]⟩:ByteArray)] 33 ?_;intro gb146 hg wq1a hbox hb;have BK146:=Aside0.mk (hbox);have GE146:=geA hg;have NB145_146:=neA (g:=gb145) hg;have NB146_145:=neB NB145_146;replace BK145:=blA (g:=gb145) hb;replace HB:=beA hb;clear hb hbox hg)|((with_reducible refine gate_dst (N:=3) rfl ?_);refine boxA #[.string (⟨#[]⟩:ByteArray),.int .i64 0,.int .i64 0,.slice none 0 0,.string (⟨#[]⟩:ByteArray),.string (⟨#[]⟩:ByteArray),.int .i64 0,.string (⟨#[]⟩:ByteArray),.bool false,.slice none 0 0,.string (⟨#[]⟩:ByteArray)] 33 ?_;intro gb147 hg wq2a hbox hb;have BK147:=Aside0.mk (hbox);have GE147:=geA hg;have NB145_147:=neA (g:=gb145) hg;have NB147_145:=neB NB145_147;have NB146_147:=neA (g:=gb146) hg;have NB147_146:=neB NB146_147;replace BK145:=blA (g:=gb145) hb;replace BK146:=blA (g:=gb146) hb;replace HB:=beA hb;clear hb hbox hg;have hnb7:=NB145_146.out;have hnc7:=NB146_145.out;have hnb8:=NB145_147.out;have hnc8:=NB147_145.out;obtain⟨_,_,_,_,_,_,_,_,_,_,_⟩:=czA11 BK145;obtain⟨_,_,_,_,_,_,_,_,_,_,_⟩:=cfA11 BK145;have hnb10:=NB147_146.out;have hnc10:=NB146_147.out;obtain⟨_,_,_,_,_,_,_,_,_,_,_⟩:=czA11 BK147;obtain⟨_,_,_,_,_,_,_,_,_,_,_⟩:=cfA11 BK147)|((with_reducible refine gate_callee (f:=34) rfl ?_);refine goesL_ (some 15) rfl rfl Tryz.func34 (by kernel_rfl) rfl #[.slice A0_3 l0_3.length c0_3] rfl gq0 ?_;(with_reducible refine(laws_toFieldS.calls k _ _ l0_3 t148 _ ?side1 ?side2 A2.out).mono ?_);(case side1=>exact Kd.C_below HR0_3.out gBe);(case side2=>exact HC0_3.out);rintro e wq3a ⟨v149,rfl,ho0,hb⟩;refine⟨_,rfl,?_⟩;have HO150:=Aside0.mk (Kd.R_lower ho0 (below_size gBe));replace BK145:=blA (g:=gb145) hb;replace BK146:=blA (g:=gb146) hb;replace BK147:=blA (g:=gb147) (o:=.cells #[.string a0_0,.int .i64 a0_1,.int .i64 a0_2,.slice none 0 0,.string (⟨#[]⟩:ByteArray),.string (⟨#[]⟩:ByteArray),.int .i64 0,.string (⟨#[]⟩:ByteArray),.bool false,.slice none 0 0,.string (⟨#[]⟩:ByteArray)] 33 (0,0)) hb;replace HB:=beA hb;(try clear hb);(try clear hb2);(try clear hk);(try clear hi);(try clear ho0);obtain⟨Ao13,co13,eo13⟩:=Kd.R_slice HO150.out;subst eo13;obtain⟨_,_,_,_,_,_,_,_,_,_,_⟩:=czA11 BK147;obtain⟨_,_,_,_,_,_,_,_,_,_,_⟩:=cfA11 BK147;obtain⟨_,_,_,_,_,_,_,_,_,_,_⟩:=czA11 BK145;obtain⟨_,_,_,_,_,_,_,_,_,_,_⟩:=cfA11 BK145)|((with_reducible refine gate_callee (f:=35) rfl ?_);refine goesL_ (some 19) rfl rfl Tryz.func35 (by kernel_rfl) rfl #[.agg #[.string a0_4,.string a0_5,.int .i64 a0_6,.string a0_7,.bool a0_8,.slice A0_9 l0_9.length c0_9,.string a0_10]] rfl gq0 ?_;(with_reducible refine(laws_toMsg.calls k a0_4 a0_5 a0_6 a0_7 a0_8 _ _ l0_9 a0_10 t151 t152 t153 t154 t155 t156 t159 _ ?side1 ?side2 A3.out).mono ?_);(case side1=>exact Kd.C_below HR0_9.out gBe);(case side2=>exact HC0_9.out);rintro e wq4a ⟨v157,rfl,ho0,hb⟩;refine⟨_,rfl,?_⟩;have HO158:=Aside0.mk (Kd.R_lower (Kd.R_new' ho0 (Kd.R_lt (by(with_reducible repeat(first|apply Kd.R_alloc|apply Kd.R_drewN|apply Kd.R_drew));exact(gFar (Kd.R_types HO150.out BK147.out (by decide)) (fun _ h_=>h_.1))))) (below_size gBe));replace HO150:=Aside0.mk (Kd.R_elder' (by(with_reducible repeat(first|apply Kd.R_alloc|apply Kd.R_drewN|apply Kd.R_drew));exact(gFar (Kd.R_types HO150.out BK147.out (by decide)) (fun _ h_=>h_.1))) (Kd.R_base ho0) hb);replace BK145:=blA (g:=gb145) hb;replace BK146:=blA (g:=gb146) hb;replace BK147:=blA (g:=gb147) (o:=.cells #[.string a0_0,.int .i64 a0_1,.int .i64 a0_2,.slice Ao13 t148.length co13,.string (⟨#[]⟩:ByteArray),.string (⟨#[]⟩:ByteArray),.int .i64 0,.string (⟨#[]⟩:ByteArray),.bool false,.slice none 0 0,.string (⟨#[]⟩:ByteArray)] 33 (0,0)) hb;replace HB:=beA hb;(try clear hb);(try clear hb2);(try clear hk);(try clear hi);(try clear ho0);obtain⟨_,_,_,_,_,_,_,_,_,_,_⟩:=czA11 BK147;obtain⟨_,_,_,_,_,_,_,_,_,_,_⟩:=cfA11 BK147;obtain⟨Ao18,co18,eo18⟩:=Kd.R_slice HO158.out;subst eo18;obtain⟨_,_,_,_,_,_,_,_,_,_,_⟩:=czA11 BK146;obtain⟨_,_,_,_,_,_,_,_,_,_,_⟩:=cfA11 BK146))
 refine bodyPost_ret (results_cell_row rfl _ _ gb146 33 #[.string a0_0,.int .i64 a0_1,.int .i64 a0_2,.slice Ao13 t148.length co13,.string t151,.string t152,.int .i64 t153,.string t154,.bool t155,.slice Ao18 t156.length co18,.string t159] (0,0) _ rfl (by(with_reducible repeat(first|refine blk_drewN ?_ _|refine blk_drew ?_|refine blk_alloc ?_ _));refine blk_put (cs:=#[.string a0_0,.int .i64 a0_1,.int .i64 a0_2,.slice Ao13 t148.length co13,.string t151,.string t152,.int .i64 t153,.string t154,.bool t155,.slice Ao18 t156.length co18,.string (⟨#[]⟩:ByteArray)]) ?_ 10 _ rfl;(with_reducible repeat(first|refine blk_drewN ?_ _|refine blk_drew ?_|refine blk_alloc ?_ _));refine blk_put (cs:=#[.string a0_0,.int .i64 a0_1,.int .i64 a0_2,.slice Ao13 t148.length co13,.string t151,.string t152,.int .i64 t153,.string t154,.bool t155,.slice none 0 0,.string (⟨#[]⟩:ByteArray)]) ?_ 9 _ rfl;(with_reducible repeat(first|refine blk_drewN ?_ _|refine blk_drew ?_|refine blk_alloc ?_ _));refine blk_put (cs:=#[.string a0_0,.int .i64 a0_1,.int .i64 a0_2,.slice Ao13 t148.length co13,.string t151,.string t152,.int .i64 t153,.string t154,.bool false,.slice none 0 0,.string (⟨#[]⟩:ByteArray)]) ?_ 8 _ rfl;(with_reducible repeat(first|refine blk_drewN ?_ _|refine blk_drew ?_|refine blk_alloc ?_ _));refine blk_put (cs:=#[.string a0_0,.int .i64 a0_1,.int .i64 a0_2,.slice Ao13 t148.length co13,.string t151,.string t152,.int .i64 t153,.string (⟨#[]⟩:ByteArray),.bool false,.slice none 0 0,.string (⟨#[]⟩:ByteArray)]) ?_ 7 _ rfl;(with_reducible repeat(first|refine blk_drewN ?_ _|refine blk_drew ?_|refine blk_alloc ?_ _));refine blk_put (cs:=#[.string a0_0,.int .i64 a0_1,.int .i64 a0_2,.slice Ao13 t148.length co13,.string t151,.string t152,.int .i64 0,.string (⟨#[]⟩:ByteArray),.bool false,.slice none 0 0,.string (⟨#[]⟩:ByteArray)]) ?_ 6 _ rfl;(with_reducible repeat(first|refine blk_drewN ?_ _|refine blk_drew ?_|refine blk_alloc ?_ _));refine blk_put (cs:=#[.string a0_0,.int .i64 a0_1,.int .i64 a0_2,.slice Ao13 t148.length co13,.string t151,.string (⟨#[]⟩:ByteArray),.int .i64 0,.string (⟨#[]⟩:ByteArray),.bool false,.slice none 0 0,.string (⟨#[]⟩:ByteArray)]) ?_ 5 _ rfl;(with_reducible repeat(first|refine blk_drewN ?_ _|refine blk_drew ?_|refine blk_alloc ?_ _));refine blk_put (cs:=#[.string a0_0,.int .i64 a0_1,.int .i64 a0_2,.slice Ao13 t148.length co13,.string (⟨#[]⟩:ByteArray),.string (⟨#[]⟩:ByteArray),.int .i64 0,.string (⟨#[]⟩:ByteArray),.bool false,.slice none 0 0,.string (⟨#[]⟩:ByteArray)]) ?_ 4 _ rfl;(with_reducible repeat(first|refine blk_drewN ?_ _|refine blk_drew ?_|refine blk_alloc ?_ _));refine blk_put (cs:=#[.string a0_0,.int .i64 a0_1,.int .i64 a0_2,.slice none 0 0,.string (⟨#[]⟩:ByteArray),.string (⟨#[]⟩:ByteArray),.int .i64 0,.string (⟨#[]⟩:ByteArray),.bool false,.slice none 0 0,.string (⟨#[]⟩:ByteArray)]) ?_ 3 _ rfl;(with_reducible repeat(first|refine blk_drewN ?_ _|refine blk_drew ?_|refine blk_alloc ?_ _));refine blk_put (cs:=#[.string a0_0,.int .i64 a0_1,.int .i64 0,.slice none 0 0,.string (⟨#[]⟩:ByteArray),.string (⟨#[]⟩:ByteArray),.int .i64 0,.string (⟨#[]⟩:ByteArray),.bool false,.slice none 0 0,.string (⟨#[]⟩:ByteArray)]) ?_ 2 _ rfl;(with_reducible repeat(first|refine blk_drewN ?_ _|refine blk_drew ?_|refine blk_alloc ?_ _));refine blk_put (cs:=#[.string a0_0,.int .i64 0,.int .i64 0,.slice none 0 0,.string (⟨#[]⟩:ByteArray),.string (⟨#[]⟩:ByteArray),.int .i64 0,.string (⟨#[]⟩:ByteArray),.bool false,.slice none 0 0,.string (⟨#[]⟩:ByteArray)]) ?_ 1 _ rfl;(with_reducible repeat(first|refine blk_drewN ?_ _|refine blk_drew ?_|refine blk_alloc ?_ _));refine blk_put (cs:=#[.string (⟨#[]⟩:ByteArray),.int .i64 0,.int .i64 0,.slice none 0 0,.string (⟨#[]⟩:ByteArray),.string (⟨#[]⟩:ByteArray),.int .i64 0,.string (⟨#[]⟩:ByteArray),.bool false,.slice none 0 0,.string (⟨#[]⟩:ByteArray)]) ?_ 0 _ rfl;(with_reducible repeat(first|refine blk_drewN ?_ _|refine blk_drew ?_|refine blk_alloc ?_ _));refine blk_far ?_ NB146_147.out _;(with_reducible repeat(first|refine blk_drewN ?_ _|refine blk_drew ?_|refine blk_alloc ?_ _));refine blk_far ?_ NB146_147.out _;(with_reducible repeat(first|refine blk_drewN ?_ _|refine blk_drew ?_|refine blk_alloc ?_ _));refine blk_far ?_ NB146_147.out _;(with_reducible repeat(first|refine blk_drewN ?_ _|refine blk_drew ?_|refine blk_alloc ?_ _));refine blk_far ?_ NB146_147.out _;(with_reducible repeat(first|refine blk_drewN ?_ _|refine blk_drew ?_|refine blk_alloc ?_ _));refine blk_far ?_ NB146_147.out _;(with_reducible repeat(first|refine blk_drewN ?_ _|refine blk_drew ?_|refine blk_alloc ?_ _));refine blk_far ?_ NB146_147.out _;(with_reducible repeat(first|refine blk_drewN ?_ _|refine blk_drew ?_|refine blk_alloc ?_ _));refine blk_far ?_ NB146_147.out _;(with_reducible repeat(first|refine blk_drewN ?_ _|refine blk_drew ?_|refine blk_alloc ?_ _));exact BK146.out) Tryz.underlying33 rfl (by kernel_rfl)) rfl ?_
 exact⟨_,_,gq2,by(with_reducible repeat(first|apply Kd.R_alloc|apply Kd.R_drewN|apply Kd.R_drew));exact gFar (Kd.R_types (Kd.R_types HO150.out BK147.out (by decide)) BK146.out (by decide)) (fun _ hk=>hk.1.1.2),by(with_reducible repeat(first|apply Kd.R_alloc|apply Kd.R_drewN|apply Kd.R_drew));exact gFar (Kd.R_types (Kd.R_types HO158.out BK147.out (by decide)) BK146.out (by decide)) (fun _ hk=>hk.1.1.2),gBe⟩


def laws_eqField.f (a0_0:ByteArray) (a0_1:ByteArray) (a1_0:ByteArray) (a1_1:ByteArray):Option (Bool):=if a0_0.toList=a1_0.toList then(if a0_1.toList=a1_1.toList then(some true) else(some false)) else(some false)
theorem laws_eqField.e0 {p:Prop} (h:p:=by
  obtain rfl:=Option.some.inj H
  go_enter Tryz.func74,Tryz.ntmps74
  go_wp2_with(first|((with_reducible refine gate_dst (N:=2) rfl ?_);refine boxA #[.string a0_0,.string a0_1] 72 ?_;intro gb925 hg wq0a hbox hb;have BK925:=Aside0.mk (hbox);have GW925:=geA hg;have GE925:=geA hg;replace HB:=beA hb;clear hb hbox hg)|((with_reducible refine gate_dst (N:=3) rfl ?_);refine boxA #[.string a1_0,.string a1_1] 72 ?_;intro gb926 hg wq3a hbox hb;have BK926:=Aside0.mk (hbox);have GW926:=geA hg;have GE926:=geA hg;have NB925_926:=neA (g:=gb925) hg;have NB926_925:=neB NB925_926;replace BK925:=blA (g:=gb925) hb;replace HB:=beA hb;clear hb hbox hg;have hnb17:=NB925_926.out;have hnc17:=NB926_925.out;obtain⟨_,_⟩:=czA2 BK925;obtain⟨_,_⟩:=cfA2 BK925;obtain⟨_,_⟩:=czA2 BK926;obtain⟨_,_⟩:=cfA2 BK926)|((with_reducible refine gate_dst (N:=3) rfl ?_);refine boxA #[.string a1_0,.string a1_1] 72 ?_;intro gb926 hg wq2a hbox hb;have BK926:=Aside0.mk (hbox);have GW926:=geA hg;have GE926:=geA hg;have NB925_926:=neA (g:=gb925) hg;have NB926_925:=neB NB925_926;replace BK925:=blA (g:=gb925) hb;replace HB:=beA hb;clear hb hbox hg;have hnb12:=NB925_926.out;have hnc12:=NB926_925.out;obtain⟨_,_⟩:=czA2 BK925;obtain⟨_,_⟩:=cfA2 BK925;obtain⟨_,_⟩:=czA2 BK926;obtain⟨_,_⟩:=cfA2 BK926)|((with_reducible refine gate_dst (N:=3) rfl ?_);refine boxA #[.string a1_0,.string a1_1] 72 ?_;intro gb926 hg wq1a hbox hb;have BK926:=Aside0.mk (hbox);have GW926:=geA hg;have GE926:=geA hg;have NB925_926:=neA (g:=gb925) hg;have NB926_925:=neB NB925_926;replace BK925:=blA (g:=gb925) hb;replace HB:=beA hb;clear hb hbox hg;have hnb7:=NB925_926.out;have hnc7:=NB926_925.out;obtain⟨_,_⟩:=czA2 BK925;obtain⟨_,_⟩:=cfA2 BK925;obtain⟨_,_⟩:=czA2 BK926;obtain⟨_,_⟩:=cfA2 BK926))
  go_ret
  exact⟨gq2,gBe⟩):p:=h
set_option maxHeartbeats 8000000 in
set_option maxRecDepth 100000 in
theorem laws_eqField.calls (a0_0:ByteArray) (a0_1:ByteArray) (a1_0:ByteArray) (a1_1:ByteArray) (r:Bool) (w:World) (h:laws_eqField.f a0_0 a0_1 a1_0 a1_1=some r) :
  Calls Tryz.prog 74 #[.agg #[.string a0_0,.string a0_1],.agg #[.string a1_0,.string a1_1]] w fun e w'=>e = .returned (.bool r)∧Below w.heap.size w w':=by
 have hu72:=Tryz.underlying72
 have HB:=Aside0.mk (Below.refl w.heap.size w)
 have H:=h
 clear h
 unfold laws_eqField.f at H
 replace H:=gI H
 rcases H with⟨c3,-,-,H⟩|⟨c3,-,-,H⟩
 ·have c3b0:(a0_0.toList==a1_0.toList)=true:=beq_iff_eq.mpr c3
  have c3b1:(a0_0.toList != a1_0.toList)=false:=bne_eq_false_iff_eq.mpr c3
  clear c3
  replace H:=gI H
  rcases H with⟨c4,-,-,H⟩|⟨c4,-,-,H⟩
  ·have c4b0:(a0_1.toList==a1_1.toList)=true:=beq_iff_eq.mpr c4
   have c4b1:(a0_1.toList != a1_1.toList)=false:=bne_eq_false_iff_eq.mpr c4
   clear c4
   exact laws_eqField.e0
  ·have c4b0:(a0_1.toList==a1_1.toList)=false:=beq_eq_false_iff_ne.mpr c4
   have c4b1:(a0_1.toList != a1_1.toList)=true:=bne_iff_ne.mpr c4
   exact laws_eqField.e0
 ·have c3b0:(a0_0.toList==a1_0.toList)=false:=beq_eq_false_iff_ne.mpr c3
  have c3b1:(a0_0.toList != a1_0.toList)=true:=bne_iff_ne.mpr c3
  exact laws_eqField.e0


def laws_eqFieldS.l0 : Nat→List (S72)→List (S72)→Int→Option (Bool)
 |0,_,_,_=>none
 |k+1,x0,x1,x5=>if x5<(x0.length:Int) then(if 0≤x5 then(if x5<(x1.length:Int) then((laws_eqField.f ((rd_T72 x0 x5).f0) ((rd_T72 x0 x5).f1) ((rd_T72 x1 x5).f0) ((rd_T72 x1 x5).f1)).bind fun t929=>(if t929=true then(laws_eqFieldS.l0 k x0 x1 (wrap64 (x5+1))) else(some false))) else(none)) else(none)) else(some true)
def laws_eqFieldS.f (k:Nat) (l0:List (S72)) (l1:List (S72)):Option (Bool):=if(l0.length:Int)=(l1.length:Int) then(laws_eqFieldS.l0 k l0 l1 0) else(some false)
def laws_eqFieldS.T6 : Bool×List (List Nat×List Nat):=(true,[([],[]),([],[]),([0,1],[0,1]),([2],[2]),([],[]),([],[]),([4,5],[4,5]),([6],[6]),([3,7],[3,7]),([8],[8])])
def laws_eqFieldS.B6 : List Nat:=[0,0,3,7,0,0,48,112,255,511]
theorem laws_eqFieldS.tab6 : rtab .any (opsOf Tryz.f40 6)=laws_eqFieldS.T6:=by kernel_rfl
theorem laws_eqFieldS.bits6 : waitsOk laws_eqFieldS.T6.2 laws_eqFieldS.B6=true:=by kernel_rfl
set_option maxHeartbeats 8000000 in
set_option maxRecDepth 100000 in
theorem laws_eqFieldS.calls (k:Nat) (A0:Option Addr) (c0:Nat) (l0:List (S72)) (A1:Option Addr) (c1:Nat) (l1:List (S72)) (r:Bool) (w:World) (hr0:Kd.C k72 w A0 l0.length l0) (hc0:l0.length≤c0) (hr1:Kd.C k72 w A1 l1.length l1) (hc1:l1.length≤c1) (h:laws_eqFieldS.f k l0 l1=some r) :
  Calls Tryz.prog 40 #[.slice A0 l0.length c0,.slice A1 l1.length c1] w fun e w'=>e = .returned (.bool r)∧Below w.heap.size w w':=by
 have hu72:=Tryz.underlying72
 have HR0:=Aside0.mk hr0
 have HC0:=Aside0.mk hc0
 clear hr0 hc0
 have HR1:=Aside0.mk hr1
 have HC1:=Aside0.mk hc1
 clear hr1 hc1
 have HB:=Aside0.mk (Below.refl w.heap.size w)
 have H:=h
 clear h
 unfold laws_eqFieldS.f at H
 replace H:=gI H
 rcases H with⟨c3,-,-,H⟩|⟨c3,-,-,H⟩
 ·have c3b0:((l0.length:Int)==(l1.length:Int))=true:=beq_iff_eq.mpr c3
  have c3b1:((l0.length:Int) != (l1.length:Int))=false:=bne_eq_false_iff_eq.mpr c3
  have c3b2:(l0.length==l1.length)=true:=by first|simpa using c3|(simp at c3 ⊢;omega)
  clear c3
  have H':=Aside0.mk H
  clear H
  go_enter Tryz.func40,Tryz.ntmps40
  go_wp2
  go_loopg [5] k (fun kq v5 w'=>∃(x5_1:Int),v5 = .int .i64 x5_1∧Aside0 (laws_eqFieldS.l0 kq l0 l1 x5_1=some r)∧Aside0 (kq≤k)∧Aside0 (Below w.heap.size w w'))
  case atStart=>exact⟨(0),gq4,H',⟨Nat.le_refl _⟩,⟨gBe⟩⟩
  case round=>
   clear H'
   try clear c3
   try clear c3b0
   try clear c3b1
   try clear c3b2
   obtain⟨x5_1,rfl,HA,HK1,HB⟩:=hrel
   cases gk with
   |zero=>exact absurd HA.out (by simp[laws_eqFieldS.l0])
   |succ k1=>
    have H:=HA.out
    clear HA
    simp only[laws_eqFieldS.l0] at H
    replace H:=gI H
    rcases H with⟨-,c4b0,-,H⟩|⟨-,c4b0,-,H⟩
    ·replace H:=gN H
     obtain⟨-,c5b0,-,H⟩:=H
     replace H:=gN H
     obtain⟨-,c6b0,-,H⟩:=H
     replace H:=gD H
     obtain⟨t929,A7,H⟩:=H
     replace H:=gB H
     rcases H with⟨rfl,H⟩|⟨rfl,H⟩
     ·have H':=Aside0.mk H
      clear H
      try go_wp2
      replace HB:=Aside0.mk (below_drew1 HB.out)
      have p927:0≤(x5_1:Int):=of_decide_eq_true gq3
      have q927:x5_1<(l0.length:Int):=of_decide_eq_true gq3
      obtain⟨ad927,e927,hx927_0,hx927_1⟩:=at_T72 HR0.out x5_1 p927 q927
      have hw927_1:=hx927_1
      have hw927_0:=hx927_0
      cases e927
      replace hx927_0:=(HB.out.cell (World.block_lt_of_cell? w _ hx927_0)).trans hx927_0
      replace hx927_1:=(HB.out.cell (World.block_lt_of_cell? w _ hx927_1)).trans hx927_1
      replace p927:=eq_true p927
      replace q927:=eq_true q927
      have p928:0≤(x5_1:Int):=of_decide_eq_true gq3
      have q928:x5_1<(l1.length:Int):=of_decide_eq_true gq3
      obtain⟨ad928,e928,hx928_0,hx928_1⟩:=at_T72 HR1.out x5_1 p928 q928
      have hw928_1:=hx928_1
      have hw928_0:=hx928_0
      cases e928
      replace hx928_0:=(HB.out.cell (World.block_lt_of_cell? w _ hx928_0)).trans hx928_0
      replace hx928_1:=(HB.out.cell (World.block_lt_of_cell? w _ hx928_1)).trans hx928_1
      replace p928:=eq_true p928
      replace q928:=eq_true q928
      refine startF (n:=10) (S:=fun w'=>w'.cell? (ad927.add ((x5_1).toNat*2))=some (.string ((rd_T72 l0 x5_1).f0))∧w'.cell? ⟨(ad927.add ((x5_1).toNat*2)).block,(ad927.add ((x5_1).toNat*2)).off+1,none⟩=some (.string ((rd_T72 l0 x5_1).f1))∧w'.cell? (ad928.add ((x5_1).toNat*2))=some (.string ((rd_T72 l1 x5_1).f0))∧w'.cell? ⟨(ad928.add ((x5_1).toNat*2)).block,(ad928.add ((x5_1).toNat*2)).off+1,none⟩=some (.string ((rd_T72 l1 x5_1).f1))) (ds:=[]) ⟨((HB.out.cell (World.block_lt_of_cell? w _ hw927_0)).trans hw927_0),((HB.out.cell (World.block_lt_of_cell? w _ hw927_1)).trans hw927_1),((HB.out.cell (World.block_lt_of_cell? w _ hw928_0)).trans hw928_0),((HB.out.cell (World.block_lt_of_cell? w _ hw928_1)).trans hw928_1)⟩ (fun hHeld=>?_);refine with_tabW laws_eqFieldS.tab6 laws_eqFieldS.bits6 (fun HT_ HW_=>?_)
      generalize wr.drew=wq0a at HB hx927_0 hx927_1 hx928_0 hx928_1 hHeld ⊢
      repeat(first|refine takeF ?_ (hy:=Or.inl ⟨by rfl,gq78⟩)|refine pureF ?_|(refine oneF (fun K hK=>?_);refine goes_ Tryz.func74 (by kernel_rfl) rfl #[.agg #[.string ((rd_T72 l0 x5_1).f0),.string ((rd_T72 l0 x5_1).f1)],.agg #[.string ((rd_T72 l1 x5_1).f0),.string ((rd_T72 l1 x5_1).f1)]] (by rfl) rfl rfl gq0 ?_;(with_reducible refine(laws_eqField.calls ((rd_T72 l0 x5_1).f0) ((rd_T72 l0 x5_1).f1) ((rd_T72 l1 x5_1).f0) ((rd_T72 l1 x5_1).f1) true _ A7.out).mono ?_);rintro e wq1a ⟨rfl,hb⟩;refine⟨_,rfl,?_⟩;replace HB:=beA hb;(try clear hb);refine hK.out _ _ ⟨((HB.out.cell (World.block_lt_of_cell? w _ hw927_0)).trans hw927_0),((HB.out.cell (World.block_lt_of_cell? w _ hw927_1)).trans hw927_1),((HB.out.cell (World.block_lt_of_cell? w _ hw928_0)).trans hw928_0),((HB.out.cell (World.block_lt_of_cell? w _ hw928_1)).trans hw928_1)⟩ (fun hHeld=>?_);clear hK K;refine normF ?_))
      refine done_ (done_of HT_.out (by kernel_rfl)) ?_
      try go_wp2
      go_roundg k1
      case measure=>have:=HK1.out;omega
      case rel=>exact⟨(wrap64 (x5_1+1)),gq4,H',⟨by have:=HK1.out;omega⟩,⟨gBe⟩⟩
     ·obtain rfl:=Option.some.inj H
      try go_wp2
      replace HB:=Aside0.mk (below_drew1 HB.out)
      have p927:0≤(x5_1:Int):=of_decide_eq_true gq3
      have q927:x5_1<(l0.length:Int):=of_decide_eq_true gq3
      obtain⟨ad927,e927,hx927_0,hx927_1⟩:=at_T72 HR0.out x5_1 p927 q927
      have hw927_1:=hx927_1
      have hw927_0:=hx927_0
      cases e927
      replace hx927_0:=(HB.out.cell (World.block_lt_of_cell? w _ hx927_0)).trans hx927_0
      replace hx927_1:=(HB.out.cell (World.block_lt_of_cell? w _ hx927_1)).trans hx927_1
      replace p927:=eq_true p927
      replace q927:=eq_true q927
      have p928:0≤(x5_1:Int):=of_decide_eq_true gq3
      have q928:x5_1<(l1.length:Int):=of_decide_eq_true gq3
      obtain⟨ad928,e928,hx928_0,hx928_1⟩:=at_T72 HR1.out x5_1 p928 q928
      have hw928_1:=hx928_1
      have hw928_0:=hx928_0
      cases e928
      replace hx928_0:=(HB.out.cell (World.block_lt_of_cell? w _ hx928_0)).trans hx928_0
      replace hx928_1:=(HB.out.cell (World.block_lt_of_cell? w _ hx928_1)).trans hx928_1
      replace p928:=eq_true p928
      replace q928:=eq_true q928
      refine startF (n:=10) (S:=fun w'=>w'.cell? (ad927.add ((x5_1).toNat*2))=some (.string ((rd_T72 l0 x5_1).f0))∧w'.cell? ⟨(ad927.add ((x5_1).toNat*2)).block,(ad927.add ((x5_1).toNat*2)).off+1,none⟩=some (.string ((rd_T72 l0 x5_1).f1))∧w'.cell? (ad928.add ((x5_1).toNat*2))=some (.string ((rd_T72 l1 x5_1).f0))∧w'.cell? ⟨(ad928.add ((x5_1).toNat*2)).block,(ad928.add ((x5_1).toNat*2)).off+1,none⟩=some (.string ((rd_T72 l1 x5_1).f1))) (ds:=[]) ⟨((HB.out.cell (World.block_lt_of_cell? w _ hw927_0)).trans hw927_0),((HB.out.cell (World.block_lt_of_cell? w _ hw927_1)).trans hw927_1),((HB.out.cell (World.block_lt_of_cell? w _ hw928_0)).trans hw928_0),((HB.out.cell (World.block_lt_of_cell? w _ hw928_1)).trans hw928_1)⟩ (fun hHeld=>?_);refine with_tabW laws_eqFieldS.tab6 laws_eqFieldS.bits6 (fun HT_ HW_=>?_)
      generalize wr.drew=wq0a at HB hx927_0 hx927_1 hx928_0 hx928_1 hHeld ⊢
      repeat(first|refine takeF ?_ (hy:=Or.inl ⟨by rfl,gq78⟩)|refine pureF ?_|(refine oneF (fun K hK=>?_);refine goes_ Tryz.func74 (by kernel_rfl) rfl #[.agg #[.string ((rd_T72 l0 x5_1).f0),.string ((rd_T72 l0 x5_1).f1)],.agg #[.string ((rd_T72 l1 x5_1).f0),.string ((rd_T72 l1 x5_1).f1)]] (by rfl) rfl rfl gq0 ?_;(with_reducible refine(laws_eqField.calls ((rd_T72 l0 x5_1).f0) ((rd_T72 l0 x5_1).f1) ((rd_T72 l1 x5_1).f0) ((rd_T72 l1 x5_1).f1) false _ A7.out).mono ?_);rintro e wq2a ⟨rfl,hb⟩;refine⟨_,rfl,?_⟩;replace HB:=beA hb;(try clear hb);refine hK.out _ _ ⟨((HB.out.cell (World.block_lt_of_cell? w _ hw927_0)).trans hw927_0),((HB.out.cell (World.block_lt_of_cell? w _ hw927_1)).trans hw927_1),((HB.out.cell (World.block_lt_of_cell? w _ hw928_0)).trans hw928_0),((HB.out.cell (World.block_lt_of_cell? w _ hw928_1)).trans hw928_1)⟩ (fun hHeld=>?_);clear hK K;refine normF ?_))
      refine done_ (done_of HT_.out (by kernel_rfl)) ?_
      try go_wp2
      go_ret
      exact⟨gq2,gBe⟩
    ·obtain rfl:=Option.some.inj H
     go_wp2
     go_ret
     exact⟨gq2,gBe⟩
 ·have c3b0:((l0.length:Int)==(l1.length:Int))=false:=beq_eq_false_iff_ne.mpr c3
  have c3b1:((l0.length:Int) != (l1.length:Int))=true:=bne_iff_ne.mpr c3
  have c3b2:(l0.length==l1.length)=false:=by first|simpa using c3|(simp at c3 ⊢;omega)
  obtain rfl:=Option.some.inj H
  go_enter Tryz.func40,Tryz.ntmps40
  go_wp2
  go_ret
  exact⟨gq2,gBe⟩

end Go.Proofs.YtfhllanhldbkkaaGreatDoor.P
