import Derived.Test.YtonmpnghlopnoaaGreatDoorPx0
import Derived.Test.YtonmpnghlopnoaaGreatDoorPxspec01a
import Derived.Test.YtonmpnghlopnoaaGreatDoorPxspec01j
import Derived.Test.YtonmpnghlopnoaaGreatDoorWC
namespace Go.Proofs.YtonmpnghlopnoaaGreatDoor.P
open Go.RowKit Go.Proofs.YtonmpnghlopnoaaGreatDoorW.PrintWords Go.Proofs.YtonmpnghlopnoaaGreatDoorW.PrintLast Go.Proofs.YtonmpnghlopnoaaGreatDoorW.PrintMore
attribute [local go_sem] max2_int min2_int max_two min_two max_three min_three max_four min_four   -- for this text's walks alone
set_option linter.unusedVariables false
set_option linter.unusedSimpArgs false

def spec_FieldsOk.l0 : Nat→List (S41)→Int→Option (Bool)
 |0,_,_=>none
 |k+1,x0,x3=>if x3<(x0.length:Int) then(if 0≤x3 then((spec_FieldOk.f k ((rd_T41 x0 x3).f0) ((rd_T41 x0 x3).f1)).bind fun t644=>(if t644=true then(spec_FieldsOk.l0 k x0 (wrap64 (x3+1))) else(some false))) else(none)) else(some true)
def spec_FieldsOk.f (k:Nat) (l0:List (S41)):Option (Bool):=if(l0.length:Int)>20 then(some false) else(spec_FieldsOk.l0 k l0 0)
theorem spec_FieldsOk.mono_l : ∀ k,(∀ y0 y1,LeO (spec_FieldsOk.l0 k y0 y1) (spec_FieldsOk.l0 (k+1) y0 y1))
 |0=>fun _ _ r h=>by simp[spec_FieldsOk.l0] at h
 |k+1=>by
  have ih0:=spec_FieldsOk.mono_l k
  ·intro y0 y1
   unfold spec_FieldsOk.l0
   repeat' first|(with_reducible first|exact ih0 ..|exact spec_FieldOk.mono ..|exact LeO.refl ..|exact LeO.none ..|refine LeO.ite ?_ ?_|refine LeO.bind ?_ (fun _=>?_))|exact ih0 ..
theorem spec_FieldsOk.mono : ∀ a0 k,LeO (spec_FieldsOk.f k a0) (spec_FieldsOk.f (k+1) a0):=by
 intro a0 k
 have ih0:=spec_FieldsOk.mono_l k
 unfold spec_FieldsOk.f
 repeat' first|(with_reducible first|exact ih0 ..|exact spec_FieldOk.mono ..|exact LeO.refl ..|exact LeO.none ..|refine LeO.ite ?_ ?_|refine LeO.bind ?_ (fun _=>?_))|exact ih0 ..
set_option maxHeartbeats 8000000 in
set_option maxRecDepth 100000 in
theorem spec_FieldsOk.calls (k:Nat) (A0:Option Addr) (c0:Nat) (l0:List (S41)) (r:Bool) (w:World) (hr0:Kd.C k41 w A0 l0.length l0) (hc0:l0.length≤c0) (h:spec_FieldsOk.f k l0=some r) :
  Calls Tryz.prog 83 #[.slice A0 l0.length c0] w fun e w'=>e = .returned (.bool r)∧Below w.heap.size w w':=by
 have hu41:=Tryz.underlying41;have HR0:=Aside0.mk hr0;have HC0:=Aside0.mk hc0;clear hr0 hc0;have HB:=Aside0.mk (Below.refl w.heap.size w);have H:=h;clear h;unfold spec_FieldsOk.f at H;replace H:=gI H;rcases H with⟨c2,-,-,H⟩|⟨c2,-,-,H⟩
 ·have c2b0:decide (20<(l0.length:Int))=true:=decide_eq_true c2;have c2b1:decide (20<l0.length)=true:=decide_eq_true (by omega);clear c2;obtain rfl:=Option.some.inj H;go_enter Tryz.func83,Tryz.ntmps83;go_wp2;go_ret;exact⟨gq1,gBe⟩
 ·have c2b0:decide (20<(l0.length:Int))=false:=decide_eq_false c2;have c2b1:decide (20<l0.length)=false:=decide_eq_false (by omega);clear c2;have H':=Aside0.mk H;clear H;go_enter Tryz.func83,Tryz.ntmps83;go_wp2;go_loopg [3] k (fun kq v3 w'=>∃(x3_1:Int),v3 = .int .i64 x3_1∧Aside0 (spec_FieldsOk.l0 kq l0 x3_1=some r)∧Aside0 (kq≤k)∧Aside0 (Below w.heap.size w w'))
  case atStart=>exact⟨(0),gq3,H',⟨Nat.le_refl _⟩,⟨gBe⟩⟩
  case round=>
   clear H';try clear c2
   try clear c2b0
   try clear c2b1
   obtain⟨x3_1,rfl,HA,HK1,HB⟩:=hrel;cases gk with
   |zero=>exact absurd HA.out (by simp[spec_FieldsOk.l0])
   |succ k1=>
    have H:=HA.out;clear HA;simp only[spec_FieldsOk.l0] at H;replace H:=gI H;rcases H with⟨-,c3b0,-,H⟩|⟨-,c3b0,-,H⟩
    ·replace H:=gN H;obtain⟨-,c4b0,-,H⟩:=H;replace H:=gD H;obtain⟨t644,A5,H⟩:=H;replace H:=gB H;rcases H with⟨rfl,H⟩|⟨rfl,H⟩
     ·have H':=Aside0.mk H;clear H;have p643:0≤(x3_1:Int):=of_decide_eq_true gq4;have q643:x3_1<(l0.length:Int):=of_decide_eq_true gq4;obtain⟨ad643,e643,hx643_0,hx643_1⟩:=at_T41 HR0.out x3_1 p643 q643;cases e643
      replace hx643_0:=(HB.out.cell (World.block_lt_of_cell? w _ hx643_0)).trans hx643_0;replace hx643_1:=(HB.out.cell (World.block_lt_of_cell? w _ hx643_1)).trans hx643_1;replace p643:=eq_true p643;replace q643:=eq_true q643;go_wp2_with(first|((with_reducible refine gate_callee (f:=32) rfl ?_);refine goesL_ (some 17) rfl rfl Tryz.func32 (by kernel_rfl) rfl #[.agg #[.string ((rd_T41 l0 x3_1).f0),.string ((rd_T41 l0 x3_1).f1)]] rfl gq0 ?_;(with_reducible refine(spec_FieldOk.calls k1 ((rd_T41 l0 x3_1).f0) ((rd_T41 l0 x3_1).f1) true _ A5.out).mono ?_);rintro e w7 ⟨rfl,hb⟩;refine⟨_,rfl,?_⟩;replace HB:=beA hb;(try clear hb)));go_roundg k1
      case measure=>have:=HK1.out;omega
      case rel=>exact⟨(wrap64 (x3_1+1)),gq3,H',⟨by have:=HK1.out;omega⟩,⟨gBe⟩⟩
     ·obtain rfl:=Option.some.inj H;have p643:0≤(x3_1:Int):=of_decide_eq_true gq4;have q643:x3_1<(l0.length:Int):=of_decide_eq_true gq4;obtain⟨ad643,e643,hx643_0,hx643_1⟩:=at_T41 HR0.out x3_1 p643 q643;cases e643
      replace hx643_0:=(HB.out.cell (World.block_lt_of_cell? w _ hx643_0)).trans hx643_0;replace hx643_1:=(HB.out.cell (World.block_lt_of_cell? w _ hx643_1)).trans hx643_1;replace p643:=eq_true p643;replace q643:=eq_true q643;go_wp2_with(first|((with_reducible refine gate_callee (f:=32) rfl ?_);refine goesL_ (some 17) rfl rfl Tryz.func32 (by kernel_rfl) rfl #[.agg #[.string ((rd_T41 l0 x3_1).f0),.string ((rd_T41 l0 x3_1).f1)]] rfl gq0 ?_;(with_reducible refine(spec_FieldOk.calls k1 ((rd_T41 l0 x3_1).f0) ((rd_T41 l0 x3_1).f1) false _ A5.out).mono ?_);rintro e w8 ⟨rfl,hb⟩;refine⟨_,rfl,?_⟩;replace HB:=beA hb;(try clear hb)));go_ret;exact⟨gq1,gBe⟩
    ·obtain rfl:=Option.some.inj H;go_wp2;go_ret;exact⟨gq1,gBe⟩

def spec_Values.l0 : Nat→List (S41)→ByteArray→List ByteArray→Int→Option (List ByteArray)
 |0,_,_,_,_=>none
 |k+1,x0,x1,x5,x6=>if x6<(x0.length:Int) then(if 0≤x6 then((spec_SameFold.f ((rd_T41 x0 x6).f0) x1).bind fun t652=>(if t652=true then(if x5.length<8796093022208 then(spec_Values.l0 k x0 x1 (x5 ++ [(rd_T41 x0 x6).f1]) (wrap64 (x6+1))) else(none)) else(spec_Values.l0 k x0 x1 x5 (wrap64 (x6+1))))) else(none)) else(some x5)
def spec_Values.f (k:Nat) (l0:List (S41)) (a1:ByteArray):Option (List ByteArray):=(spec_FieldsOk.f k l0).bind fun t650=>(if t650=true then(spec_Values.l0 k l0 a1 ([]:List ByteArray) 0) else(some ([]:List ByteArray)))
theorem spec_Values.mono_l : ∀ k,(∀ y0 y1 y2 y3,LeO (spec_Values.l0 k y0 y1 y2 y3) (spec_Values.l0 (k+1) y0 y1 y2 y3))
 |0=>fun _ _ _ _ r h=>by simp[spec_Values.l0] at h
 |k+1=>by
  have ih0:=spec_Values.mono_l k
  ·intro y0 y1 y2 y3
   unfold spec_Values.l0
   repeat' first|(with_reducible first|exact ih0 ..|exact spec_FieldsOk.mono ..|exact LeO.refl ..|exact LeO.none ..|refine LeO.ite ?_ ?_|refine LeO.bind ?_ (fun _=>?_))|exact ih0 ..
theorem spec_Values.mono : ∀ a0 a1 k,LeO (spec_Values.f k a0 a1) (spec_Values.f (k+1) a0 a1):=by
 intro a0 a1 k
 have ih0:=spec_Values.mono_l k
 unfold spec_Values.f
 repeat' first|(with_reducible first|exact ih0 ..|exact spec_FieldsOk.mono ..|exact LeO.refl ..|exact LeO.none ..|refine LeO.ite ?_ ?_|refine LeO.bind ?_ (fun _=>?_))|exact ih0 ..
set_option maxHeartbeats 8000000 in
set_option maxRecDepth 100000 in
theorem spec_Values.calls (k:Nat) (A0:Option Addr) (c0:Nat) (l0:List (S41)) (a1:ByteArray) (r:List ByteArray) (w:World) (hr0:Kd.C k41 w A0 l0.length l0) (hc0:l0.length≤c0) (h:spec_Values.f k l0 a1=some r) :
  Calls Tryz.prog 118 #[.slice A0 l0.length c0,.string a1] w fun e w'=>∃ v0_:Value,e = .returned (v0_)∧Kd.R Kd.string 9 w' w.heap.size (fun _=>True) v0_ r∧Below w.heap.size w w':=by
 have HR0:=Aside0.mk hr0;have HC0:=Aside0.mk hc0;clear hr0 hc0;have HB:=Aside0.mk (Below.refl w.heap.size w);have H:=h;clear h;unfold spec_Values.f at H;replace H:=gD H;obtain⟨t650,A3,H⟩:=H;replace H:=gB H;rcases H with⟨rfl,H⟩|⟨rfl,H⟩
 ·have H':=Aside0.mk H;clear H;go_enter Tryz.func118,Tryz.ntmps118;go_wp2_with(first|((with_reducible refine gate_callee (f:=83) rfl ?_);refine goesL_ (some 8) rfl rfl Tryz.func83 (by kernel_rfl) rfl #[.slice A0 l0.length c0] rfl gq0 ?_;(with_reducible refine(spec_FieldsOk.calls k _ _ l0 true _ ?side1 ?side2 A3.out).mono ?_);(case side1=>repeat(first|exact HR0.out|(with_reducible refine Kd.C_alloc ?_ _)|(with_reducible refine Kd.C_drewN ?_ _)|(with_reducible refine Kd.C_drew ?_)));(case side2=>exact HC0.out);rintro e w5 ⟨rfl,hb⟩;refine⟨_,rfl,?_⟩;replace HB:=beA hb;(try clear hb)));go_loopg [5,6] k (fun kq v5 v6 w'=>∃(x5_1:List ByteArray) (x6_1:Int),v6 = .int .i64 x6_1∧Aside0 (spec_Values.l0 kq l0 a1 x5_1 x6_1=some r)∧Aside0 (kq≤k)∧Aside0 (Kd.R Kd.string 9 w' w.heap.size (fun _=>True) v5 x5_1)∧Aside0 (Below w.heap.size w w'))
  case atStart=>exact⟨(([]:List ByteArray)),(0),gq3,H',⟨Nat.le_refl _⟩,⟨gq6⟩,⟨gBe⟩⟩
  case round=>
   clear H';obtain⟨x5_1,x6_1,rfl,HA,HK1,HO_5,HB⟩:=hrel;cases gk with
   |zero=>exact absurd HA.out (by simp[spec_Values.l0])
   |succ k1=>
    have H:=HA.out;clear HA;simp only[spec_Values.l0] at H;replace H:=gI H;rcases H with⟨-,c6b0,-,H⟩|⟨-,c6b0,-,H⟩
    ·replace H:=gN H;obtain⟨-,c7b0,-,H⟩:=H;replace H:=gD H;obtain⟨t652,A8,H⟩:=H;replace H:=gB H;rcases H with⟨rfl,H⟩|⟨rfl,H⟩
     ·replace H:=gN H;obtain⟨c10,-,-,H⟩:=H;have LMc10:=Aside0.mk c10;clear c10;obtain⟨y654,hy654⟩:∃ y_:List ByteArray,y_=(x5_1 ++ [(rd_T41 l0 x6_1).f1]):=⟨_,rfl⟩;replace H:(spec_Values.l0 k1 l0 a1 y654 (wrap64 (x6_1+1)))=some r:=by first|(rw[hy654];with_reducible exact H)|(have H2_:=(Option.bind_some _ _).symm.trans H;rw[hy654];with_reducible exact H2_)|(have H2_:=(Option.bind_some _ _).symm.trans H;with_reducible exact H2_)|with_reducible exact H|(rw[hy654];exact H)|exact H
      have Ny654:=Aside0.mk hy654;clear hy654;have H':=Aside0.mk H;clear H;have p651:0≤(x6_1:Int):=of_decide_eq_true gq4;have q651:x6_1<(l0.length:Int):=of_decide_eq_true gq4;obtain⟨ad651,e651,hx651_0,hx651_1⟩:=at_T41 HR0.out x6_1 p651 q651;cases e651
      replace hx651_0:=(HB.out.cell (World.block_lt_of_cell? w _ hx651_0)).trans hx651_0;replace hx651_1:=(HB.out.cell (World.block_lt_of_cell? w _ hx651_1)).trans hx651_1;replace p651:=eq_true p651;replace q651:=eq_true q651;go_wp2_with(first|((with_reducible refine gate_callee (f:=88) rfl ?_);refine goesL_ (some 22) rfl rfl Tryz.func88 (by kernel_rfl) rfl #[.string ((rd_T41 l0 x6_1).f0),.string a1] rfl gq0 ?_;(with_reducible refine(spec_SameFold.calls ((rd_T41 l0 x6_1).f0) a1 true _ A8.out).mono ?_);rintro e w11 ⟨rfl,hb⟩;refine⟨_,rfl,?_⟩;replace HO_5:=Aside0.mk (Kd.R_below gq18 hb);replace HB:=beA hb;(try clear hb);have p653:0≤(x6_1:Int):=of_decide_eq_true gq4;have q653:x6_1<(l0.length:Int):=of_decide_eq_true gq4;obtain⟨ad653,e653,hx653_0,hx653_1⟩:=at_T41 HR0.out x6_1 p653 q653;obtain rfl:ad651=ad653:=(by injection e653);replace hx653_0:=(HB.out.cell (World.block_lt_of_cell? w _ hx653_0)).trans hx653_0;replace hx653_1:=(HB.out.cell (World.block_lt_of_cell? w _ hx653_1)).trans hx653_1;replace p653:=eq_true p653;replace q653:=eq_true q653)|((with_reducible refine gate_builtin (b:=.append) (xs:=#[.tmp 23,.tmp 29]) rfl ?_);at_builtin;refine Kd.R_append Kd.string (w0:=w) w.heap.size rfl (.tmp 23) (.tmp 29) 64 9 (.string ⟨#[]⟩) 16 rfl Tryz.underlying64 info9 rfl (by decide) (by omega) u5 x5_1 ((rd_T41 l0 x6_1).f1) [.string ((rd_T41 l0 x6_1).f1)] (fun _=>True) (fun _=>False) rfl rfl ?aP (fun _ hk=>hk.elim) ?aF ?aO ?aB ?aS ?aL ?_;(case aP=>exact rfl);(case aB=>exact gBe);(case aF=>exact(fun _ _=>trivial));(case aO=>exact gq18);(case aS=>exact(below_size gBe));(case aL=>have:=LMc10.out;omega);intro v655 w12 ho hb hg hat;rw[← Ny654.out] at ho;have n0_:=Aside0.mk (hb);have n1_:=Aside0.mk (ho);clear HB;clear HO_5;have HB:=n0_;have HO656:=n1_;clear n0_ n1_;clear ho hb hg hat));go_roundg k1
      case measure=>have:=HK1.out;omega
      case rel=>exact⟨(y654),(wrap64 (x6_1+1)),gq3,H',⟨by have:=HK1.out;omega⟩,⟨gRo⟩,⟨gBe⟩⟩
     ·have H':=Aside0.mk H;clear H;have p651:0≤(x6_1:Int):=of_decide_eq_true gq4;have q651:x6_1<(l0.length:Int):=of_decide_eq_true gq4;obtain⟨ad651,e651,hx651_0,hx651_1⟩:=at_T41 HR0.out x6_1 p651 q651;cases e651
      replace hx651_0:=(HB.out.cell (World.block_lt_of_cell? w _ hx651_0)).trans hx651_0;replace hx651_1:=(HB.out.cell (World.block_lt_of_cell? w _ hx651_1)).trans hx651_1;replace p651:=eq_true p651;replace q651:=eq_true q651;go_wp2_with(first|((with_reducible refine gate_callee (f:=88) rfl ?_);refine goesL_ (some 22) rfl rfl Tryz.func88 (by kernel_rfl) rfl #[.string ((rd_T41 l0 x6_1).f0),.string a1] rfl gq0 ?_;(with_reducible refine(spec_SameFold.calls ((rd_T41 l0 x6_1).f0) a1 false _ A8.out).mono ?_);rintro e w13 ⟨rfl,hb⟩;refine⟨_,rfl,?_⟩;replace HO_5:=Aside0.mk (Kd.R_below gq18 hb);replace HB:=beA hb;(try clear hb)));go_roundg k1
      case measure=>have:=HK1.out;omega
      case rel=>exact⟨(x5_1),(wrap64 (x6_1+1)),gq3,H',⟨by have:=HK1.out;omega⟩,⟨gRo⟩,⟨gBe⟩⟩
    ·obtain rfl:=Option.some.inj H;go_wp2;go_ret;exact⟨_,gq1,gRo,gBe⟩
 ·obtain rfl:=Option.some.inj H;go_enter Tryz.func118,Tryz.ntmps118;go_wp2_with(first|((with_reducible refine gate_callee (f:=83) rfl ?_);refine goesL_ (some 8) rfl rfl Tryz.func83 (by kernel_rfl) rfl #[.slice A0 l0.length c0] rfl gq0 ?_;(with_reducible refine(spec_FieldsOk.calls k _ _ l0 false _ ?side1 ?side2 A3.out).mono ?_);(case side1=>repeat(first|exact HR0.out|(with_reducible refine Kd.C_alloc ?_ _)|(with_reducible refine Kd.C_drewN ?_ _)|(with_reducible refine Kd.C_drew ?_)));(case side2=>exact HC0.out);rintro e w14 ⟨rfl,hb⟩;refine⟨_,rfl,?_⟩;replace HB:=beA hb;(try clear hb)));go_ret;exact⟨_,gq1,gq6,gBe⟩

def spec_Get.f (k:Nat) (l0:List (S41)) (a1:ByteArray):Option (ByteArray×Bool):=(spec_Values.f k l0 a1).bind fun t657=>(if(t657.length:Int)=0 then(some ((⟨#[]⟩:ByteArray),false)) else(if 0<(t657.length:Int) then(some (rdOf ByteArray.empty t657 0,true)) else(none)))
theorem spec_Get.mono : ∀ a0 a1 k,LeO (spec_Get.f k a0 a1) (spec_Get.f (k+1) a0 a1):=by
 intro a0 a1 k
 unfold spec_Get.f
 repeat' first|(with_reducible first|exact spec_Values.mono ..|exact LeO.refl ..|exact LeO.none ..|refine LeO.ite ?_ ?_|refine LeO.bind ?_ (fun _=>?_))
set_option maxHeartbeats 8000000 in
set_option maxRecDepth 100000 in
theorem spec_Get.calls (k:Nat) (A0:Option Addr) (c0:Nat) (l0:List (S41)) (a1 r1:ByteArray) (r2:Bool) (w:World) (hr0:Kd.C k41 w A0 l0.length l0) (hc0:l0.length≤c0) (h:spec_Get.f k l0 a1=some (r1,r2)) :
  Calls Tryz.prog 84 #[.slice A0 l0.length c0,.string a1] w fun e w'=>e = .returned (.tuple #[.string r1,.bool r2])∧Below w.heap.size w w':=by
 have HR0:=Aside0.mk hr0;have HC0:=Aside0.mk hc0;clear hr0 hc0;have HB:=Aside0.mk (Below.refl w.heap.size w);have H:=h;clear h;unfold spec_Get.f at H;replace H:=gD H;obtain⟨t657,A3,H⟩:=H;replace H:=gI H;rcases H with⟨c4,-,-,H⟩|⟨c4,-,-,H⟩
 ·obtain⟨c4b0,c4b1⟩:=gEt c4;clear c4;simp only[Option.some.injEq,Prod.mk.injEq] at H;obtain⟨rfl,rfl⟩:=H;go_enter Tryz.func84,Tryz.ntmps84;go_wp2_with(first|((with_reducible refine gate_callee (f:=118) rfl ?_);refine goesL_ (some 9) rfl rfl Tryz.func118 (by kernel_rfl) rfl #[.slice A0 l0.length c0,.string a1] rfl gq0 ?_;(with_reducible refine(spec_Values.calls k _ _ l0 a1 t657 _ ?side1 ?side2 A3.out).mono ?_);(case side1=>repeat(first|exact HR0.out|(with_reducible refine Kd.C_alloc ?_ _)|(with_reducible refine Kd.C_drewN ?_ _)|(with_reducible refine Kd.C_drew ?_)));(case side2=>exact HC0.out);rintro e w5 ⟨v658,rfl,ho0,hb⟩;refine⟨_,rfl,?_⟩;have HO659:=Aside0.mk (Kd.R_lower ho0 (below_size gBe));replace HB:=beA hb;(try clear hb);(try clear ho0);obtain⟨Ao6,co6,eo6⟩:=Kd.R_slice HO659.out;subst eo6));go_ret2;exact⟨gq1,gBe⟩
 ·obtain⟨c4b0,c4b1⟩:=gEf c4;have c4b2:¬ (t657 = []):=fun h_=>c4 (by rw[h_];rfl);replace H:=gI H;rcases H with⟨c7,c7b0,-,H⟩|⟨c7,-,-,H⟩
  ·have c7b1:decide (0<t657.length)=true:=decide_eq_true (by omega);clear c7;simp only[Option.some.injEq,Prod.mk.injEq] at H;obtain⟨rfl,rfl⟩:=H;go_enter Tryz.func84,Tryz.ntmps84;go_wp2_with(first|((with_reducible refine gate_callee (f:=118) rfl ?_);refine goesL_ (some 9) rfl rfl Tryz.func118 (by kernel_rfl) rfl #[.slice A0 l0.length c0,.string a1] rfl gq0 ?_;(with_reducible refine(spec_Values.calls k _ _ l0 a1 t657 _ ?side1 ?side2 A3.out).mono ?_);(case side1=>repeat(first|exact HR0.out|(with_reducible refine Kd.C_alloc ?_ _)|(with_reducible refine Kd.C_drewN ?_ _)|(with_reducible refine Kd.C_drew ?_)));(case side2=>exact HC0.out);rintro e w8 ⟨v658,rfl,ho0,hb⟩;refine⟨_,rfl,?_⟩;have HO659:=Aside0.mk (Kd.R_lower ho0 (below_size gBe));replace HB:=beA hb;(try clear hb);(try clear ho0);obtain⟨Ao9,co9,eo9⟩:=Kd.R_slice HO659.out;subst eo9;have p660:0≤(0:Int):=(by omega);have q660:0<(t657.length:Int):=of_decide_eq_true gq4;obtain⟨ad660,e660,hx660_0⟩:=Kd.at_string (Kd.R_reads' HO659.out).2.2 0 p660 q660;cases e660;have qi660:(0<t657.length)=True:=eq_true (by omega);(try rw[show((0:Int)).toNat=0 from rfl] at hx660_0);(try rw[Addr.add_zero'] at hx660_0);replace p660:=eq_true p660;replace q660:=eq_true q660));go_ret2;exact⟨gq1,gBe⟩
  ·exact absurd H (by simp)


def spec_Joined.l0 : Nat→List ByteArray→ByteArray→Int→Option (ByteArray)
 |0,_,_,_=>none
 |k+1,x5,x6,x7=>if x7<(x5.length:Int) then(if x7>0 then(if x6.size+2≤9223372036854775807 then(if 0≤x7 then(if(x6++(⟨#[44,32]⟩:ByteArray)).size+(rdOf ByteArray.empty x5 x7).size≤9223372036854775807 then(spec_Joined.l0 k x5 ((x6++(⟨#[44,32]⟩:ByteArray))++(rdOf ByteArray.empty x5 x7)) (wrap64 (x7+1))) else(none)) else(none)) else(none)) else(if 0≤x7 then(if x6.size+(rdOf ByteArray.empty x5 x7).size≤9223372036854775807 then(spec_Joined.l0 k x5 (x6++(rdOf ByteArray.empty x5 x7)) (wrap64 (x7+1))) else(none)) else(none))) else(some x6)
def spec_Joined.f (k:Nat) (l0:List (S41)) (a1:ByteArray):Option (ByteArray):=(spec_Values.f k l0 a1).bind fun t666=>(spec_Joined.l0 k t666 (⟨#[]⟩:ByteArray) 0)
theorem spec_Joined.mono_l : ∀ k,(∀ y0 y1 y2,LeO (spec_Joined.l0 k y0 y1 y2) (spec_Joined.l0 (k+1) y0 y1 y2))
 |0=>fun _ _ _ r h=>by simp[spec_Joined.l0] at h
 |k+1=>by
  have ih0:=spec_Joined.mono_l k
  ·intro y0 y1 y2
   unfold spec_Joined.l0
   repeat' first|(with_reducible first|exact ih0 ..|exact spec_Values.mono ..|exact LeO.refl ..|exact LeO.none ..|refine LeO.ite ?_ ?_|refine LeO.bind ?_ (fun _=>?_))|exact ih0 ..
theorem spec_Joined.mono : ∀ a0 a1 k,LeO (spec_Joined.f k a0 a1) (spec_Joined.f (k+1) a0 a1):=by
 intro a0 a1 k
 have ih0:=spec_Joined.mono_l k
 unfold spec_Joined.f
 repeat' first|(with_reducible first|exact ih0 ..|exact spec_Values.mono ..|exact LeO.refl ..|exact LeO.none ..|refine LeO.ite ?_ ?_|refine LeO.bind ?_ (fun _=>?_))|exact ih0 ..
set_option maxHeartbeats 8000000 in
set_option maxRecDepth 100000 in
theorem spec_Joined.calls (k:Nat) (A0:Option Addr) (c0:Nat) (l0:List (S41)) (a1 r:ByteArray) (w:World) (hr0:Kd.C k41 w A0 l0.length l0) (hc0:l0.length≤c0) (h:spec_Joined.f k l0 a1=some r) :
  Calls Tryz.prog 120 #[.slice A0 l0.length c0,.string a1] w fun e w'=>e = .returned (.string r)∧Below w.heap.size w w':=by
 have HR0:=Aside0.mk hr0;have HC0:=Aside0.mk hc0;clear hr0 hc0;have HB:=Aside0.mk (Below.refl w.heap.size w);have H:=h;clear h;unfold spec_Joined.f at H;replace H:=gD H;obtain⟨t666,A3,H⟩:=H;have H':=Aside0.mk H;clear H;go_enter Tryz.func120,Tryz.ntmps120;go_wp2_with(first|((with_reducible refine gate_callee (f:=118) rfl ?_);refine goesL_ (some 10) rfl rfl Tryz.func118 (by kernel_rfl) rfl #[.slice A0 l0.length c0,.string a1] rfl gq0 ?_;(with_reducible refine(spec_Values.calls k _ _ l0 a1 t666 _ ?side1 ?side2 A3.out).mono ?_);(case side1=>repeat(first|exact HR0.out|(with_reducible refine Kd.C_alloc ?_ _)|(with_reducible refine Kd.C_drewN ?_ _)|(with_reducible refine Kd.C_drew ?_)));(case side2=>exact HC0.out);rintro e w4 ⟨v667,rfl,ho0,hb⟩;refine⟨_,rfl,?_⟩;have HO668:=Aside0.mk (Kd.R_lower ho0 (below_size gBe));replace HB:=beA hb;(try clear hb);(try clear ho0)));go_loopg [6,7] k (fun kq v6 v7 w'=>∃(x6_1:ByteArray) (x7_1:Int),v6 = .string x6_1∧v7 = .int .i64 x7_1∧Aside0 (spec_Joined.l0 kq t666 x6_1 x7_1=some r)∧Aside0 (kq≤k)∧Aside0 (Kd.R Kd.string 9 w' w.heap.size (fun _=>True) v667 t666)∧Aside0 (Below w.heap.size w w'))
 case atStart=>exact⟨((⟨#[]⟩:ByteArray)),(0),gq3,gq3,H',⟨Nat.le_refl _⟩,⟨gRo⟩,⟨gBe⟩⟩
 case round=>
  clear H';obtain⟨x6_1,x7_1,rfl,rfl,HA,HK1,HO_5,HB⟩:=hrel;cases gk with
  |zero=>exact absurd HA.out (by simp[spec_Joined.l0])
  |succ k1=>
   have H:=HA.out;clear HA;simp only[spec_Joined.l0] at H;replace H:=gI H;rcases H with⟨-,c5b0,-,H⟩|⟨-,c5b0,-,H⟩
   ·replace H:=gI H;rcases H with⟨c6,-,-,H⟩|⟨c6,-,-,H⟩
    ·have c6b0:decide (0<x7_1)=true:=decide_eq_true c6;clear c6;replace H:=gN H;obtain⟨c7,c7b1,c7b0,H⟩:=H;try have c7b2:(9223372036854775807<x6_1.size+2)=False:=eq_false (Nat.not_lt.2 c7)
     replace H:=gN H;obtain⟨-,c8b0,-,H⟩:=H;replace H:=gN H;obtain⟨c9,c9b1,c9b0,H⟩:=H;try have c9b2:(9223372036854775807<(x6_1++(⟨#[44,32]⟩:ByteArray)).size+(rdOf ByteArray.empty t666 x7_1).size)=False:=eq_false (Nat.not_lt.2 c9)
     try have c9b3:(9223372036854775807<x6_1.size+2+(rdOf ByteArray.empty t666 x7_1).size)=False:=by have h_:=c9;simp only[ByteArray.size_append] at h_;exact eq_false (Nat.not_lt.2 h_)
     have H':=Aside0.mk H;clear H;obtain⟨Ao10,co10,eo10⟩:=Kd.R_slice HO_5.out;subst eo10;have p669:0≤(x7_1:Int):=of_decide_eq_true gq4;have q669:x7_1<(t666.length:Int):=of_decide_eq_true gq4;obtain⟨ad669,e669,hx669_0⟩:=Kd.at_string (Kd.R_reads' HO_5.out).2.2 x7_1 p669 q669;cases e669
     replace p669:=eq_true p669;replace q669:=eq_true q669;go_wp2;go_roundg k1
     case measure=>have:=HK1.out;omega
     case rel=>exact⟨((x6_1++(⟨#[44,32]⟩:ByteArray))++(rdOf ByteArray.empty t666 x7_1)),(wrap64 (x7_1+1)),gq3,gq3,H',⟨by have:=HK1.out;omega⟩,⟨gRo⟩,⟨gBe⟩⟩
    ·have c6b0:decide (0<x7_1)=false:=decide_eq_false c6;clear c6;replace H:=gN H;obtain⟨-,c11b0,-,H⟩:=H;replace H:=gN H;obtain⟨c12,c12b1,c12b0,H⟩:=H;try have c12b2:(9223372036854775807<x6_1.size+(rdOf ByteArray.empty t666 x7_1).size)=False:=eq_false (Nat.not_lt.2 c12)
     have H':=Aside0.mk H;clear H;obtain⟨Ao13,co13,eo13⟩:=Kd.R_slice HO_5.out;subst eo13;have p670:0≤(x7_1:Int):=of_decide_eq_true gq4;have q670:x7_1<(t666.length:Int):=of_decide_eq_true gq4;obtain⟨ad670,e670,hx670_0⟩:=Kd.at_string (Kd.R_reads' HO_5.out).2.2 x7_1 p670 q670;cases e670
     replace p670:=eq_true p670;replace q670:=eq_true q670;go_wp2;go_roundg k1
     case measure=>have:=HK1.out;omega
     case rel=>exact⟨(x6_1++(rdOf ByteArray.empty t666 x7_1)),(wrap64 (x7_1+1)),gq3,gq3,H',⟨by have:=HK1.out;omega⟩,⟨gRo⟩,⟨gBe⟩⟩
   ·obtain rfl:=Option.some.inj H;obtain⟨Ao14,co14,eo14⟩:=Kd.R_slice HO_5.out;subst eo14;go_wp2;go_ret;exact⟨gq1,gBe⟩

def spec_Words.f (k:Nat) (l0:List (S41)) (a1:ByteArray):Option (List ByteArray):=(spec_Joined.f k l0 a1).bind fun t676=>((spec_Elements.f k t676).bind fun t677=>(some t677))
theorem spec_Words.mono : ∀ a0 a1 k,LeO (spec_Words.f k a0 a1) (spec_Words.f (k+1) a0 a1):=by
 intro a0 a1 k
 unfold spec_Words.f
 repeat' first|(with_reducible first|exact spec_Elements.mono ..|exact spec_Joined.mono ..|exact LeO.refl ..|exact LeO.none ..|refine LeO.ite ?_ ?_|refine LeO.bind ?_ (fun _=>?_))
set_option maxHeartbeats 8000000 in
set_option maxRecDepth 100000 in
theorem spec_Words.calls (k:Nat) (A0:Option Addr) (c0:Nat) (l0:List (S41)) (a1:ByteArray) (r:List ByteArray) (w:World) (hr0:Kd.C k41 w A0 l0.length l0) (hc0:l0.length≤c0) (h:spec_Words.f k l0 a1=some r) :
  Calls Tryz.prog 85 #[.slice A0 l0.length c0,.string a1] w fun e w'=>∃ v0_:Value,e = .returned (v0_)∧Kd.R Kd.string 9 w' w.heap.size (fun _=>True) v0_ r∧Below w.heap.size w w':=by
 have HR0:=Aside0.mk hr0;have HC0:=Aside0.mk hc0;clear hr0 hc0;have HB:=Aside0.mk (Below.refl w.heap.size w);have H:=h;clear h;unfold spec_Words.f at H;replace H:=gD H;obtain⟨t676,A3,H⟩:=H;replace H:=gD H;obtain⟨t677,A4,H⟩:=H;obtain rfl:=Option.some.inj H;go_enter Tryz.func85,Tryz.ntmps85;go_wp2_with(first|((with_reducible refine gate_callee (f:=120) rfl ?_);refine goesL_ (some 7) rfl rfl Tryz.func120 (by kernel_rfl) rfl #[.slice A0 l0.length c0,.string a1] rfl gq0 ?_;(with_reducible refine(spec_Joined.calls k _ _ l0 a1 t676 _ ?side1 ?side2 A3.out).mono ?_);(case side1=>repeat(first|exact HR0.out|(with_reducible refine Kd.C_alloc ?_ _)|(with_reducible refine Kd.C_drewN ?_ _)|(with_reducible refine Kd.C_drew ?_)));(case side2=>exact HC0.out);rintro e w5 ⟨rfl,hb⟩;refine⟨_,rfl,?_⟩;replace HB:=beA hb;(try clear hb))|((with_reducible refine gate_callee (f:=119) rfl ?_);refine goesL_ (some 8) rfl rfl Tryz.func119 (by kernel_rfl) rfl #[.string t676] rfl gq0 ?_;(with_reducible refine(spec_Elements.calls k t676 t677 _ A4.out).mono ?_);rintro e w6 ⟨v678,rfl,ho0,hb⟩;refine⟨_,rfl,?_⟩;have HO679:=Aside0.mk (Kd.R_lower ho0 (below_size gBe));replace HB:=beA hb;(try clear hb);(try clear ho0)));go_ret;exact⟨_,gq1,gRo,gBe⟩

def spec_Without.l0 : Nat→List (S41)→ByteArray→List (S41)→Int→Option ((List (S41)))
 |0,_,_,_,_=>none
 |k+1,x0,x1,x5,x6=>if x6<(x0.length:Int) then(if 0≤x6 then((spec_SameFold.f ((rd_T41 x0 x6).f0) x1).bind fun t801=>(if t801=true then(spec_Without.l0 k x0 x1 x5 (wrap64 (x6+1))) else(if x5.length<4398046511104 then(spec_Without.l0 k x0 x1 (x5 ++ [(⟨(rd_T41 x0 x6).f0,(rd_T41 x0 x6).f1⟩:S41)]) (wrap64 (x6+1))) else(none)))) else(none)) else(some x5)
def spec_Without.f (k:Nat) (l0:List (S41)) (a1:ByteArray):Option ((List (S41))):=(spec_FieldsOk.f k l0).bind fun t799=>(if t799=true then(spec_Without.l0 k l0 a1 ([]:List (S41)) 0) else(some ([]:List (S41))))
theorem spec_Without.mono_l : ∀ k,(∀ y0 y1 y2 y3,LeO (spec_Without.l0 k y0 y1 y2 y3) (spec_Without.l0 (k+1) y0 y1 y2 y3))
 |0=>fun _ _ _ _ r h=>by simp[spec_Without.l0] at h
 |k+1=>by
  have ih0:=spec_Without.mono_l k
  ·intro y0 y1 y2 y3
   unfold spec_Without.l0
   repeat' first|(with_reducible first|exact ih0 ..|exact spec_FieldsOk.mono ..|exact LeO.refl ..|exact LeO.none ..|refine LeO.ite ?_ ?_|refine LeO.bind ?_ (fun _=>?_))|exact ih0 ..
theorem spec_Without.mono : ∀ a0 a1 k,LeO (spec_Without.f k a0 a1) (spec_Without.f (k+1) a0 a1):=by
 intro a0 a1 k
 have ih0:=spec_Without.mono_l k
 unfold spec_Without.f
 repeat' first|(with_reducible first|exact ih0 ..|exact spec_FieldsOk.mono ..|exact LeO.refl ..|exact LeO.none ..|refine LeO.ite ?_ ?_|refine LeO.bind ?_ (fun _=>?_))|exact ih0 ..
set_option maxHeartbeats 8000000 in
set_option maxRecDepth 100000 in
theorem spec_Without.calls (k:Nat) (A0:Option Addr) (c0:Nat) (l0:List (S41)) (a1:ByteArray) (r:List (S41)) (w:World) (hr0:Kd.C k41 w A0 l0.length l0) (hc0:l0.length≤c0) (h:spec_Without.f k l0 a1=some r) :
  Calls Tryz.prog 52 #[.slice A0 l0.length c0,.string a1] w fun e w'=>∃ v0_:Value,e = .returned (v0_)∧Kd.R k41 41 w' w.heap.size (fun _=>True) v0_ r∧Below w.heap.size w w':=by
 have hu41:=Tryz.underlying41;have HR0:=Aside0.mk hr0;have HC0:=Aside0.mk hc0;clear hr0 hc0;have HB:=Aside0.mk (Below.refl w.heap.size w);have H:=h;clear h;unfold spec_Without.f at H;replace H:=gD H;obtain⟨t799,A3,H⟩:=H;replace H:=gB H;rcases H with⟨rfl,H⟩|⟨rfl,H⟩
 ·have H':=Aside0.mk H;clear H;go_enter Tryz.func52,Tryz.ntmps52;go_wp2_with(first|((with_reducible refine gate_callee (f:=83) rfl ?_);refine goesL_ (some 8) rfl rfl Tryz.func83 (by kernel_rfl) rfl #[.slice A0 l0.length c0] rfl gq0 ?_;(with_reducible refine(spec_FieldsOk.calls k _ _ l0 true _ ?side1 ?side2 A3.out).mono ?_);(case side1=>repeat(first|exact HR0.out|(with_reducible refine Kd.C_alloc ?_ _)|(with_reducible refine Kd.C_drewN ?_ _)|(with_reducible refine Kd.C_drew ?_)));(case side2=>exact HC0.out);rintro e w5 ⟨rfl,hb⟩;refine⟨_,rfl,?_⟩;replace HB:=beA hb;(try clear hb)));go_loopg [5,6] k (fun kq v5 v6 w'=>∃(x5_1:List (S41)) (x6_1:Int),v6 = .int .i64 x6_1∧Aside0 (spec_Without.l0 kq l0 a1 x5_1 x6_1=some r)∧Aside0 (kq≤k)∧Aside0 (Kd.R k41 41 w' w.heap.size (fun _=>True) v5 x5_1)∧Aside0 (Below w.heap.size w w'))
  case atStart=>exact⟨(([]:List (S41))),(0),gq3,H',⟨Nat.le_refl _⟩,⟨gq6⟩,⟨gBe⟩⟩
  case round=>
   clear H';obtain⟨x5_1,x6_1,rfl,HA,HK1,HO_5,HB⟩:=hrel;cases gk with
   |zero=>exact absurd HA.out (by simp[spec_Without.l0])
   |succ k1=>
    have H:=HA.out;clear HA;simp only[spec_Without.l0] at H;replace H:=gI H;rcases H with⟨-,c6b0,-,H⟩|⟨-,c6b0,-,H⟩
    ·replace H:=gN H;obtain⟨-,c7b0,-,H⟩:=H;replace H:=gD H;obtain⟨t801,A8,H⟩:=H;replace H:=gB H;rcases H with⟨rfl,H⟩|⟨rfl,H⟩
     ·have H':=Aside0.mk H;clear H;have p800:0≤(x6_1:Int):=of_decide_eq_true gq4;have q800:x6_1<(l0.length:Int):=of_decide_eq_true gq4;obtain⟨ad800,e800,hx800_0,hx800_1⟩:=at_T41 HR0.out x6_1 p800 q800;cases e800
      replace hx800_0:=(HB.out.cell (World.block_lt_of_cell? w _ hx800_0)).trans hx800_0;replace hx800_1:=(HB.out.cell (World.block_lt_of_cell? w _ hx800_1)).trans hx800_1;replace p800:=eq_true p800;replace q800:=eq_true q800;go_wp2_with(first|((with_reducible refine gate_callee (f:=88) rfl ?_);refine goesL_ (some 22) rfl rfl Tryz.func88 (by kernel_rfl) rfl #[.string ((rd_T41 l0 x6_1).f0),.string a1] rfl gq0 ?_;(with_reducible refine(spec_SameFold.calls ((rd_T41 l0 x6_1).f0) a1 true _ A8.out).mono ?_);rintro e w10 ⟨rfl,hb⟩;refine⟨_,rfl,?_⟩;replace HO_5:=Aside0.mk (Kd.R_below gq18 hb);replace HB:=beA hb;(try clear hb)));go_roundg k1
      case measure=>have:=HK1.out;omega
      case rel=>exact⟨(x5_1),(wrap64 (x6_1+1)),gq3,H',⟨by have:=HK1.out;omega⟩,⟨gRo⟩,⟨gBe⟩⟩
     ·replace H:=gN H;obtain⟨c11,-,-,H⟩:=H;have LMc11:=Aside0.mk c11;clear c11;obtain⟨y803,hy803⟩:∃ y_:List (S41),y_=(x5_1 ++ [(⟨(rd_T41 l0 x6_1).f0,(rd_T41 l0 x6_1).f1⟩:S41)]):=⟨_,rfl⟩;replace H:(spec_Without.l0 k1 l0 a1 y803 (wrap64 (x6_1+1)))=some r:=by first|(rw[hy803];with_reducible exact H)|(have H2_:=(Option.bind_some _ _).symm.trans H;rw[hy803];with_reducible exact H2_)|(have H2_:=(Option.bind_some _ _).symm.trans H;with_reducible exact H2_)|with_reducible exact H|(rw[hy803];exact H)|exact H
      have Ny803:=Aside0.mk hy803;clear hy803;have H':=Aside0.mk H;clear H;have p800:0≤(x6_1:Int):=of_decide_eq_true gq4;have q800:x6_1<(l0.length:Int):=of_decide_eq_true gq4;obtain⟨ad800,e800,hx800_0,hx800_1⟩:=at_T41 HR0.out x6_1 p800 q800;cases e800
      replace hx800_0:=(HB.out.cell (World.block_lt_of_cell? w _ hx800_0)).trans hx800_0;replace hx800_1:=(HB.out.cell (World.block_lt_of_cell? w _ hx800_1)).trans hx800_1;replace p800:=eq_true p800;replace q800:=eq_true q800;go_wp2_with(first|((with_reducible refine gate_callee (f:=88) rfl ?_);refine goesL_ (some 22) rfl rfl Tryz.func88 (by kernel_rfl) rfl #[.string ((rd_T41 l0 x6_1).f0),.string a1] rfl gq0 ?_;(with_reducible refine(spec_SameFold.calls ((rd_T41 l0 x6_1).f0) a1 false _ A8.out).mono ?_);rintro e w12 ⟨rfl,hb⟩;refine⟨_,rfl,?_⟩;replace HO_5:=Aside0.mk (Kd.R_below gq18 hb);replace HB:=beA hb;(try clear hb);have p802:0≤(x6_1:Int):=of_decide_eq_true gq4;have q802:x6_1<(l0.length:Int):=of_decide_eq_true gq4;obtain⟨ad802,e802,hx802_0,hx802_1⟩:=at_T41 HR0.out x6_1 p802 q802;obtain rfl:ad800=ad802:=(by injection e802);replace hx802_0:=(HB.out.cell (World.block_lt_of_cell? w _ hx802_0)).trans hx802_0;replace hx802_1:=(HB.out.cell (World.block_lt_of_cell? w _ hx802_1)).trans hx802_1;replace p802:=eq_true p802;replace q802:=eq_true q802)|((with_reducible refine gate_builtin (b:=.append) (xs:=#[.tmp 24,.tmp 29]) rfl ?_);at_builtin;refine Kd.R_append k41 (w0:=w) w.heap.size rfl (.tmp 24) (.tmp 29) 22 41 (.agg #[(.string ⟨#[]⟩),(.string ⟨#[]⟩)]) 32 rfl Tryz.underlying22 info41 rfl (by decide) (by omega) u5 x5_1 (⟨(rd_T41 l0 x6_1).f0,(rd_T41 l0 x6_1).f1⟩:S41) [.string ((rd_T41 l0 x6_1).f0),.string ((rd_T41 l0 x6_1).f1)] (fun _=>True) (fun _=>False) rfl rfl ?aP (fun _ hk=>hk.elim) ?aF ?aO ?aB ?aS ?aL ?_;(case aP=>exact k41_mkM _ _ _ (⟨(rd_T41 l0 x6_1).f0,(rd_T41 l0 x6_1).f1⟩:S41));(case aB=>exact gBe);(case aF=>exact(fun _ _=>trivial));(case aO=>exact gq18);(case aS=>exact(below_size gBe));(case aL=>have:=LMc11.out;omega);intro v804 w13 ho hb hg hat;rw[← Ny803.out] at ho;have n0_:=Aside0.mk (hb);have n1_:=Aside0.mk (ho);clear HB;clear HO_5;have HB:=n0_;have HO805:=n1_;clear n0_ n1_;clear ho hb hg hat));go_roundg k1
      case measure=>have:=HK1.out;omega
      case rel=>exact⟨(y803),(wrap64 (x6_1+1)),gq3,H',⟨by have:=HK1.out;omega⟩,⟨gRo⟩,⟨gBe⟩⟩
    ·obtain rfl:=Option.some.inj H;go_wp2;go_ret;exact⟨_,gq1,gRo,gBe⟩
 ·obtain rfl:=Option.some.inj H;go_enter Tryz.func52,Tryz.ntmps52;go_wp2_with(first|((with_reducible refine gate_callee (f:=83) rfl ?_);refine goesL_ (some 8) rfl rfl Tryz.func83 (by kernel_rfl) rfl #[.slice A0 l0.length c0] rfl gq0 ?_;(with_reducible refine(spec_FieldsOk.calls k _ _ l0 false _ ?side1 ?side2 A3.out).mono ?_);(case side1=>repeat(first|exact HR0.out|(with_reducible refine Kd.C_alloc ?_ _)|(with_reducible refine Kd.C_drewN ?_ _)|(with_reducible refine Kd.C_drew ?_)));(case side2=>exact HC0.out);rintro e w14 ⟨rfl,hb⟩;refine⟨_,rfl,?_⟩;replace HB:=beA hb;(try clear hb)));go_ret;exact⟨_,gq1,gq6,gBe⟩


def spec_FieldText.f (k:Nat) (a0_0:ByteArray) (a0_1:ByteArray):Option (ByteArray):=(spec_FieldOk.f k a0_0 a0_1).bind fun t851=>(if t851=true then(if a0_0.size+2≤9223372036854775807 then(if(a0_0++(⟨#[58,32]⟩:ByteArray)).size+a0_1.size≤9223372036854775807 then(some ((a0_0++(⟨#[58,32]⟩:ByteArray))++a0_1)) else(none)) else(none)) else(some (⟨#[]⟩:ByteArray)))
theorem spec_FieldText.mono : ∀ a0 a1 k,LeO (spec_FieldText.f k a0 a1) (spec_FieldText.f (k+1) a0 a1):=by
 intro a0 a1 k
 unfold spec_FieldText.f
 repeat' first|(with_reducible first|exact spec_FieldOk.mono ..|exact LeO.refl ..|exact LeO.none ..|refine LeO.ite ?_ ?_|refine LeO.bind ?_ (fun _=>?_))
set_option maxHeartbeats 8000000 in
set_option maxRecDepth 100000 in
theorem spec_FieldText.calls (k:Nat) (a0_0 a0_1 r:ByteArray) (w:World) (h:spec_FieldText.f k a0_0 a0_1=some r) :
  Calls Tryz.prog 126 #[.agg #[.string a0_0,.string a0_1]] w fun e w'=>e = .returned (.string r)∧Below w.heap.size w w':=by
 have hu41:=Tryz.underlying41;have HB:=Aside0.mk (Below.refl w.heap.size w);have H:=h;clear h;unfold spec_FieldText.f at H;replace H:=gD H;obtain⟨t851,A2,H⟩:=H;replace H:=gB H;rcases H with⟨rfl,H⟩|⟨rfl,H⟩
 ·replace H:=gN H;obtain⟨c4,c4b1,c4b0,H⟩:=H;try have c4b2:(9223372036854775807<a0_0.size+2)=False:=eq_false (Nat.not_lt.2 c4)
  replace H:=gN H;obtain⟨c5,c5b1,c5b0,H⟩:=H;try have c5b2:(9223372036854775807<(a0_0++(⟨#[58,32]⟩:ByteArray)).size+a0_1.size)=False:=eq_false (Nat.not_lt.2 c5)
  try have c5b3:(9223372036854775807<a0_0.size+2+a0_1.size)=False:=by have h_:=c5;simp only[ByteArray.size_append] at h_;exact eq_false (Nat.not_lt.2 h_)
  obtain rfl:=Option.some.inj H;go_enter Tryz.func126,Tryz.ntmps126;go_wp2_with(first|((with_reducible refine gate_dst (N:=1) rfl ?_);refine boxA #[.string a0_0,.string a0_1] 41 ?_;intro gb850 hg w6 hbox hb;have BK850:=Aside0.mk (hbox);have GW850:=geA hg;have GE850:=geA hg;replace HB:=beA hb;clear hb hbox hg;obtain⟨_,_⟩:=czA2 BK850;obtain⟨_,_⟩:=cfA2 BK850)|((with_reducible refine gate_callee (f:=32) rfl ?_);refine goesL_ (some 4) rfl rfl Tryz.func32 (by kernel_rfl) rfl #[.agg #[.string a0_0,.string a0_1]] rfl gq0 ?_;(with_reducible refine(spec_FieldOk.calls k a0_0 a0_1 true _ A2.out).mono ?_);rintro e w8 ⟨rfl,hb⟩;refine⟨_,rfl,?_⟩;replace BK850:=blA (g:=gb850) hb;replace HB:=beA hb;(try clear hb);obtain⟨_,_⟩:=czA2 BK850;obtain⟨_,_⟩:=cfA2 BK850));go_ret;exact⟨gq1,gBe⟩
 ·obtain rfl:=Option.some.inj H;go_enter Tryz.func126,Tryz.ntmps126;go_wp2_with(first|((with_reducible refine gate_dst (N:=1) rfl ?_);refine boxA #[.string a0_0,.string a0_1] 41 ?_;intro gb850 hg w10 hbox hb;have BK850:=Aside0.mk (hbox);have GW850:=geA hg;have GE850:=geA hg;replace HB:=beA hb;clear hb hbox hg;obtain⟨_,_⟩:=czA2 BK850;obtain⟨_,_⟩:=cfA2 BK850)|((with_reducible refine gate_callee (f:=32) rfl ?_);refine goesL_ (some 4) rfl rfl Tryz.func32 (by kernel_rfl) rfl #[.agg #[.string a0_0,.string a0_1]] rfl gq0 ?_;(with_reducible refine(spec_FieldOk.calls k a0_0 a0_1 false _ A2.out).mono ?_);rintro e w12 ⟨rfl,hb⟩;refine⟨_,rfl,?_⟩;replace BK850:=blA (g:=gb850) hb;replace HB:=beA hb;(try clear hb)));go_ret;exact⟨gq1,gBe⟩

end Go.Proofs.YtonmpnghlopnoaaGreatDoor.P
