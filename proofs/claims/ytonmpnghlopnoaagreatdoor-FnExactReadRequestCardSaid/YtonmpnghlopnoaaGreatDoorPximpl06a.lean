import Derived.Test.YtonmpnghlopnoaaGreatDoorPx0
import Derived.Test.YtonmpnghlopnoaaGreatDoorPximpl01a
import Derived.Test.YtonmpnghlopnoaaGreatDoorWC
import Derived.Test.YtonmpnghlopnoaaGreatDoorPxliba
namespace Go.Proofs.YtonmpnghlopnoaaGreatDoor.P
open Go.RowKit Go.Proofs.YtonmpnghlopnoaaGreatDoorW.PrintWords Go.Proofs.YtonmpnghlopnoaaGreatDoorW.PrintLast Go.Proofs.YtonmpnghlopnoaaGreatDoorW.PrintMore
attribute [local go_sem] max2_int min2_int max_two min_two max_three min_three max_four min_four   -- for this text's walks alone
set_option linter.unusedVariables false
set_option linter.unusedSimpArgs false

def impl_isStatus.f (a0:Int):Option (Bool):=(impl_within.f a0 200 599).bind fun t308=>(some t308)
set_option maxHeartbeats 8000000 in
set_option maxRecDepth 100000 in
theorem impl_isStatus.calls (a0:Int) (r:Bool) (w:World) (h:impl_isStatus.f a0=some r) :
  Calls Tryz.prog 39 #[.int .i64 a0] w fun e w'=>e = .returned (.bool r)∧Drawn0 w w':=by
 have H:=h;clear h;unfold impl_isStatus.f at H;replace H:=gD H;obtain⟨t308,A2,H⟩:=H;obtain rfl:=Option.some.inj H;go_enter Tryz.func39,Tryz.ntmps39;go_wp2_with(first|((with_reducible refine gate_callee (f:=69) rfl ?_);refine goesL_ (some 4) rfl rfl Tryz.func69 (by kernel_rfl) rfl #[.int .i64 a0,.int .i64 200,.int .i64 599] rfl gq0 ?_;(with_reducible refine(impl_within.calls a0 200 599 t308 _ A2.out).mono ?_);rintro e w' ⟨rfl,⟨nd,rfl⟩⟩;refine⟨_,rfl,?_⟩));go_ret;exact⟨gq3,gq5⟩

def impl_isReason.f (k:Nat) (a0:ByteArray):Option (Bool):=if(a0.size:Int)≤40 then((impl_all__impl_isPlain.f k a0).bind fun t317=>(some t317)) else(some false)
theorem impl_isReason.mono : ∀ a0 k,LeO (impl_isReason.f k a0) (impl_isReason.f (k+1) a0):=by
 intro a0 k
 unfold impl_isReason.f
 repeat' first|(with_reducible first|exact impl_all__impl_isPlain.mono ..|exact LeO.refl ..|exact LeO.none ..|refine LeO.ite ?_ ?_|refine LeO.bind ?_ (fun _=>?_))
set_option maxHeartbeats 8000000 in
set_option maxRecDepth 100000 in
theorem impl_isReason.calls (k:Nat) (a0:ByteArray) (r:Bool) (w:World) (h:impl_isReason.f k a0=some r) :
  Calls Tryz.prog 40 #[.string a0] w fun e w'=>e = .returned (.bool r)∧Drawn0 w w':=by
 have H:=h;clear h;unfold impl_isReason.f at H;replace H:=gI H;rcases H with⟨c2,c2b0,-,H⟩|⟨c2,c2b0,-,H⟩
 ·have c2b1:decide (a0.size≤40)=true:=decide_eq_true (by omega);clear c2;replace H:=gD H;obtain⟨t317,A3,H⟩:=H;obtain rfl:=Option.some.inj H;go_enter Tryz.func40,Tryz.ntmps40;go_wp2_with(first|(go_at_call 36;(with_reducible refine(impl_all__impl_isPlain.calls k a0  t317 _ A3.out).mono ?_);rintro e w' ⟨rfl,⟨nd,rfl⟩⟩));go_ret;exact⟨gq3,gq5⟩
 ·have c2b1:decide (a0.size≤40)=false:=decide_eq_false (by omega);clear c2;obtain rfl:=Option.some.inj H;go_enter Tryz.func40,Tryz.ntmps40;go_wp2;go_ret;exact⟨gq3,gq5⟩

def impl_isMethod.f (k:Nat) (a0:ByteArray):Option (Bool):=(impl_Token.f k a0).bind fun t354=>(if t354=true then(some (decide ((a0.size:Int)≤20))) else(some false))
theorem impl_isMethod.mono : ∀ a0 k,LeO (impl_isMethod.f k a0) (impl_isMethod.f (k+1) a0):=by
 intro a0 k
 unfold impl_isMethod.f
 repeat' first|(with_reducible first|exact impl_Token.mono ..|exact LeO.refl ..|exact LeO.none ..|refine LeO.ite ?_ ?_|refine LeO.bind ?_ (fun _=>?_))
set_option maxHeartbeats 8000000 in
set_option maxRecDepth 100000 in
theorem impl_isMethod.calls (k:Nat) (a0:ByteArray) (r:Bool) (w:World) (h:impl_isMethod.f k a0=some r) :
  Calls Tryz.prog 42 #[.string a0] w fun e w'=>e = .returned (.bool r)∧Drawn0 w w':=by
 have H:=h;clear h;unfold impl_isMethod.f at H;replace H:=gD H;obtain⟨t354,A2,H⟩:=H;replace H:=gB H;rcases H with⟨rfl,H⟩|⟨rfl,H⟩
 ·obtain rfl:=Option.some.inj H;go_enter Tryz.func42,Tryz.ntmps42;go_wp2_with(first|((with_reducible refine gate_callee (f:=79) rfl ?_);refine goesL_ (some 4) rfl rfl Tryz.func79 (by kernel_rfl) rfl #[.string a0] rfl gq0 ?_;(with_reducible refine(impl_Token.calls k a0 true _ A2.out).mono ?_);rintro e w' ⟨rfl,⟨nd,rfl⟩⟩;refine⟨_,rfl,?_⟩));go_ret;exact⟨gq3,gq5⟩
 ·obtain rfl:=Option.some.inj H;go_enter Tryz.func42,Tryz.ntmps42;go_wp2_with(first|((with_reducible refine gate_callee (f:=79) rfl ?_);refine goesL_ (some 4) rfl rfl Tryz.func79 (by kernel_rfl) rfl #[.string a0] rfl gq0 ?_;(with_reducible refine(impl_Token.calls k a0 false _ A2.out).mono ?_);rintro e w' ⟨rfl,⟨nd,rfl⟩⟩;refine⟨_,rfl,?_⟩));go_ret;exact⟨gq3,gq5⟩

def impl_isVisible.f (a0:Int):Option (Bool):=if a0≥33 then(some (decide (a0≤126))) else(some false)
set_option maxHeartbeats 8000000 in
set_option maxRecDepth 100000 in
theorem impl_isVisible.calls (a0:Int) (r:Bool) (w:World) (h:impl_isVisible.f a0=some r) :
  Calls Tryz.prog 80 #[.int .u8 a0] w fun e w'=>e = .returned (.bool r)∧Drawn0 w w':=by
 have H:=h;clear h;unfold impl_isVisible.f at H;replace H:=gI H;rcases H with⟨c2,-,-,H⟩|⟨c2,-,-,H⟩
 ·have c2b0:decide (33≤a0)=true:=decide_eq_true c2;clear c2;obtain rfl:=Option.some.inj H;go_enter Tryz.func80,Tryz.ntmps80;go_wp2;go_ret;exact⟨gq3,gq5⟩
 ·have c2b0:decide (33≤a0)=false:=decide_eq_false c2;clear c2;obtain rfl:=Option.some.inj H;go_enter Tryz.func80,Tryz.ntmps80;go_wp2;go_ret;exact⟨gq3,gq5⟩

def impl_all__impl_isVisible.l0 : Nat→ByteArray→Int→Option (Bool)
 |0,_,_=>none
 |k+1,x0,x5=>if x5<(x0.size:Int) then(if 0≤x5 then((impl_isVisible.f (bt x0 x5)).bind fun t373=>(if t373=true then(impl_all__impl_isVisible.l0 k x0 (wrap64 (x5+1))) else(some false))) else(none)) else(some true)
def impl_all__impl_isVisible.f (k:Nat) (a0:ByteArray)  : Option (Bool):=impl_all__impl_isVisible.l0 k a0 0
theorem impl_all__impl_isVisible.mono_l : ∀ k,(∀ y0 y1,LeO (impl_all__impl_isVisible.l0 k y0 y1) (impl_all__impl_isVisible.l0 (k+1) y0 y1))
 |0=>fun _ _ r h=>by simp[impl_all__impl_isVisible.l0] at h
 |k+1=>by
  have ih0:=impl_all__impl_isVisible.mono_l k
  ·intro y0 y1
   unfold impl_all__impl_isVisible.l0
   repeat' first|(with_reducible first|exact ih0 ..|exact LeO.refl ..|exact LeO.none ..|refine LeO.ite ?_ ?_|refine LeO.bind ?_ (fun _=>?_))|exact ih0 ..
theorem impl_all__impl_isVisible.mono : ∀ a0 k,LeO (impl_all__impl_isVisible.f k a0) (impl_all__impl_isVisible.f (k+1) a0):=by
 intro a0 k
 have ih0:=impl_all__impl_isVisible.mono_l k
 unfold impl_all__impl_isVisible.f
 repeat' first|(with_reducible first|exact ih0 ..|exact LeO.refl ..|exact LeO.none ..|refine LeO.ite ?_ ?_|refine LeO.bind ?_ (fun _=>?_))|exact ih0 ..
set_option maxHeartbeats 8000000 in
set_option maxRecDepth 100000 in
theorem impl_all__impl_isVisible.calls (k:Nat) (a0:ByteArray)  (r:Bool) (w:World) (h:impl_all__impl_isVisible.f k a0=some r) :
  Calls Tryz.prog 36 #[.string a0,.func (.func 80) #[] #[]] w fun e w'=>e = .returned (.bool r)∧Drawn0 w w':=by
 have H:=h;clear h;unfold impl_all__impl_isVisible.f at H;have H':=Aside0.mk H;clear H;go_enter Tryz.func36,Tryz.ntmps36;go_wp2;go_loopg [5] k (fun kq v5 w'=>∃(x5_1:Int),v5 = .int .i64 x5_1∧Aside0 (impl_all__impl_isVisible.l0 kq a0 x5_1=some r)∧Aside0 (kq≤k)∧Drawn0 w w')
 case atStart=>exact⟨(0),gq3,H',⟨Nat.le_refl _⟩,gq5⟩
 case round=>
  clear H';obtain⟨x5_1,rfl,HA,HK1,⟨m1,rfl⟩⟩:=hrel;cases gk with
  |zero=>exact absurd HA.out (by simp[impl_all__impl_isVisible.l0])
  |succ k1=>
   have H:=HA.out;clear HA;simp only[impl_all__impl_isVisible.l0] at H;replace H:=gI H;rcases H with⟨-,c3b0,-,H⟩|⟨-,c3b0,-,H⟩
   ·replace H:=gN H;obtain⟨-,c4b0,-,H⟩:=H;replace H:=gD H;obtain⟨t373,A6,H⟩:=H;replace H:=gB H;rcases H with⟨rfl,H⟩|⟨rfl,H⟩
    ·have H':=Aside0.mk H;clear H;have p5:0≤(x5_1:Int):=of_decide_eq_true gq4;have q5:x5_1<(a0.size:Int):=of_decide_eq_true gq4;have hx5:=bt_at a0 x5_1;replace p5:=eq_true p5;replace q5:=eq_true q5;go_wp2_with(first|(go_at_call 80;(with_reducible refine(impl_isVisible.calls (bt a0 x5_1) true _ A6.out).mono ?_);rintro e w' ⟨rfl,⟨nd,rfl⟩⟩));go_roundg k1
     case measure=>have:=HK1.out;omega
     case rel=>exact⟨(wrap64 (x5_1+1)),gq3,H',⟨by have:=HK1.out;omega⟩,gq5⟩
    ·obtain rfl:=Option.some.inj H;have p5:0≤(x5_1:Int):=of_decide_eq_true gq4;have q5:x5_1<(a0.size:Int):=of_decide_eq_true gq4;have hx5:=bt_at a0 x5_1;replace p5:=eq_true p5;replace q5:=eq_true q5;go_wp2_with(first|(go_at_call 80;(with_reducible refine(impl_isVisible.calls (bt a0 x5_1) false _ A6.out).mono ?_);rintro e w' ⟨rfl,⟨nd,rfl⟩⟩));go_ret;exact⟨gq3,gq5⟩
   ·obtain rfl:=Option.some.inj H;go_wp2;go_ret;exact⟨gq3,gq5⟩

def impl_isTarget.f (k:Nat) (a0:ByteArray):Option (Bool):=(impl_within.f (a0.size:Int) 1 200).bind fun t374=>(if t374=true then((impl_all__impl_isVisible.f k a0).bind fun t375=>(some t375)) else(some false))
theorem impl_isTarget.mono : ∀ a0 k,LeO (impl_isTarget.f k a0) (impl_isTarget.f (k+1) a0):=by
 intro a0 k
 unfold impl_isTarget.f
 repeat' first|(with_reducible first|exact impl_all__impl_isVisible.mono ..|exact LeO.refl ..|exact LeO.none ..|refine LeO.ite ?_ ?_|refine LeO.bind ?_ (fun _=>?_))
set_option maxHeartbeats 8000000 in
set_option maxRecDepth 100000 in
theorem impl_isTarget.calls (k:Nat) (a0:ByteArray) (r:Bool) (w:World) (h:impl_isTarget.f k a0=some r) :
  Calls Tryz.prog 43 #[.string a0] w fun e w'=>e = .returned (.bool r)∧Drawn0 w w':=by
 have H:=h;clear h;unfold impl_isTarget.f at H;replace H:=gD H;obtain⟨t374,A2,H⟩:=H;replace H:=gB H;rcases H with⟨rfl,H⟩|⟨rfl,H⟩
 ·replace H:=gD H;obtain⟨t375,A4,H⟩:=H;obtain rfl:=Option.some.inj H;go_enter Tryz.func43,Tryz.ntmps43;go_wp2_with(first|((with_reducible refine gate_callee (f:=69) rfl ?_);refine goesL_ (some 5) rfl rfl Tryz.func69 (by kernel_rfl) rfl #[.int .i64 (a0.size:Int),.int .i64 1,.int .i64 200] rfl gq0 ?_;(with_reducible refine(impl_within.calls (a0.size:Int) 1 200 true _ A2.out).mono ?_);rintro e w' ⟨rfl,⟨nd,rfl⟩⟩;refine⟨_,rfl,?_⟩)|(go_at_call 36;(with_reducible refine(impl_all__impl_isVisible.calls k a0  t375 _ A4.out).mono ?_);rintro e w' ⟨rfl,⟨nd,rfl⟩⟩));go_ret;exact⟨gq3,gq5⟩
 ·obtain rfl:=Option.some.inj H;go_enter Tryz.func43,Tryz.ntmps43;go_wp2_with(first|((with_reducible refine gate_callee (f:=69) rfl ?_);refine goesL_ (some 5) rfl rfl Tryz.func69 (by kernel_rfl) rfl #[.int .i64 (a0.size:Int),.int .i64 1,.int .i64 200] rfl gq0 ?_;(with_reducible refine(impl_within.calls (a0.size:Int) 1 200 false _ A2.out).mono ?_);rintro e w' ⟨rfl,⟨nd,rfl⟩⟩;refine⟨_,rfl,?_⟩));go_ret;exact⟨gq3,gq5⟩


mutual
def impl_readFirst.j0 : Nat→ByteArray→Bool→Option (ByteArray×ByteArray×Int×ByteArray×Bool×(List (S41))×ByteArray×Bool)
 |0,_,_=>none
 |k+1,x6,x34=>if x34=true then(some ((⟨#[]⟩:ByteArray),(⟨#[]⟩:ByteArray),0,(⟨#[]⟩:ByteArray),false,([]:List (S41)),(⟨#[]⟩:ByteArray),false)) else(if 0≤3 then(if 3≤(x6.size:Int) then((strconv_Atoi_38.f (x6.extract 0 3)).bind fun bt380=>(if 4≤(x6.size:Int) then((impl_isStatus.f bt380.1).bind fun t382=>(if t382=true then((impl_isReason.f k (x6.extract 4 x6.size)).bind fun t383=>(some ((⟨#[]⟩:ByteArray),(⟨#[]⟩:ByteArray),bt380.1,x6.extract 4 x6.size,false,([]:List (S41)),(⟨#[]⟩:ByteArray),t383))) else(some ((⟨#[]⟩:ByteArray),(⟨#[]⟩:ByteArray),bt380.1,x6.extract 4 x6.size,false,([]:List (S41)),(⟨#[]⟩:ByteArray),false)))) else(none))) else(none)) else(none))
def impl_readFirst.j1 : Nat→List ByteArray→Bool→Option (ByteArray×ByteArray×Int×ByteArray×Bool×(List (S41))×ByteArray×Bool)
 |0,_,_=>none
 |k+1,x10,x63=>if x63=true then(some ((⟨#[]⟩:ByteArray),(⟨#[]⟩:ByteArray),0,(⟨#[]⟩:ByteArray),false,([]:List (S41)),(⟨#[]⟩:ByteArray),false)) else(if 0<(x10.length:Int) then(if 1<(x10.length:Int) then((impl_isMethod.f k (rdOf ByteArray.empty x10 0)).bind fun t391=>(if t391=true then((impl_isTarget.f k (rdOf ByteArray.empty x10 1)).bind fun t393=>(some (rdOf ByteArray.empty x10 0,rdOf ByteArray.empty x10 1,0,(⟨#[]⟩:ByteArray),false,([]:List (S41)),(⟨#[]⟩:ByteArray),t393))) else(some (rdOf ByteArray.empty x10 0,rdOf ByteArray.empty x10 1,0,(⟨#[]⟩:ByteArray),false,([]:List (S41)),(⟨#[]⟩:ByteArray),false)))) else(none)) else(none))
end
def impl_readFirst.f (k:Nat) (a0:ByteArray) (a1:Bool):Option (ByteArray×ByteArray×Int×ByteArray×Bool×(List (S41))×ByteArray×Bool):=if a1=true then((strings_CutPrefix.f a0 (⟨#[72,84,84,80,47,49,46,49,32]⟩:ByteArray)).bind fun bt377=>(if bt377.2=true then(if(bt377.1.size:Int)<4 then(impl_readFirst.j0 k bt377.1 true) else(if 3<(bt377.1.size:Int) then(if(bt bt377.1 3)=32 then(if 0≤3 then(if 3≤(bt377.1.size:Int) then((impl_all__impl_isDigit.f k (bt377.1.extract 0 3)).bind fun t379=>(impl_readFirst.j0 k bt377.1 (!t379))) else(none)) else(none)) else(impl_readFirst.j0 k bt377.1 true)) else(none))) else(impl_readFirst.j0 k bt377.1 true))) else((strings_Split.f a0 (⟨#[32]⟩:ByteArray)).bind fun t384=>(if(t384.length:Int)=3 then(if 2<(t384.length:Int) then(impl_readFirst.j1 k t384 ((rdOf ByteArray.empty t384 2).toList != ([72,84,84,80,47,49,46,49]:List UInt8))) else(none)) else(impl_readFirst.j1 k t384 true)))
theorem impl_readFirst.mono_l : ∀ k,(∀ y0 y1,LeO (impl_readFirst.j0 k y0 y1) (impl_readFirst.j0 (k+1) y0 y1))∧(∀ y0 y1,LeO (impl_readFirst.j1 k y0 y1) (impl_readFirst.j1 (k+1) y0 y1))
 |0=>⟨fun _ _ r h=>by simp[impl_readFirst.j0] at h,fun _ _ r h=>by simp[impl_readFirst.j1] at h⟩
 |k+1=>by
  obtain⟨ih0,ih1⟩:=impl_readFirst.mono_l k
  refine⟨?_,?_⟩
  ·intro y0 y1
   unfold impl_readFirst.j0
   repeat' first|(with_reducible first|exact ih0 ..|exact ih1 ..|exact impl_all__impl_isDigit.mono ..|exact impl_isMethod.mono ..|exact impl_isReason.mono ..|exact impl_isTarget.mono ..|exact LeO.refl ..|exact LeO.none ..|refine LeO.ite ?_ ?_|refine LeO.bind ?_ (fun _=>?_))|exact ih0 ..|exact ih1 ..
  ·intro y0 y1
   unfold impl_readFirst.j1
   repeat' first|(with_reducible first|exact ih0 ..|exact ih1 ..|exact impl_all__impl_isDigit.mono ..|exact impl_isMethod.mono ..|exact impl_isReason.mono ..|exact impl_isTarget.mono ..|exact LeO.refl ..|exact LeO.none ..|refine LeO.ite ?_ ?_|refine LeO.bind ?_ (fun _=>?_))|exact ih0 ..|exact ih1 ..
theorem impl_readFirst.mono : ∀ a0 a1 k,LeO (impl_readFirst.f k a0 a1) (impl_readFirst.f (k+1) a0 a1):=by
 intro a0 a1 k
 obtain⟨ih0,ih1⟩:=impl_readFirst.mono_l k
 unfold impl_readFirst.f
 repeat' first|(with_reducible first|exact ih0 ..|exact ih1 ..|exact impl_all__impl_isDigit.mono ..|exact impl_isMethod.mono ..|exact impl_isReason.mono ..|exact impl_isTarget.mono ..|exact LeO.refl ..|exact LeO.none ..|refine LeO.ite ?_ ?_|refine LeO.bind ?_ (fun _=>?_))|exact ih0 ..|exact ih1 ..
def impl_readFirst.T6 : Bool×List (List Nat×List Nat):=(true,[([],[]),([],[]),([1],[1]),([0,2],[0,2]),([],[]),([4],[4]),([5,5],[5]),([6],[6]),([7,6],[6,7]),([8,6,6],[6,8]),([6,9],[6,9]),([3,9,0,1,2,3],[3]),([10,11,0,1,2,3,4,5,6,7,8,9,10,11],[10])])
def impl_readFirst.B6 : List Nat:=[0,0,2,7,0,16,48,112,240,496,1008,1023,4095]
theorem impl_readFirst.tab6 : rtab .any (opsOf Tryz.f20 6)=impl_readFirst.T6:=by kernel_rfl
theorem impl_readFirst.bits6 : waitsOk impl_readFirst.T6.2 impl_readFirst.B6=true:=by kernel_rfl
def impl_readFirst.T10 : Bool×List (List Nat×List Nat):=(true,[([],[]),([0],[0]),([1],[1]),([],[]),([3],[3]),([4],[4]),([2,5],[2,5]),([],[]),([7],[7]),([8],[8]),([9],[9]),([10,10],[10]),([11],[11]),([12,11],[11,12]),([13,11],[11,13]),([14,11,11],[11,14]),([11,15],[11,15]),([6,15,0,1,2,3,4,5,6],[6]),([16,17,0,1,2,3,4,5,6,7,8,9,10,11,12,13,14,15,16,17],[16])])
def impl_readFirst.B10 : List Nat:=[0,1,3,0,8,24,63,0,128,384,896,1920,3968,8064,16256,32640,65408,65535,262143]
theorem impl_readFirst.tab10 : rtab .any (opsOf Tryz.f20 10)=impl_readFirst.T10:=by kernel_rfl
theorem impl_readFirst.bits10 : waitsOk impl_readFirst.T10.2 impl_readFirst.B10=true:=by kernel_rfl
set_option maxHeartbeats 8000000 in
set_option maxRecDepth 100000 in
theorem impl_readFirst.calls (k:Nat) (a0:ByteArray) (a1:Bool) (r1 r2:ByteArray) (r3:Int) (r4:ByteArray) (r5:Bool) (r6:List (S41)) (r7:ByteArray) (r8:Bool) (w:World) (h:impl_readFirst.f k a0 a1=some (r1,r2,r3,r4,r5,r6,r7,r8)) :
  Calls Tryz.prog 20 #[.string a0,.bool a1] w fun e w'=>∃ v5_:Value,e = .returned (.tuple #[.agg #[.string r1,.string r2,.int .i64 r3,.string r4,.bool r5,v5_,.string r7],.bool r8])∧Kd.R k41 41 w' w.heap.size (fun _=>True) v5_ r6∧Below w.heap.size w w':=by
 have hu24:=Tryz.underlying24;have HB:=Aside0.mk (Below.refl w.heap.size w);have H:=h;clear h;unfold impl_readFirst.f at H;replace H:=gB H;rcases H with⟨rfl,H⟩|⟨rfl,H⟩
 ·replace H:=gD H;obtain⟨⟨t377,t378⟩,A4,H⟩:=H;dsimp only at H;have HC5:=Aside0.mk H;clear H;go_enter Tryz.func20,Tryz.ntmps20;go_upto_region 3 with(first|((with_reducible refine gate_dst (N:=4) rfl ?_);refine boxG #[.string (⟨#[]⟩:ByteArray),.string (⟨#[]⟩:ByteArray),.int .i64 0,.string (⟨#[]⟩:ByteArray),.bool false,.slice none 0 0,.string (⟨#[]⟩:ByteArray)] 24 ?_;intro gb376 hg w6 hbox hb;have BK376:=Aside0.mk (hbox);have GW376:=geA hg;have GE376:=geA hg;replace HB:=beA hb;clear hb hbox hg)|((with_reducible refine gate_callee (f:=35) rfl ?_);refine goesL_ (some 14) rfl rfl Tryz.func35 (by kernel_rfl) rfl #[.string a0,.string (⟨#[72,84,84,80,47,49,46,49,32]⟩:ByteArray)] rfl gq0 ?_;(with_reducible refine(strings_CutPrefix.calls a0 (⟨#[72,84,84,80,47,49,46,49,32]⟩:ByteArray) t377 t378 _ A4.out).mono ?_);rintro e w' ⟨rfl,⟨nd,rfl⟩⟩;refine⟨_,rfl,?_⟩));(try simp only[Act.put,List.setIfInBounds_toArray,List.set_cons_zero,List.set_cons_succ])
  go_cut [34] (fun v34 wc=>∃(kq:Nat) (x34_4:Bool),v34 = .bool x34_4∧Aside0 (impl_readFirst.j0 kq t377 x34_4=some (r1,r2,r3,r4,r5,r6,r7,r8))∧Aside0 (kq≤k)∧Aside0 (wc.heap[gb376]? = some (.cells #[.string (⟨#[]⟩:ByteArray),.string (⟨#[]⟩:ByteArray),.int .i64 0,.string (⟨#[]⟩:ByteArray),.bool false,(.slice none 0 0),.string (⟨#[]⟩:ByteArray)] 24 (0,0)))∧Aside0 (Below w.heap.size w wc))
  case first=>
   have H:=HC5.out;clear HC5;replace H:=gB H;rcases H with⟨rfl,H⟩|⟨rfl,H⟩
   ·replace H:=gI H;rcases H with⟨c8,c8b0,-,H⟩|⟨c8,c8b0,-,H⟩
    ·have c8b1:decide (t377.size<4)=true:=decide_eq_true (by omega);clear c8;(first|rw[c8b0]|(simp only[i64_w,i32_w];rw[c8b0])|skip)
     have H':=Aside0.mk H;clear H;go_wp2;go_meet
     case rel=>exact⟨_,(true),gq3,H',⟨gq9⟩,⟨gBk⟩,⟨gBe⟩⟩
    ·have c8b1:decide (t377.size<4)=false:=decide_eq_false (by omega);clear c8;(first|rw[c8b0]|(simp only[i64_w,i32_w];rw[c8b0])|skip)
     replace H:=gN H;obtain⟨c9,c9b0,-,H⟩:=H;have c9b1:decide (3<t377.size)=true:=decide_eq_true (by omega);clear c9;replace H:=gI H;rcases H with⟨c11,-,-,H⟩|⟨c11,-,-,H⟩
     ·obtain⟨c11b0,c11b1⟩:=gEt c11;clear c11;replace H:=gN H;obtain⟨-,c12b1,c12b0,H⟩:=H;replace H:=gN H;obtain⟨-,c13b1,c13b0,H⟩:=H;replace H:=gD H;obtain⟨t379,A14,H⟩:=H;have H':=Aside0.mk H;clear H;have p10:0≤(3:Int):=(by omega);have q10:3<t377.size:=(by have:(3:Int)<(t377.size:Int):=of_decide_eq_true gq4;omega);have hx10:∀ h:3<t377.size,((t377[3]'h).toNat:Int)=bt t377 3:=bt_at t377 3;clear p10;have qi10:(3<(t377.size:Int))=True:=eq_true (of_decide_eq_true gq4);replace q10:=eq_true q10;go_wp2_with(first|(go_at_call 36;(with_reducible refine(impl_all__impl_isDigit.calls k (t377.extract 0 3)  t379 _ A14.out).mono ?_);rintro e w' ⟨rfl,⟨nd,rfl⟩⟩));go_meet
      case rel=>exact⟨_,(!t379),gq3,H',⟨gq9⟩,⟨gBk⟩,⟨gBe⟩⟩
     ·obtain⟨c11b0,c11b1⟩:=gEf c11;have H':=Aside0.mk H;clear H;have p10:0≤(3:Int):=(by omega);have q10:3<t377.size:=(by have:(3:Int)<(t377.size:Int):=of_decide_eq_true gq4;omega);have hx10:∀ h:3<t377.size,((t377[3]'h).toNat:Int)=bt t377 3:=bt_at t377 3;clear p10;have qi10:(3<(t377.size:Int))=True:=eq_true (of_decide_eq_true gq4);replace q10:=eq_true q10;go_wp2;go_meet
      case rel=>exact⟨_,(true),gq3,H',⟨gq9⟩,⟨gBk⟩,⟨gBe⟩⟩
   ·have H':=Aside0.mk H;clear H;go_wp2;go_meet
    case rel=>exact⟨_,(true),gq3,H',⟨gq9⟩,⟨gBk⟩,⟨gBe⟩⟩
  case rest=>
   clear HC5;obtain⟨kq,x34_4,rfl,HA,HJ4,BK376,HB⟩:=hcut;cases kq with
   |zero=>exact absurd HA.out (by simp[impl_readFirst.j0])
   |succ kj4=>
    have H:=HA.out;clear HA;simp only[impl_readFirst.j0] at H;replace H:=gB H;rcases H with⟨rfl,H⟩|⟨rfl,H⟩
    ·simp only[Option.some.injEq,Prod.mk.injEq] at H;obtain⟨rfl,rfl,rfl,rfl,rfl,rfl,rfl,rfl⟩:=H;obtain⟨_,_,_,_,_,_,_⟩:=czA7 BK376;obtain⟨_,_,_,_,_,_,_⟩:=cfA7 BK376;go_wp2;refine rctA gb376 24 #[.string (⟨#[]⟩:ByteArray),.string (⟨#[]⟩:ByteArray),.int .i64 0,.string (⟨#[]⟩:ByteArray),.bool false,.slice none 0 0,.string (⟨#[]⟩:ByteArray)] Tryz.underlying24 ?_;exact⟨_,gq1,gq6,gBe⟩
    ·replace H:=gN H;obtain⟨-,c17b1,c17b0,H⟩:=H;replace H:=gN H;obtain⟨-,c18b1,c18b0,H⟩:=H;replace H:=gD H;obtain⟨⟨t380,t381⟩,A19,H⟩:=H;dsimp only at H;replace H:=gN H;obtain⟨-,c20b1,c20b0,H⟩:=H;replace H:=gD H;obtain⟨t382,A21,H⟩:=H;replace H:=gB H;rcases H with⟨rfl,H⟩|⟨rfl,H⟩
     ·have c23b0:=eq_true (of_decide_eq_true gq4:4≤(t377.size:Int));replace H:=gD H;obtain⟨t383,A24,H⟩:=H;simp only[Option.some.injEq,Prod.mk.injEq] at H;obtain⟨rfl,rfl,rfl,rfl,rfl,rfl,rfl,rfl⟩:=H;try go_wp2_with(first|((with_reducible refine gate_callee (f:=38) rfl ?_);refine goesL_ (some 39) rfl rfl Tryz.func38 (by kernel_rfl) rfl #[.string (t377.extract 0 3)] rfl gq0 ?_;(with_reducible refine(strconv_Atoi_38.calls (t377.extract 0 3) t380 t381 _ A19.out).mono ?_);rintro e w25 ⟨rfl,hb⟩;refine⟨_,rfl,?_⟩;replace BK376:=blA (g:=gb376) hb;replace HB:=beA hb;(try clear hb);(try simp only[errW_none,errW_some])))
      replace BK376:=Aside0.mk (blk_drew BK376.out);replace HB:=Aside0.mk (below_drew1 HB.out);refine start_ (n:=13) (S:=fun w'=>True) (ds:=[]) #[false,false,false,false,false,false,false,false,false,false,false,false,false] (by kernel_rfl) rfl rfl trivial (fun hHeld=>?_);refine with_tabW impl_readFirst.tab6 impl_readFirst.bits6 (fun HT_ HW_=>?_);generalize w25.drew=w26 at BK376 HB hHeld ⊢;refine pureT 0 (some 42) ?_;refine pureT 1 (some 43) ?_;refine pureT 2 (some 44) ?_;refine pureT 3 (some 45) ?_;refine pureT 4 (some 46) ?_;refine one_ (i:=5) (N:=some 47) #[true,true,true,true,true,true,false,false,false,false,false,false,false] rfl rfl (one_of HT_.out (by kernel_rfl)) (by decide) (fun K hK=>?_);refine goes_ Tryz.func39 (by kernel_rfl) rfl #[.int .i64 t380] (by rfl) rfl rfl gq0 ?_;(with_reducible refine(impl_isStatus.calls t380 true _ A21.out).mono ?_);rintro e w' ⟨rfl,⟨nd,rfl⟩⟩;refine⟨_,rfl,?_⟩;refine hK.out _ _ trivial (fun hHeld=>?_);clear hK K;refine normA (some 47) ?_;refine pureT 6 (some 48) ?_;refine pureT 7 (some 49) ?_;refine pureT 8 (some 50) ?_;refine one_ (i:=9) (N:=some 51) #[true,true,true,true,true,true,true,true,true,true,false,false,false] rfl rfl (one_of HT_.out (by kernel_rfl)) (by decide) (fun K hK=>?_);refine goes_ Tryz.func40 (by kernel_rfl) rfl #[.string (t377.extract 4 t377.size)] (by rfl) rfl rfl gq0 ?_;(with_reducible refine(impl_isReason.calls kj4 (t377.extract 4 t377.size) t383 _ A24.out).mono ?_);rintro e w' ⟨rfl,⟨nd,rfl⟩⟩;refine⟨_,rfl,?_⟩;refine hK.out _ _ trivial (fun hHeld=>?_);clear hK K;refine normA (some 51) ?_;refine pureT 10 (some 52) ?_;refine one_ (i:=11) (N:=none) #[true,true,true,true,true,true,true,true,true,true,true,true,false] rfl rfl (one_of HT_.out (by kernel_rfl)) (by decide) (fun K hK=>?_);have _:=cz0 BK376;have _:=blk_frozen BK376.out 0;have hs28:=cz1 BK376;have hfs28:=blk_frozen BK376.out 1;have hs29:=cz2 BK376;have hfs29:=blk_frozen BK376.out 2;have hs30:=cz3 BK376;have hfs30:=blk_frozen BK376.out 3;have hs31:=cz4 BK376;have hfs31:=blk_frozen BK376.out 4;have hs32:=cz5 BK376;have hfs32:=blk_frozen BK376.out 5;have hs33:=cz6 BK376;have hfs33:=blk_frozen BK376.out 6;refine skip_ (w1:=?_) (by rfl) rfl ?_ ?_;rotate_left
      ·go_simp
       rfl
      refine hK.out _ _ trivial (fun hHeld=>?_);clear hK K;refine pureT 12 (some 5) ?_;refine done_ (done_of HT_.out (by kernel_rfl)) ?_;try go_wp2
      refine rctA gb376 24 #[.string (⟨#[]⟩:ByteArray),.string (⟨#[]⟩:ByteArray),.int .i64 t380,.string (t377.extract 4 t377.size),.bool false,.slice none 0 0,.string (⟨#[]⟩:ByteArray)] Tryz.underlying24 ?_;exact⟨_,gq1,gq6,gBe⟩
     ·simp only[Option.some.injEq,Prod.mk.injEq] at H;obtain⟨rfl,rfl,rfl,rfl,rfl,rfl,rfl,rfl⟩:=H;try go_wp2_with(first|((with_reducible refine gate_callee (f:=38) rfl ?_);refine goesL_ (some 39) rfl rfl Tryz.func38 (by kernel_rfl) rfl #[.string (t377.extract 0 3)] rfl gq0 ?_;(with_reducible refine(strconv_Atoi_38.calls (t377.extract 0 3) t380 t381 _ A19.out).mono ?_);rintro e w34 ⟨rfl,hb⟩;refine⟨_,rfl,?_⟩;replace BK376:=blA (g:=gb376) hb;replace HB:=beA hb;(try clear hb);(try simp only[errW_none,errW_some])))
      replace BK376:=Aside0.mk (blk_drew BK376.out);replace HB:=Aside0.mk (below_drew1 HB.out);refine start_ (n:=13) (S:=fun w'=>True) (ds:=[]) #[false,false,false,false,false,false,false,false,false,false,false,false,false] (by kernel_rfl) rfl rfl trivial (fun hHeld=>?_);refine with_tabW impl_readFirst.tab6 impl_readFirst.bits6 (fun HT_ HW_=>?_);generalize w34.drew=w35 at BK376 HB hHeld ⊢;refine pureT 0 (some 42) ?_;refine pureT 1 (some 43) ?_;refine pureT 2 (some 44) ?_;refine pureT 3 (some 45) ?_;refine pureT 4 (some 46) ?_;refine one_ (i:=5) (N:=some 47) #[true,true,true,true,true,true,false,false,false,false,false,false,false] rfl rfl (one_of HT_.out (by kernel_rfl)) (by decide) (fun K hK=>?_);refine goes_ Tryz.func39 (by kernel_rfl) rfl #[.int .i64 t380] (by rfl) rfl rfl gq0 ?_;(with_reducible refine(impl_isStatus.calls t380 false _ A21.out).mono ?_);rintro e w' ⟨rfl,⟨nd,rfl⟩⟩;refine⟨_,rfl,?_⟩;refine hK.out _ _ trivial (fun hHeld=>?_);clear hK K;refine normA (some 47) ?_;refine pureT 6 (some 48) ?_;refine pureU 7 (some 49) ?_;refine pureU 8 (some 50) ?_;refine pureU 9 (some 51) ?_;refine pureT 10 (some 52) ?_;refine one_ (i:=11) (N:=none) #[true,true,true,true,true,true,true,true,true,true,true,true,false] rfl rfl (one_of HT_.out (by kernel_rfl)) (by decide) (fun K hK=>?_);have _:=cz0 BK376;have _:=blk_frozen BK376.out 0;have hs37:=cz1 BK376;have hfs37:=blk_frozen BK376.out 1;have hs38:=cz2 BK376;have hfs38:=blk_frozen BK376.out 2;have hs39:=cz3 BK376;have hfs39:=blk_frozen BK376.out 3;have hs40:=cz4 BK376;have hfs40:=blk_frozen BK376.out 4;have hs41:=cz5 BK376;have hfs41:=blk_frozen BK376.out 5;have hs42:=cz6 BK376;have hfs42:=blk_frozen BK376.out 6;refine skip_ (w1:=?_) (by rfl) rfl ?_ ?_;rotate_left
      ·go_simp
       rfl
      refine hK.out _ _ trivial (fun hHeld=>?_);clear hK K;refine pureT 12 (some 5) ?_;refine done_ (done_of HT_.out (by kernel_rfl)) ?_;try go_wp2
      refine rctA gb376 24 #[.string (⟨#[]⟩:ByteArray),.string (⟨#[]⟩:ByteArray),.int .i64 t380,.string (t377.extract 4 t377.size),.bool false,.slice none 0 0,.string (⟨#[]⟩:ByteArray)] Tryz.underlying24 ?_;exact⟨_,gq1,gq6,gBe⟩
 ·replace H:=gD H;obtain⟨t384,A43,H⟩:=H;have HC44:=Aside0.mk H;clear H;go_enter Tryz.func20,Tryz.ntmps20;go_upto_region 8 with(first|((with_reducible refine gate_dst (N:=4) rfl ?_);refine boxG #[.string (⟨#[]⟩:ByteArray),.string (⟨#[]⟩:ByteArray),.int .i64 0,.string (⟨#[]⟩:ByteArray),.bool false,.slice none 0 0,.string (⟨#[]⟩:ByteArray)] 24 ?_;intro gb376 hg w45 hbox hb;have BK376:=Aside0.mk (hbox);have GW376:=geA hg;have GE376:=geA hg;replace HB:=beA hb;clear hb hbox hg)|((with_reducible refine gate_callee (f:=41) rfl ?_);refine goesL_ (some 54) rfl rfl Tryz.func41 (by kernel_rfl) rfl #[.string a0,.string (⟨#[32]⟩:ByteArray)] rfl gq0 ?_;(with_reducible refine(strings_Split.calls a0 (⟨#[32]⟩:ByteArray) t384 _ A43.out).mono ?_);rintro e w46 ⟨v385,rfl,ho0,hb⟩;refine⟨_,rfl,?_⟩;have HO386:=Aside0.mk (Kd.R_lower ho0 (below_size gBe));replace BK376:=blA (g:=gb376) hb;replace HB:=beA hb;(try clear hb);(try clear ho0)));(try simp only[Act.put,List.setIfInBounds_toArray,List.set_cons_zero,List.set_cons_succ])
  go_cut [63] (fun v63 wc=>∃(kq:Nat) (x63_43:Bool),v63 = .bool x63_43∧Aside0 (impl_readFirst.j1 kq t384 x63_43=some (r1,r2,r3,r4,r5,r6,r7,r8))∧Aside0 (kq≤k)∧Aside0 (Kd.R Kd.string 9 wc w.heap.size (fun _=>True) v385 t384)∧Aside0 (wc.heap[gb376]? = some (.cells #[.string (⟨#[]⟩:ByteArray),.string (⟨#[]⟩:ByteArray),.int .i64 0,.string (⟨#[]⟩:ByteArray),.bool false,(.slice none 0 0),.string (⟨#[]⟩:ByteArray)] 24 (0,0)))∧Aside0 (Below w.heap.size w wc))
  case first=>
   have H:=HC44.out;clear HC44;replace H:=gI H;rcases H with⟨c47,-,-,H⟩|⟨c47,-,-,H⟩
   ·obtain⟨c47b0,c47b1⟩:=gEt c47;clear c47;(first|rw[c47b0]|(simp only[i64_w,i32_w];rw[c47b0])|skip)
    replace H:=gN H;obtain⟨c48,c48b0,-,H⟩:=H;have c48b1:decide (2<t384.length)=true:=decide_eq_true (by omega);clear c48;have H':=Aside0.mk H;clear H;obtain⟨Ao49,co49,eo49⟩:=Kd.R_slice HO386.out;subst eo49;have p387:0≤(2:Int):=(by omega);have q387:2<(t384.length:Int):=of_decide_eq_true gq4;obtain⟨ad387,e387,hx387_0⟩:=Kd.at_string (Kd.R_reads' HO386.out).2.2 2 p387 q387;cases e387
    (try simp only[show(2:Int).toNat=2 from rfl,Nat.reduceMul,Nat.reduceEqDiff,Go.Addr.add,↓reduceIte] at hx387_0)
    have qi387:(2<t384.length)=True:=eq_true (by omega);(try rw[show((2:Int)).toNat=2 from rfl] at hx387_0)
    replace p387:=eq_true p387;replace q387:=eq_true q387;go_wp2;go_meet
    case rel=>exact⟨_,(((rdOf ByteArray.empty t384 2).toList != ([72,84,84,80,47,49,46,49]:List UInt8))),gq3,H',⟨gq9⟩,⟨gRo⟩,⟨gBk⟩,⟨gBe⟩⟩
   ·obtain⟨c47b0,c47b1⟩:=gEf c47;(first|rw[c47b0]|(simp only[i64_w,i32_w];rw[c47b0])|skip)
    have H':=Aside0.mk H;clear H;obtain⟨Ao50,co50,eo50⟩:=Kd.R_slice HO386.out;subst eo50;go_wp2;go_meet
    case rel=>exact⟨_,(true),gq3,H',⟨gq9⟩,⟨gRo⟩,⟨gBk⟩,⟨gBe⟩⟩
  case rest=>
   clear HC44;obtain⟨kq,x63_43,rfl,HA,HJ43,HO_10,BK376,HB⟩:=hcut;cases kq with
   |zero=>exact absurd HA.out (by simp[impl_readFirst.j1])
   |succ kj43=>
    have H:=HA.out;clear HA;simp only[impl_readFirst.j1] at H;replace H:=gB H;rcases H with⟨rfl,H⟩|⟨rfl,H⟩
    ·simp only[Option.some.injEq,Prod.mk.injEq] at H;obtain⟨rfl,rfl,rfl,rfl,rfl,rfl,rfl,rfl⟩:=H;obtain⟨_,_,_,_,_,_,_⟩:=czA7 BK376;obtain⟨_,_,_,_,_,_,_⟩:=cfA7 BK376;go_wp2;refine rctA gb376 24 #[.string (⟨#[]⟩:ByteArray),.string (⟨#[]⟩:ByteArray),.int .i64 0,.string (⟨#[]⟩:ByteArray),.bool false,.slice none 0 0,.string (⟨#[]⟩:ByteArray)] Tryz.underlying24 ?_;exact⟨_,gq1,gq6,gBe⟩
    ·replace H:=gI H;rcases H with⟨c53,c53b0,-,H⟩|⟨c53,-,-,H⟩
     ·have c53b1:decide (0<t384.length)=true:=decide_eq_true (by omega);clear c53;replace H:=gN H;obtain⟨c54,c54b0,-,H⟩:=H;have c54b1:decide (1<t384.length)=true:=decide_eq_true (by omega);clear c54;replace H:=gD H;obtain⟨t391,A55,H⟩:=H;replace H:=gB H;rcases H with⟨rfl,H⟩|⟨rfl,H⟩
      ·replace H:=gD H;obtain⟨t393,A57,H⟩:=H;simp only[Option.some.injEq,Prod.mk.injEq] at H;obtain⟨rfl,rfl,rfl,rfl,rfl,rfl,rfl,rfl⟩:=H;try go_wp2
       replace HO_10:=Aside0.mk (Kd.R_drew HO_10.out);replace BK376:=Aside0.mk (blk_drew BK376.out);replace HB:=Aside0.mk (below_drew1 HB.out);obtain⟨Ao59,co59,eo59⟩:=Kd.R_slice HO_10.out;(first|subst eo59|(injection eo59 with f1_ f2_ f3_;have f4_:=f1_.symm;have f5_:=f3_.symm;clear f1_ f2_ f3_;subst f4_;subst f5_))
       have p388:0≤(0:Int):=(by omega);have q388:0<(t384.length:Int):=of_decide_eq_true gq4;obtain⟨ad388,e388,hx388_0⟩:=Kd.at_string (Kd.R_reads' HO_10.out).2.2 0 p388 q388;cases e388
       have qi388:(0<t384.length)=True:=eq_true (by omega);(try rw[show((0:Int)).toNat=0 from rfl] at hx388_0)
       (try rw[Addr.add_zero'] at hx388_0)
       replace p388:=eq_true p388;replace q388:=eq_true q388;have p389:0≤(1:Int):=(by omega);have q389:1<(t384.length:Int):=of_decide_eq_true gq4;obtain⟨ad389,e389,hx389_0⟩:=Kd.at_string (Kd.R_reads' HO_10.out).2.2 1 p389 q389;obtain rfl:ad388=ad389:=(by injection e389);(try simp only[show(1:Int).toNat=1 from rfl,Nat.reduceMul,Nat.reduceEqDiff,Go.Addr.add,↓reduceIte] at hx389_0)
       have qi389:(1<t384.length)=True:=eq_true (by omega);(try rw[show((1:Int)).toNat=1 from rfl] at hx389_0)
       replace p389:=eq_true p389;replace q389:=eq_true q389;have p390:0≤(0:Int):=(by omega);have q390:0<(t384.length:Int):=of_decide_eq_true gq4;obtain⟨ad390,e390,hx390_0⟩:=Kd.at_string (Kd.R_reads' HO_10.out).2.2 0 p390 q390;obtain rfl:ad388=ad390:=(by injection e390);have qi390:(0<t384.length)=True:=eq_true (by omega);(try rw[show((0:Int)).toNat=0 from rfl] at hx390_0)
       (try rw[Addr.add_zero'] at hx390_0)
       replace p390:=eq_true p390;replace q390:=eq_true q390;have p392:0≤(1:Int):=(by omega);have q392:1<(t384.length:Int):=of_decide_eq_true gq4;obtain⟨ad392,e392,hx392_0⟩:=Kd.at_string (Kd.R_reads' HO_10.out).2.2 1 p392 q392;obtain rfl:ad388=ad392:=(by injection e392);(try simp only[show(1:Int).toNat=1 from rfl,Nat.reduceMul,Nat.reduceEqDiff,Go.Addr.add,↓reduceIte] at hx392_0)
       have qi392:(1<t384.length)=True:=eq_true (by omega);(try rw[show((1:Int)).toNat=1 from rfl] at hx392_0)
       replace p392:=eq_true p392;replace q392:=eq_true q392;refine start_ (n:=19) (S:=fun w'=>w'.cell? ad388=some (.string (rdOf ByteArray.empty t384 0))∧w'.cell? ⟨ad388.block,ad388.off+1,none⟩=some (.string (rdOf ByteArray.empty t384 1))∧w'.cell? ad388=some (.string (rdOf ByteArray.empty t384 0))∧w'.cell? ⟨ad388.block,ad388.off+1,none⟩=some (.string (rdOf ByteArray.empty t384 1))) (ds:=[]) #[false,false,false,false,false,false,false,false,false,false,false,false,false,false,false,false,false,false,false] (by kernel_rfl) rfl rfl ⟨hx388_0,hx389_0,hx390_0,hx392_0⟩ (fun hHeld=>?_);refine with_tabW impl_readFirst.tab10 impl_readFirst.bits10 (fun HT_ HW_=>?_);generalize wc.drew=w58 at HO_10 BK376 HB hx388_0 hx389_0 hx390_0 hx392_0 hHeld ⊢;refine pureT 0 (some 65) ?_;refine pureT 1 (some 66) ?_;refine pureT 3 (some 68) ?_;refine pureT 4 (some 69) ?_;refine pureT 7 (some 72) ?_;refine pureT 8 (some 73) ?_;refine takeT_ 2 (some 67) (hy:=Or.inl ⟨by rfl,gq54⟩) ?_;refine takeT_ 5 (some 70) (hy:=Or.inl ⟨by rfl,gq54⟩) ?_;refine pureT 6 (some 71) ?_;refine takeT_ 9 (some 74) (hy:=Or.inl ⟨by rfl,gq54⟩) ?_;refine one_ (i:=10) (N:=some 75) #[true,true,true,true,true,true,true,true,true,true,true,false,false,false,false,false,false,false,false] rfl rfl (one_of HT_.out (by kernel_rfl)) (by decide) (fun K hK=>?_);refine goes_ Tryz.func42 (by kernel_rfl) rfl #[.string (rdOf ByteArray.empty t384 0)] (by rfl) rfl rfl gq0 ?_;(with_reducible refine(impl_isMethod.calls kj43 (rdOf ByteArray.empty t384 0) true _ A55.out).mono ?_);rintro e w' ⟨rfl,⟨nd,rfl⟩⟩;refine⟨_,rfl,?_⟩;refine hK.out _ _ ⟨hHeld.1,hHeld.2.1,hHeld.2.2.1,hHeld.2.2.2⟩ (fun hHeld=>?_);clear hK K;refine normA (some 75) ?_;refine pureT 11 (some 76) ?_;refine pureT 12 (some 77) ?_;refine pureT 13 (some 78) ?_;refine takeT_ 14 (some 79) (hy:=Or.inl ⟨by rfl,gq54⟩) ?_;refine one_ (i:=15) (N:=some 80) #[true,true,true,true,true,true,true,true,true,true,true,true,true,true,true,true,false,false,false] rfl rfl (one_of HT_.out (by kernel_rfl)) (by decide) (fun K hK=>?_);refine goes_ Tryz.func43 (by kernel_rfl) rfl #[.string (rdOf ByteArray.empty t384 1)] (by rfl) rfl rfl gq0 ?_;(with_reducible refine(impl_isTarget.calls kj43 (rdOf ByteArray.empty t384 1) t393 _ A57.out).mono ?_);rintro e w' ⟨rfl,⟨nd,rfl⟩⟩;refine⟨_,rfl,?_⟩;refine hK.out _ _ ⟨hHeld.1,hHeld.2.1,hHeld.2.2.1,hHeld.2.2.2⟩ (fun hHeld=>?_);clear hK K;refine normA (some 80) ?_;refine pureT 16 (some 81) ?_;refine one_ (i:=17) (N:=none) #[true,true,true,true,true,true,true,true,true,true,true,true,true,true,true,true,true,true,false] rfl rfl (one_of HT_.out (by kernel_rfl)) (by decide) (fun K hK=>?_);have _:=cz0 BK376;have _:=blk_frozen BK376.out 0;have hs61:=cz1 BK376;have hfs61:=blk_frozen BK376.out 1;have hs62:=cz2 BK376;have hfs62:=blk_frozen BK376.out 2;have hs63:=cz3 BK376;have hfs63:=blk_frozen BK376.out 3;have hs64:=cz4 BK376;have hfs64:=blk_frozen BK376.out 4;have hs65:=cz5 BK376;have hfs65:=blk_frozen BK376.out 5;have hs66:=cz6 BK376;have hfs66:=blk_frozen BK376.out 6;refine skip_ (w1:=?_) (by rfl) rfl ?_ ?_;rotate_left
       ·go_simp
        rfl
       refine hK.out _ _ ⟨((cell_far (p:=⟨gb376,_,none⟩) gq2 _).trans (((cell_far (p:=⟨gb376,_,none⟩) gq2 _).trans (((cell_far (p:=⟨gb376,_,none⟩) gq2 _).trans (((cell_far (p:=⟨gb376,_,none⟩) gq2 _).trans (((cell_far (p:=⟨gb376,_,none⟩) gq2 _).trans (((cell_far (p:=⟨gb376,_,none⟩) gq2 _).trans (((cell_far (p:=⟨gb376,_,none⟩) gq2 _).trans (hHeld.1)))))))))))))),((cell_far (p:=⟨gb376,_,none⟩) gq2 _).trans (((cell_far (p:=⟨gb376,_,none⟩) gq2 _).trans (((cell_far (p:=⟨gb376,_,none⟩) gq2 _).trans (((cell_far (p:=⟨gb376,_,none⟩) gq2 _).trans (((cell_far (p:=⟨gb376,_,none⟩) gq2 _).trans (((cell_far (p:=⟨gb376,_,none⟩) gq2 _).trans (((cell_far (p:=⟨gb376,_,none⟩) gq2 _).trans (hHeld.2.1)))))))))))))),((cell_far (p:=⟨gb376,_,none⟩) gq2 _).trans (((cell_far (p:=⟨gb376,_,none⟩) gq2 _).trans (((cell_far (p:=⟨gb376,_,none⟩) gq2 _).trans (((cell_far (p:=⟨gb376,_,none⟩) gq2 _).trans (((cell_far (p:=⟨gb376,_,none⟩) gq2 _).trans (((cell_far (p:=⟨gb376,_,none⟩) gq2 _).trans (((cell_far (p:=⟨gb376,_,none⟩) gq2 _).trans (hHeld.2.2.1)))))))))))))),((cell_far (p:=⟨gb376,_,none⟩) gq2 _).trans (((cell_far (p:=⟨gb376,_,none⟩) gq2 _).trans (((cell_far (p:=⟨gb376,_,none⟩) gq2 _).trans (((cell_far (p:=⟨gb376,_,none⟩) gq2 _).trans (((cell_far (p:=⟨gb376,_,none⟩) gq2 _).trans (((cell_far (p:=⟨gb376,_,none⟩) gq2 _).trans (((cell_far (p:=⟨gb376,_,none⟩) gq2 _).trans (hHeld.2.2.2))))))))))))))⟩ (fun hHeld=>?_);clear hK K;refine pureT 18 (some 5) ?_;refine done_ (done_of HT_.out (by kernel_rfl)) ?_;try go_wp2
       refine rctA gb376 24 #[.string (rdOf ByteArray.empty t384 0),.string (rdOf ByteArray.empty t384 1),.int .i64 0,.string (⟨#[]⟩:ByteArray),.bool false,.slice none 0 0,.string (⟨#[]⟩:ByteArray)] Tryz.underlying24 ?_;exact⟨_,gq1,gq6,gBe⟩
      ·simp only[Option.some.injEq,Prod.mk.injEq] at H;obtain⟨rfl,rfl,rfl,rfl,rfl,rfl,rfl,rfl⟩:=H;try go_wp2
       replace HO_10:=Aside0.mk (Kd.R_drew HO_10.out);replace BK376:=Aside0.mk (blk_drew BK376.out);replace HB:=Aside0.mk (below_drew1 HB.out);obtain⟨Ao68,co68,eo68⟩:=Kd.R_slice HO_10.out;(first|subst eo68|(injection eo68 with f1_ f2_ f3_;have f4_:=f1_.symm;have f5_:=f3_.symm;clear f1_ f2_ f3_;subst f4_;subst f5_))
       have p388:0≤(0:Int):=(by omega);have q388:0<(t384.length:Int):=of_decide_eq_true gq4;obtain⟨ad388,e388,hx388_0⟩:=Kd.at_string (Kd.R_reads' HO_10.out).2.2 0 p388 q388;cases e388
       have qi388:(0<t384.length)=True:=eq_true (by omega);(try rw[show((0:Int)).toNat=0 from rfl] at hx388_0)
       (try rw[Addr.add_zero'] at hx388_0)
       replace p388:=eq_true p388;replace q388:=eq_true q388;have p389:0≤(1:Int):=(by omega);have q389:1<(t384.length:Int):=of_decide_eq_true gq4;obtain⟨ad389,e389,hx389_0⟩:=Kd.at_string (Kd.R_reads' HO_10.out).2.2 1 p389 q389;obtain rfl:ad388=ad389:=(by injection e389);(try simp only[show(1:Int).toNat=1 from rfl,Nat.reduceMul,Nat.reduceEqDiff,Go.Addr.add,↓reduceIte] at hx389_0)
       have qi389:(1<t384.length)=True:=eq_true (by omega);(try rw[show((1:Int)).toNat=1 from rfl] at hx389_0)
       replace p389:=eq_true p389;replace q389:=eq_true q389;have p390:0≤(0:Int):=(by omega);have q390:0<(t384.length:Int):=of_decide_eq_true gq4;obtain⟨ad390,e390,hx390_0⟩:=Kd.at_string (Kd.R_reads' HO_10.out).2.2 0 p390 q390;obtain rfl:ad388=ad390:=(by injection e390);have qi390:(0<t384.length)=True:=eq_true (by omega);(try rw[show((0:Int)).toNat=0 from rfl] at hx390_0)
       (try rw[Addr.add_zero'] at hx390_0)
       replace p390:=eq_true p390;replace q390:=eq_true q390;refine start_ (n:=19) (S:=fun w'=>w'.cell? ad388=some (.string (rdOf ByteArray.empty t384 0))∧w'.cell? ⟨ad388.block,ad388.off+1,none⟩=some (.string (rdOf ByteArray.empty t384 1))∧w'.cell? ad388=some (.string (rdOf ByteArray.empty t384 0))) (ds:=[]) #[false,false,false,false,false,false,false,false,false,false,false,false,false,false,false,false,false,false,false] (by kernel_rfl) rfl rfl ⟨hx388_0,hx389_0,hx390_0⟩ (fun hHeld=>?_);refine with_tabW impl_readFirst.tab10 impl_readFirst.bits10 (fun HT_ HW_=>?_);generalize wc.drew=w67 at HO_10 BK376 HB hx388_0 hx389_0 hx390_0 hHeld ⊢;refine pureT 0 (some 65) ?_;refine pureT 1 (some 66) ?_;refine pureT 3 (some 68) ?_;refine pureT 4 (some 69) ?_;refine pureT 7 (some 72) ?_;refine pureT 8 (some 73) ?_;refine takeT_ 2 (some 67) (hy:=Or.inl ⟨by rfl,by rintro w' ⟨s0,s1,s2⟩;go_simp;with_reducible rfl⟩) ?_;refine takeT_ 5 (some 70) (hy:=Or.inl ⟨by rfl,by rintro w' ⟨s0,s1,s2⟩;go_simp;with_reducible rfl⟩) ?_;refine pureT 6 (some 71) ?_;refine takeT_ 9 (some 74) (hy:=Or.inl ⟨by rfl,by rintro w' ⟨s0,s1,s2⟩;go_simp;with_reducible rfl⟩) ?_;refine one_ (i:=10) (N:=some 75) #[true,true,true,true,true,true,true,true,true,true,true,false,false,false,false,false,false,false,false] rfl rfl (one_of HT_.out (by kernel_rfl)) (by decide) (fun K hK=>?_);refine goes_ Tryz.func42 (by kernel_rfl) rfl #[.string (rdOf ByteArray.empty t384 0)] (by rfl) rfl rfl gq0 ?_;(with_reducible refine(impl_isMethod.calls kj43 (rdOf ByteArray.empty t384 0) false _ A55.out).mono ?_);rintro e w' ⟨rfl,⟨nd,rfl⟩⟩;refine⟨_,rfl,?_⟩;refine hK.out _ _ ⟨hHeld.1,hHeld.2.1,hHeld.2.2⟩ (fun hHeld=>?_);clear hK K;refine normA (some 75) ?_;refine pureT 11 (some 76) ?_;refine pureU 12 (some 77) ?_;refine pureU 13 (some 78) ?_;refine pureU 14 (some 79) ?_;refine pureU 15 (some 80) ?_;refine pureT 16 (some 81) ?_;refine one_ (i:=17) (N:=none) #[true,true,true,true,true,true,true,true,true,true,true,true,true,true,true,true,true,true,false] rfl rfl (one_of HT_.out (by kernel_rfl)) (by decide) (fun K hK=>?_);have _:=cz0 BK376;have _:=blk_frozen BK376.out 0;have hs70:=cz1 BK376;have hfs70:=blk_frozen BK376.out 1;have hs71:=cz2 BK376;have hfs71:=blk_frozen BK376.out 2;have hs72:=cz3 BK376;have hfs72:=blk_frozen BK376.out 3;have hs73:=cz4 BK376;have hfs73:=blk_frozen BK376.out 4;have hs74:=cz5 BK376;have hfs74:=blk_frozen BK376.out 5;have hs75:=cz6 BK376;have hfs75:=blk_frozen BK376.out 6;refine skip_ (w1:=?_) (by rfl) rfl ?_ ?_;rotate_left
       ·go_simp
        rfl
       refine hK.out _ _ ⟨((cell_far (p:=⟨gb376,_,none⟩) gq2 _).trans (((cell_far (p:=⟨gb376,_,none⟩) gq2 _).trans (((cell_far (p:=⟨gb376,_,none⟩) gq2 _).trans (((cell_far (p:=⟨gb376,_,none⟩) gq2 _).trans (((cell_far (p:=⟨gb376,_,none⟩) gq2 _).trans (((cell_far (p:=⟨gb376,_,none⟩) gq2 _).trans (((cell_far (p:=⟨gb376,_,none⟩) gq2 _).trans (hHeld.1)))))))))))))),((cell_far (p:=⟨gb376,_,none⟩) gq2 _).trans (((cell_far (p:=⟨gb376,_,none⟩) gq2 _).trans (((cell_far (p:=⟨gb376,_,none⟩) gq2 _).trans (((cell_far (p:=⟨gb376,_,none⟩) gq2 _).trans (((cell_far (p:=⟨gb376,_,none⟩) gq2 _).trans (((cell_far (p:=⟨gb376,_,none⟩) gq2 _).trans (((cell_far (p:=⟨gb376,_,none⟩) gq2 _).trans (hHeld.2.1)))))))))))))),((cell_far (p:=⟨gb376,_,none⟩) gq2 _).trans (((cell_far (p:=⟨gb376,_,none⟩) gq2 _).trans (((cell_far (p:=⟨gb376,_,none⟩) gq2 _).trans (((cell_far (p:=⟨gb376,_,none⟩) gq2 _).trans (((cell_far (p:=⟨gb376,_,none⟩) gq2 _).trans (((cell_far (p:=⟨gb376,_,none⟩) gq2 _).trans (((cell_far (p:=⟨gb376,_,none⟩) gq2 _).trans (hHeld.2.2))))))))))))))⟩ (fun hHeld=>?_);clear hK K;refine pureT 18 (some 5) ?_;refine done_ (done_of HT_.out (by kernel_rfl)) ?_;try go_wp2
       refine rctA gb376 24 #[.string (rdOf ByteArray.empty t384 0),.string (rdOf ByteArray.empty t384 1),.int .i64 0,.string (⟨#[]⟩:ByteArray),.bool false,.slice none 0 0,.string (⟨#[]⟩:ByteArray)] Tryz.underlying24 ?_;exact⟨_,gq1,gq6,gBe⟩
     ·exact absurd H (by simp)

end Go.Proofs.YtonmpnghlopnoaaGreatDoor.P
