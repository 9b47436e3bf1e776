import Derived.Test.YtfhllanhldbkkaaGreatDoorPx0
import Derived.Test.YtfhllanhldbkkaaGreatDoorPxspec01a
import Derived.Test.YtfhllanhldbkkaaGreatDoorWC
namespace Go.Proofs.YtfhllanhldbkkaaGreatDoor.P
open Go.RowKit Go.Proofs.YtfhllanhldbkkaaGreatDoorW.PrintWords Go.Proofs.YtfhllanhldbkkaaGreatDoorW.PrintLast Go.Proofs.YtfhllanhldbkkaaGreatDoorW.PrintMore
attribute [local go_sem] max2_int min2_int max_two min_two max_three min_three max_four min_four   -- for this text's walks alone
set_option linter.unusedVariables false
set_option linter.unusedSimpArgs false

def spec_FieldsOk.l0 : Nat→List (S72)→Int→Option (Bool)
 |0,_,_=>none
 |k+1,x0,x3=>if x3<(x0.length:Int) then(if 0≤x3 then((spec_FieldOk.f k ((rd_T72 x0 x3).f0) ((rd_T72 x0 x3).f1)).bind fun t391=>(if t391=true then(spec_FieldsOk.l0 k x0 (wrap64 (x3+1))) else(some false))) else(none)) else(some true)
def spec_FieldsOk.f (k:Nat) (l0:List (S72)):Option (Bool):=if(l0.length:Int)>20 then(some false) else(spec_FieldsOk.l0 k l0 0)
set_option maxHeartbeats 8000000 in
set_option maxRecDepth 100000 in
theorem spec_FieldsOk.calls (k:Nat) (A0:Option Addr) (c0:Nat) (l0:List (S72)) (r:Bool) (w:World) (hr0:Kd.C k72 w A0 l0.length l0) (hc0:l0.length≤c0) (h:spec_FieldsOk.f k l0=some r) :
  Calls Tryz.prog 32 #[.slice A0 l0.length c0] w fun e w'=>e = .returned (.bool r)∧Below w.heap.size w w':=by
 have hu72:=Tryz.underlying72
 have HR0:=Aside0.mk hr0
 have HC0:=Aside0.mk hc0
 clear hr0 hc0
 have HB:=Aside0.mk (Below.refl w.heap.size w)
 have H:=h
 clear h
 unfold spec_FieldsOk.f at H
 replace H:=gI H
 rcases H with⟨c2,-,-,H⟩|⟨c2,-,-,H⟩
 ·have c2b0:decide (20<(l0.length:Int))=true:=decide_eq_true c2
  have c2b1:decide (20<l0.length)=true:=decide_eq_true (by omega)
  clear c2
  obtain rfl:=Option.some.inj H
  go_enter Tryz.func32,Tryz.ntmps32
  go_wp2
  go_ret
  exact⟨gq2,gBe⟩
 ·have c2b0:decide (20<(l0.length:Int))=false:=decide_eq_false c2
  have c2b1:decide (20<l0.length)=false:=decide_eq_false (by omega)
  clear c2
  have H':=Aside0.mk H
  clear H
  go_enter Tryz.func32,Tryz.ntmps32
  go_wp2
  go_loopg [3] k (fun kq v3 w'=>∃(x3_1:Int),v3 = .int .i64 x3_1∧Aside0 (spec_FieldsOk.l0 kq l0 x3_1=some r)∧Aside0 (kq≤k)∧Aside0 (Below w.heap.size w w'))
  case atStart=>exact⟨(0),gq4,H',⟨Nat.le_refl _⟩,⟨gBe⟩⟩
  case round=>
   clear H'
   try clear c2
   try clear c2b0
   try clear c2b1
   obtain⟨x3_1,rfl,HA,HK1,HB⟩:=hrel
   cases gk with
   |zero=>exact absurd HA.out (by simp[spec_FieldsOk.l0])
   |succ k1=>
    have H:=HA.out
    clear HA
    simp only[spec_FieldsOk.l0] at H
    replace H:=gI H
    rcases H with⟨-,c3b0,-,H⟩|⟨-,c3b0,-,H⟩
    ·replace H:=gN H
     obtain⟨-,c4b0,-,H⟩:=H
     replace H:=gD H
     obtain⟨t391,A5,H⟩:=H
     replace H:=gB H
     rcases H with⟨rfl,H⟩|⟨rfl,H⟩
     ·have H':=Aside0.mk H
      clear H
      have p390:0≤(x3_1:Int):=of_decide_eq_true gq3
      have q390:x3_1<(l0.length:Int):=of_decide_eq_true gq3
      obtain⟨ad390,e390,hx390_0,hx390_1⟩:=at_T72 HR0.out x3_1 p390 q390
      cases e390
      replace hx390_0:=(HB.out.cell (World.block_lt_of_cell? w _ hx390_0)).trans hx390_0
      replace hx390_1:=(HB.out.cell (World.block_lt_of_cell? w _ hx390_1)).trans hx390_1
      replace p390:=eq_true p390
      replace q390:=eq_true q390
      go_wp2_with(((with_reducible refine gate_callee (f:=58) rfl ?_);refine goesL_ (some 17) rfl rfl Tryz.func58 (by kernel_rfl) rfl #[.agg #[.string ((rd_T72 l0 x3_1).f0),.string ((rd_T72 l0 x3_1).f1)]] rfl gq0 ?_;(with_reducible refine(spec_FieldOk.calls k1 ((rd_T72 l0 x3_1).f0) ((rd_T72 l0 x3_1).f1) true _ A5.out).mono ?_);rintro e wq0a ⟨rfl,hb⟩;refine⟨_,rfl,?_⟩;replace HB:=beA hb;(try clear hb);(try clear hb2);(try clear hk);(try clear hi)))
      go_roundg k1
      case measure=>have:=HK1.out;omega
      case rel=>exact⟨(wrap64 (x3_1+1)),gq4,H',⟨by have:=HK1.out;omega⟩,⟨gBe⟩⟩
     ·obtain rfl:=Option.some.inj H
      have p390:0≤(x3_1:Int):=of_decide_eq_true gq3
      have q390:x3_1<(l0.length:Int):=of_decide_eq_true gq3
      obtain⟨ad390,e390,hx390_0,hx390_1⟩:=at_T72 HR0.out x3_1 p390 q390
      cases e390
      replace hx390_0:=(HB.out.cell (World.block_lt_of_cell? w _ hx390_0)).trans hx390_0
      replace hx390_1:=(HB.out.cell (World.block_lt_of_cell? w _ hx390_1)).trans hx390_1
      replace p390:=eq_true p390
      replace q390:=eq_true q390
      go_wp2_with(((with_reducible refine gate_callee (f:=58) rfl ?_);refine goesL_ (some 17) rfl rfl Tryz.func58 (by kernel_rfl) rfl #[.agg #[.string ((rd_T72 l0 x3_1).f0),.string ((rd_T72 l0 x3_1).f1)]] rfl gq0 ?_;(with_reducible refine(spec_FieldOk.calls k1 ((rd_T72 l0 x3_1).f0) ((rd_T72 l0 x3_1).f1) false _ A5.out).mono ?_);rintro e wq1a ⟨rfl,hb⟩;refine⟨_,rfl,?_⟩;replace HB:=beA hb;(try clear hb);(try clear hb2);(try clear hk);(try clear hi)))
      go_ret
      exact⟨gq2,gBe⟩
    ·obtain rfl:=Option.some.inj H
     go_wp2
     go_ret
     exact⟨gq2,gBe⟩

def spec_FieldText.f (k:Nat) (a0_0:ByteArray) (a0_1:ByteArray):Option (ByteArray):=(spec_FieldOk.f k a0_0 a0_1).bind fun t417=>(if t417=true then(if a0_0.size+2≤9223372036854775807 then(if(a0_0++(⟨#[58,32]⟩:ByteArray)).size+a0_1.size≤9223372036854775807 then(some ((a0_0++(⟨#[58,32]⟩:ByteArray))++a0_1)) else(none)) else(none)) else(some (⟨#[]⟩:ByteArray)))
theorem spec_FieldText.e0 {p:Prop} (h:p:=by
  obtain rfl:=Option.some.inj H
  go_enter Tryz.func103,Tryz.ntmps103
  go_wp2_with(first|((with_reducible refine gate_dst (N:=1) rfl ?_);refine boxA #[.string a0_0,.string a0_1] 72 ?_;intro gb416 hg wq0a hbox hb;have BK416:=Aside0.mk (hbox);have GW416:=geA hg;have GE416:=geA hg;replace HB:=beA hb;clear hb hbox hg;obtain⟨_,_⟩:=czA2 BK416;obtain⟨_,_⟩:=cfA2 BK416)|((with_reducible refine gate_callee (f:=58) rfl ?_);refine goesL_ (some 4) rfl rfl Tryz.func58 (by kernel_rfl) rfl #[.agg #[.string a0_0,.string a0_1]] rfl gq0 ?_;(with_reducible refine(spec_FieldOk.calls k a0_0 a0_1 false _ A2.out).mono ?_);rintro e wq2a ⟨rfl,hb⟩;refine⟨_,rfl,?_⟩;replace BK416:=blA (g:=gb416) hb;replace HB:=beA hb;(try clear hb);(try clear hb2);(try clear hk);(try clear hi))|((with_reducible refine gate_callee (f:=58) rfl ?_);refine goesL_ (some 4) rfl rfl Tryz.func58 (by kernel_rfl) rfl #[.agg #[.string a0_0,.string a0_1]] rfl gq0 ?_;(with_reducible refine(spec_FieldOk.calls k a0_0 a0_1 true _ A2.out).mono ?_);rintro e wq1a ⟨rfl,hb⟩;refine⟨_,rfl,?_⟩;replace BK416:=blA (g:=gb416) hb;replace HB:=beA hb;(try clear hb);(try clear hb2);(try clear hk);(try clear hi);obtain⟨_,_⟩:=czA2 BK416;obtain⟨_,_⟩:=cfA2 BK416))
  go_ret
  exact⟨gq2,gBe⟩):p:=h
set_option maxHeartbeats 8000000 in
set_option maxRecDepth 100000 in
theorem spec_FieldText.calls (k:Nat) (a0_0:ByteArray) (a0_1:ByteArray) (r:ByteArray) (w:World) (h:spec_FieldText.f k a0_0 a0_1=some r) :
  Calls Tryz.prog 103 #[.agg #[.string a0_0,.string a0_1]] w fun e w'=>e = .returned (.string r)∧Below w.heap.size w w':=by
 have hu72:=Tryz.underlying72
 have HB:=Aside0.mk (Below.refl w.heap.size w)
 have H:=h
 clear h
 unfold spec_FieldText.f at H
 replace H:=gD H
 obtain⟨t417,A2,H⟩:=H
 replace H:=gB H
 rcases H with⟨rfl,H⟩|⟨rfl,H⟩
 ·replace H:=gN H
  obtain⟨c4,c4b1,c4b0,H⟩:=H
  try have c4b2:(9223372036854775807<a0_0.size+2)=False:=eq_false (Nat.not_lt.2 c4)
  replace H:=gN H
  obtain⟨c5,c5b1,c5b0,H⟩:=H
  try have c5b2:(9223372036854775807<(a0_0++(⟨#[58,32]⟩:ByteArray)).size+a0_1.size)=False:=eq_false (Nat.not_lt.2 c5)
  try have c5b3:(9223372036854775807<a0_0.size+2+a0_1.size)=False:=by have h_:=c5;simp only[ByteArray.size_append] at h_;exact eq_false (Nat.not_lt.2 h_)
  exact spec_FieldText.e0
 ·exact spec_FieldText.e0



def spec_l6visible.l0 : Nat→ByteArray→Int→Option (Bool)
 |0,_,_=>none
 |k+1,x0,x3=>if x3<(x0.size:Int) then(if 0≤x3 then(if(bt x0 x3)<33 then(some false) else(if(bt x0 x3)>126 then(some false) else(spec_l6visible.l0 k x0 (wrap64 (x3+1))))) else(none)) else(some (decide ((x0.size:Int)>0)))
def spec_l6visible.f (k:Nat) (a0:ByteArray):Option (Bool):=spec_l6visible.l0 k a0 0
set_option maxHeartbeats 8000000 in
set_option maxRecDepth 100000 in
theorem spec_l6visible.calls (k:Nat) (a0:ByteArray) (r:Bool) (w:World) (h:spec_l6visible.f k a0=some r) :
  Calls Tryz.prog 100 #[.string a0] w fun e w'=>e = .returned (.bool r)∧Drawn0 w w':=by
 have H:=h
 clear h
 unfold spec_l6visible.f at H
 have H':=Aside0.mk H
 clear H
 go_enter Tryz.func100,Tryz.ntmps100
 go_wp2
 go_loopg [3] k (fun kq v3 w'=>∃(x3_1:Int),v3 = .int .i64 x3_1∧Aside0 (spec_l6visible.l0 kq a0 x3_1=some r)∧Aside0 (kq≤k)∧Drawn0 w w')
 case atStart=>exact⟨(0),gq4,H',⟨Nat.le_refl _⟩,gq5⟩
 case round=>
  clear H'
  obtain⟨x3_1,rfl,HA,HK1,⟨m1,rfl⟩⟩:=hrel
  cases gk with
  |zero=>exact absurd HA.out (by simp[spec_l6visible.l0])
  |succ k1=>
   have H:=HA.out
   clear HA
   simp only[spec_l6visible.l0] at H
   replace H:=gI H
   rcases H with⟨-,c2b0,-,H⟩|⟨-,c2b0,-,H⟩
   ·replace H:=gN H
    obtain⟨-,c3b0,-,H⟩:=H
    replace H:=gI H
    rcases H with⟨-,c5b0,-,H⟩|⟨-,c5b0,-,H⟩
    ·obtain rfl:=Option.some.inj H
     have p4:0≤(x3_1:Int):=of_decide_eq_true gq3
     have q4:x3_1<(a0.size:Int):=of_decide_eq_true gq3
     have hx4:=bt_at a0 x3_1
     replace p4:=eq_true p4
     replace q4:=eq_true q4
     go_wp2
     go_ret
     exact⟨gq4,gq5⟩
    ·replace H:=gI H
     rcases H with⟨c7,-,-,H⟩|⟨c7,-,-,H⟩
     ·have c7b0:decide (126<(bt a0 x3_1))=true:=decide_eq_true c7
      clear c7
      obtain rfl:=Option.some.inj H
      have p4:0≤(x3_1:Int):=of_decide_eq_true gq3
      have q4:x3_1<(a0.size:Int):=of_decide_eq_true gq3
      have hx4:=bt_at a0 x3_1
      replace p4:=eq_true p4
      replace q4:=eq_true q4
      have p6:0≤(x3_1:Int):=of_decide_eq_true gq3
      have q6:x3_1<(a0.size:Int):=of_decide_eq_true gq3
      have hx6:=bt_at a0 x3_1
      replace p6:=eq_true p6
      replace q6:=eq_true q6
      go_wp2
      go_ret
      exact⟨gq4,gq5⟩
     ·have c7b0:decide (126<(bt a0 x3_1))=false:=decide_eq_false c7
      clear c7
      have H':=Aside0.mk H
      clear H
      have p4:0≤(x3_1:Int):=of_decide_eq_true gq3
      have q4:x3_1<(a0.size:Int):=of_decide_eq_true gq3
      have hx4:=bt_at a0 x3_1
      replace p4:=eq_true p4
      replace q4:=eq_true q4
      have p6:0≤(x3_1:Int):=of_decide_eq_true gq3
      have q6:x3_1<(a0.size:Int):=of_decide_eq_true gq3
      have hx6:=bt_at a0 x3_1
      replace p6:=eq_true p6
      replace q6:=eq_true q6
      go_wp2
      go_roundg k1
      case measure=>have:=HK1.out;omega
      case rel=>exact⟨(wrap64 (x3_1+1)),gq4,H',⟨by have:=HK1.out;omega⟩,gq5⟩
   ·obtain rfl:=Option.some.inj H
    go_wp2
    go_ret
    exact⟨gq4,gq5⟩

def spec_l6upto.l0 : Nat→ByteArray→Int→Int→Option (ByteArray)
 |0,_,_,_=>none
 |k+1,x0,x1,x5=>if x5<(x0.size:Int) then(if 0≤x5 then(if(bt x0 x5)=x1 then(if x5≤(x0.size:Int) then(some (x0.extract 0 (x5:Int).toNat)) else(none)) else(spec_l6upto.l0 k x0 x1 (wrap64 (x5+1)))) else(none)) else(some x0)
def spec_l6upto.f (k:Nat) (a0:ByteArray) (a1:Int):Option (ByteArray):=spec_l6upto.l0 k a0 a1 0
set_option maxHeartbeats 8000000 in
set_option maxRecDepth 100000 in
theorem spec_l6upto.calls (k:Nat) (a0:ByteArray) (a1:Int) (r:ByteArray) (w:World) (h:spec_l6upto.f k a0 a1=some r) :
  Calls Tryz.prog 140 #[.string a0,.int .u8 a1] w fun e w'=>e = .returned (.string r)∧Drawn0 w w':=by
 have H:=h
 clear h
 unfold spec_l6upto.f at H
 have H':=Aside0.mk H
 clear H
 go_enter Tryz.func140,Tryz.ntmps140
 go_wp2
 go_loopg [5] k (fun kq v5 w'=>∃(x5_1:Int),v5 = .int .i64 x5_1∧Aside0 (spec_l6upto.l0 kq a0 a1 x5_1=some r)∧Aside0 (kq≤k)∧Drawn0 w w')
 case atStart=>exact⟨(0),gq4,H',⟨Nat.le_refl _⟩,gq5⟩
 case round=>
  clear H'
  obtain⟨x5_1,rfl,HA,HK1,⟨m1,rfl⟩⟩:=hrel
  cases gk with
  |zero=>exact absurd HA.out (by simp[spec_l6upto.l0])
  |succ k1=>
   have H:=HA.out
   clear HA
   simp only[spec_l6upto.l0] at H
   replace H:=gI H
   rcases H with⟨-,c3b0,-,H⟩|⟨-,c3b0,-,H⟩
   ·replace H:=gN H
    obtain⟨-,c4b0,-,H⟩:=H
    replace H:=gI H
    rcases H with⟨c6,-,-,H⟩|⟨c6,-,-,H⟩
    ·have c6b0:((bt a0 x5_1)==a1)=true:=beq_iff_eq.mpr c6
     have c6b1:((bt a0 x5_1) != a1)=false:=bne_eq_false_iff_eq.mpr c6
     clear c6
     have c7b0:=eq_true (of_decide_eq_true gq3:0≤x5_1)
     replace H:=gN H
     obtain⟨-,c8b1,c8b0,H⟩:=H
     obtain rfl:=Option.some.inj H
     have p5:0≤(x5_1:Int):=of_decide_eq_true gq3
     have q5:x5_1<(a0.size:Int):=of_decide_eq_true gq3
     have hx5:=bt_at a0 x5_1
     replace p5:=eq_true p5
     replace q5:=eq_true q5
     go_wp2
     go_ret
     exact⟨gq4,gq5⟩
    ·have c6b0:((bt a0 x5_1)==a1)=false:=beq_eq_false_iff_ne.mpr c6
     have c6b1:((bt a0 x5_1) != a1)=true:=bne_iff_ne.mpr c6
     have H':=Aside0.mk H
     clear H
     have p5:0≤(x5_1:Int):=of_decide_eq_true gq3
     have q5:x5_1<(a0.size:Int):=of_decide_eq_true gq3
     have hx5:=bt_at a0 x5_1
     replace p5:=eq_true p5
     replace q5:=eq_true q5
     go_wp2
     go_roundg k1
     case measure=>have:=HK1.out;omega
     case rel=>exact⟨(wrap64 (x5_1+1)),gq4,H',⟨by have:=HK1.out;omega⟩,gq5⟩
   ·obtain rfl:=Option.some.inj H
    go_wp2
    go_ret
    exact⟨gq4,gq5⟩

def spec_l6framed.l0 : Nat→List (S72)→Int→Option (Bool)
 |0,_,_=>none
 |k+1,x0,x3=>if x3<(x0.length:Int) then(if 0≤x3 then((spec_Fold.f ((rd_T72 x0 x3).f0)).bind fun t400=>(if t400.toList=([99,111,110,116,101,110,116,45,108,101,110,103,116,104]:List UInt8) then(some true) else(if t400.toList=([116,114,97,110,115,102,101,114,45,101,110,99,111,100,105,110,103]:List UInt8) then(some true) else(if t400.toList=([116,114,97,105,108,101,114]:List UInt8) then(some true) else(spec_l6framed.l0 k x0 (wrap64 (x3+1))))))) else(none)) else(some false)
def spec_l6framed.f (k:Nat) (l0:List (S72)):Option (Bool):=spec_l6framed.l0 k l0 0
theorem spec_l6framed.e0 {p:Prop} (h:p:=by
  obtain rfl:=Option.some.inj H
  have p399:0≤(x3_1:Int):=of_decide_eq_true gq3
  have q399:x3_1<(l0.length:Int):=of_decide_eq_true gq3
  obtain⟨ad399,e399,hx399_0,hx399_1⟩:=at_T72 HR0.out x3_1 p399 q399
  cases e399
  replace hx399_0:=(HB.out.cell (World.block_lt_of_cell? w _ hx399_0)).trans hx399_0
  replace hx399_1:=(HB.out.cell (World.block_lt_of_cell? w _ hx399_1)).trans hx399_1
  replace p399:=eq_true p399
  replace q399:=eq_true q399
  go_wp2_with(((with_reducible refine gate_callee (f:=83) rfl ?_);refine goesL_ (some 16) rfl rfl Tryz.func83 (by kernel_rfl) rfl #[.string ((rd_T72 l0 x3_1).f0)] rfl gq0 ?_;(with_reducible refine(spec_Fold.calls ((rd_T72 l0 x3_1).f0) t400 _ A4.out).mono ?_);rintro e wq0a ⟨rfl,hb⟩;refine⟨_,rfl,?_⟩;replace HB:=beA hb;(try clear hb);(try clear hb2);(try clear hk);(try clear hi)))
  go_ret
  exact⟨gq2,gBe⟩):p:=h
set_option maxHeartbeats 8000000 in
set_option maxRecDepth 100000 in
theorem spec_l6framed.calls (k:Nat) (A0:Option Addr) (c0:Nat) (l0:List (S72)) (r:Bool) (w:World) (hr0:Kd.C k72 w A0 l0.length l0) (hc0:l0.length≤c0) (h:spec_l6framed.f k l0=some r) :
  Calls Tryz.prog 59 #[.slice A0 l0.length c0] w fun e w'=>e = .returned (.bool r)∧Below w.heap.size w w':=by
 have HR0:=Aside0.mk hr0
 have HC0:=Aside0.mk hc0
 clear hr0 hc0
 have HB:=Aside0.mk (Below.refl w.heap.size w)
 have H:=h
 clear h
 unfold spec_l6framed.f at H
 have H':=Aside0.mk H
 clear H
 go_enter Tryz.func59,Tryz.ntmps59
 go_wp2
 go_loopg [3] k (fun kq v3 w'=>∃(x3_1:Int),v3 = .int .i64 x3_1∧Aside0 (spec_l6framed.l0 kq l0 x3_1=some r)∧Aside0 (kq≤k)∧Aside0 (Below w.heap.size w w'))
 case atStart=>exact⟨(0),gq4,H',⟨Nat.le_refl _⟩,⟨gBe⟩⟩
 case round=>
  clear H'
  obtain⟨x3_1,rfl,HA,HK1,HB⟩:=hrel
  cases gk with
  |zero=>exact absurd HA.out (by simp[spec_l6framed.l0])
  |succ k1=>
   have H:=HA.out
   clear HA
   simp only[spec_l6framed.l0] at H
   replace H:=gI H
   rcases H with⟨-,c2b0,-,H⟩|⟨-,c2b0,-,H⟩
   ·replace H:=gN H
    obtain⟨-,c3b0,-,H⟩:=H
    replace H:=gD H
    obtain⟨t400,A4,H⟩:=H
    replace H:=gI H
    rcases H with⟨c5,-,-,H⟩|⟨c5,-,-,H⟩
    ·have c5b0:(t400.toList==([99,111,110,116,101,110,116,45,108,101,110,103,116,104]:List UInt8))=true:=beq_iff_eq.mpr c5
     have c5b1:(t400.toList != ([99,111,110,116,101,110,116,45,108,101,110,103,116,104]:List UInt8))=false:=bne_eq_false_iff_eq.mpr c5
     clear c5
     exact spec_l6framed.e0
    ·have c5b0:(t400.toList==([99,111,110,116,101,110,116,45,108,101,110,103,116,104]:List UInt8))=false:=beq_eq_false_iff_ne.mpr c5
     have c5b1:(t400.toList != ([99,111,110,116,101,110,116,45,108,101,110,103,116,104]:List UInt8))=true:=bne_iff_ne.mpr c5
     replace H:=gI H
     rcases H with⟨c7,-,-,H⟩|⟨c7,-,-,H⟩
     ·have c7b0:(t400.toList==([116,114,97,110,115,102,101,114,45,101,110,99,111,100,105,110,103]:List UInt8))=true:=beq_iff_eq.mpr c7
      have c7b1:(t400.toList != ([116,114,97,110,115,102,101,114,45,101,110,99,111,100,105,110,103]:List UInt8))=false:=bne_eq_false_iff_eq.mpr c7
      clear c7
      exact spec_l6framed.e0
     ·have c7b0:(t400.toList==([116,114,97,110,115,102,101,114,45,101,110,99,111,100,105,110,103]:List UInt8))=false:=beq_eq_false_iff_ne.mpr c7
      have c7b1:(t400.toList != ([116,114,97,110,115,102,101,114,45,101,110,99,111,100,105,110,103]:List UInt8))=true:=bne_iff_ne.mpr c7
      replace H:=gI H
      rcases H with⟨c9,-,-,H⟩|⟨c9,-,-,H⟩
      ·have c9b0:(t400.toList==([116,114,97,105,108,101,114]:List UInt8))=true:=beq_iff_eq.mpr c9
       have c9b1:(t400.toList != ([116,114,97,105,108,101,114]:List UInt8))=false:=bne_eq_false_iff_eq.mpr c9
       clear c9
       exact spec_l6framed.e0
      ·have c9b0:(t400.toList==([116,114,97,105,108,101,114]:List UInt8))=false:=beq_eq_false_iff_ne.mpr c9
       have c9b1:(t400.toList != ([116,114,97,105,108,101,114]:List UInt8))=true:=bne_iff_ne.mpr c9
       have H':=Aside0.mk H
       clear H
       have p399:0≤(x3_1:Int):=of_decide_eq_true gq3
       have q399:x3_1<(l0.length:Int):=of_decide_eq_true gq3
       obtain⟨ad399,e399,hx399_0,hx399_1⟩:=at_T72 HR0.out x3_1 p399 q399
       cases e399
       replace hx399_0:=(HB.out.cell (World.block_lt_of_cell? w _ hx399_0)).trans hx399_0
       replace hx399_1:=(HB.out.cell (World.block_lt_of_cell? w _ hx399_1)).trans hx399_1
       replace p399:=eq_true p399
       replace q399:=eq_true q399
       go_wp2_with(((with_reducible refine gate_callee (f:=83) rfl ?_);refine goesL_ (some 16) rfl rfl Tryz.func83 (by kernel_rfl) rfl #[.string ((rd_T72 l0 x3_1).f0)] rfl gq0 ?_;(with_reducible refine(spec_Fold.calls ((rd_T72 l0 x3_1).f0) t400 _ A4.out).mono ?_);rintro e wq0a ⟨rfl,hb⟩;refine⟨_,rfl,?_⟩;replace HB:=beA hb;(try clear hb);(try clear hb2);(try clear hk);(try clear hi)))
       go_roundg k1
       case measure=>have:=HK1.out;omega
       case rel=>exact⟨(wrap64 (x3_1+1)),gq4,H',⟨by have:=HK1.out;omega⟩,⟨gBe⟩⟩
   ·obtain rfl:=Option.some.inj H
    go_wp2
    go_ret
    exact⟨gq2,gBe⟩


def spec_l6bare.f (a0:Int):Option (Bool):=if a0=204 then(some true) else(some (a0==304))
set_option maxHeartbeats 8000000 in
set_option maxRecDepth 100000 in
theorem spec_l6bare.calls (a0:Int) (r:Bool) (w:World) (h:spec_l6bare.f a0=some r) :
  Calls Tryz.prog 101 #[.int .i64 a0] w fun e w'=>e = .returned (.bool r)∧Drawn0 w w':=by
 have H:=h
 clear h
 unfold spec_l6bare.f at H
 replace H:=gI H
 rcases H with⟨c2,-,-,H⟩|⟨c2,-,-,H⟩
 ·have c2b0:(a0==204)=true:=beq_iff_eq.mpr c2
  have c2b1:(a0 != 204)=false:=bne_eq_false_iff_eq.mpr c2
  clear c2
  obtain rfl:=Option.some.inj H
  go_enter Tryz.func101,Tryz.ntmps101
  go_wp2
  go_ret
  exact⟨gq4,gq5⟩
 ·have c2b0:(a0==204)=false:=beq_eq_false_iff_ne.mpr c2
  have c2b1:(a0 != 204)=true:=bne_iff_ne.mpr c2
  obtain rfl:=Option.some.inj H
  go_enter Tryz.func101,Tryz.ntmps101
  go_wp2
  go_ret
  exact⟨gq4,gq5⟩

def spec_l6answer.f (k:Nat) (a0_0:ByteArray) (a0_1:ByteArray) (a0_2:Int) (a0_3:ByteArray) (a0_4:Bool) (l0_5:List (S72)) (a0_6:ByteArray):Option (Bool):=if a0_1.toList=([]:List UInt8) then(if a0_2<200 then(some false) else(if a0_2>599 then(some false) else(if(a0_3.size:Int)>40 then(some false) else((spec_l5plain.f k a0_3).bind fun t407=>(if t407=true then(if a0_4=true then(if a0_6.toList=([]:List UInt8) then(some true) else(some false)) else((spec_l6bare.f a0_2).bind fun t408=>(some (!t408)))) else(some false)))))) else(some false)
theorem spec_l6answer.e0 {p:Prop} (h:p:=by
  obtain rfl:=Option.some.inj H
  go_enter Tryz.func61,Tryz.ntmps61
  go_wp2_with(first|((with_reducible refine gate_dst (N:=1) rfl ?_);refine boxG #[.string a0_0,.string a0_1,.int .i64 a0_2,.string a0_3,.bool false,.slice A0_5 l0_5.length c0_5,.string a0_6] 31 ?_;intro gb406 hg wq2a hbox hb;have BK406:=Aside0.mk (hbox);have GW406:=geA hg;have GE406:=geA hg;replace HB:=beA hb;clear hb hbox hg;obtain⟨_,_,_,_,_,_,_⟩:=czA7 BK406;obtain⟨_,_,_,_,_,_,_⟩:=cfA7 BK406)|((with_reducible refine gate_dst (N:=1) rfl ?_);refine boxG #[.string a0_0,.string a0_1,.int .i64 a0_2,.string a0_3,.bool true,.slice A0_5 l0_5.length c0_5,.string a0_6] 31 ?_;intro gb406 hg wq1a hbox hb;have BK406:=Aside0.mk (hbox);have GW406:=geA hg;have GE406:=geA hg;replace HB:=beA hb;clear hb hbox hg;obtain⟨_,_,_,_,_,_,_⟩:=czA7 BK406;obtain⟨_,_,_,_,_,_,_⟩:=cfA7 BK406)|(go_at_call 98;(with_reducible refine(spec_l5plain.calls k a0_3 true _ A12.out).mono ?_);rintro e w' ⟨rfl,⟨nd,rfl⟩⟩)|(go_at_call 101;(with_reducible refine(spec_l6bare.calls a0_2 t408 _ A20.out).mono ?_);rintro e w' ⟨rfl,⟨nd,rfl⟩⟩)|((with_reducible refine gate_dst (N:=1) rfl ?_);refine boxG #[.string a0_0,.string a0_1,.int .i64 a0_2,.string a0_3,.bool a0_4,.slice A0_5 l0_5.length c0_5,.string a0_6] 31 ?_;intro gb406 hg wq0a hbox hb;have BK406:=Aside0.mk (hbox);have GW406:=geA hg;have GE406:=geA hg;replace HB:=beA hb;clear hb hbox hg;obtain⟨_,_,_,_,_,_,_⟩:=czA7 BK406;obtain⟨_,_,_,_,_,_,_⟩:=cfA7 BK406)|(go_at_call 98;(with_reducible refine(spec_l5plain.calls k a0_3 false _ A12.out).mono ?_);rintro e w' ⟨rfl,⟨nd,rfl⟩⟩))
  go_ret
  exact⟨gq2,gBe⟩):p:=h
set_option maxHeartbeats 8000000 in
set_option maxRecDepth 100000 in
theorem spec_l6answer.calls (k:Nat) (a0_0:ByteArray) (a0_1:ByteArray) (a0_2:Int) (a0_3:ByteArray) (a0_4:Bool) (A0_5:Option Addr) (c0_5:Nat) (l0_5:List (S72)) (a0_6:ByteArray) (r:Bool) (w:World) (hr0_5:Kd.C k72 w A0_5 l0_5.length l0_5) (hc0_5:l0_5.length≤c0_5) (h:spec_l6answer.f k a0_0 a0_1 a0_2 a0_3 a0_4 l0_5 a0_6=some r) :
  Calls Tryz.prog 61 #[.agg #[.string a0_0,.string a0_1,.int .i64 a0_2,.string a0_3,.bool a0_4,.slice A0_5 l0_5.length c0_5,.string a0_6]] w fun e w'=>e = .returned (.bool r)∧Below w.heap.size w w':=by
 have hu31:=Tryz.underlying31
 have HR0_5:=Aside0.mk hr0_5
 have HC0_5:=Aside0.mk hc0_5
 clear hr0_5 hc0_5
 have HB:=Aside0.mk (Below.refl w.heap.size w)
 have H:=h
 clear h
 unfold spec_l6answer.f at H
 replace H:=gI H
 rcases H with⟨c2,-,-,H⟩|⟨c2,-,-,H⟩
 ·have c2b0:(a0_1.toList==([]:List UInt8))=true:=beq_iff_eq.mpr c2
  have c2b1:(a0_1.toList != ([]:List UInt8))=false:=bne_eq_false_iff_eq.mpr c2
  clear c2
  replace H:=gI H
  rcases H with⟨-,c3b0,-,H⟩|⟨-,c3b0,-,H⟩
  ·exact spec_l6answer.e0
  ·replace H:=gI H
   rcases H with⟨c6,-,-,H⟩|⟨c6,-,-,H⟩
   ·have c6b0:decide (599<a0_2)=true:=decide_eq_true c6
    clear c6
    exact spec_l6answer.e0
   ·have c6b0:decide (599<a0_2)=false:=decide_eq_false c6
    clear c6
    replace H:=gI H
    rcases H with⟨c9,-,-,H⟩|⟨c9,-,-,H⟩
    ·have c9b0:decide (40<(a0_3.size:Int))=true:=decide_eq_true c9
     have c9b1:decide (40<a0_3.size)=true:=decide_eq_true (by omega)
     clear c9
     exact spec_l6answer.e0
    ·have c9b0:decide (40<(a0_3.size:Int))=false:=decide_eq_false c9
     have c9b1:decide (40<a0_3.size)=false:=decide_eq_false (by omega)
     clear c9
     replace H:=gD H
     obtain⟨t407,A12,H⟩:=H
     replace H:=gB H
     rcases H with⟨rfl,H⟩|⟨rfl,H⟩
     ·replace H:=gB H
      rcases H with⟨rfl,H⟩|⟨rfl,H⟩
      ·replace H:=gI H
       rcases H with⟨c15,-,-,H⟩|⟨c15,-,-,H⟩
       ·have c15b0:(a0_6.toList==([]:List UInt8))=true:=beq_iff_eq.mpr c15
        have c15b1:(a0_6.toList != ([]:List UInt8))=false:=bne_eq_false_iff_eq.mpr c15
        clear c15
        exact spec_l6answer.e0
       ·have c15b0:(a0_6.toList==([]:List UInt8))=false:=beq_eq_false_iff_ne.mpr c15
        have c15b1:(a0_6.toList != ([]:List UInt8))=true:=bne_iff_ne.mpr c15
        exact spec_l6answer.e0
      ·replace H:=gD H
       obtain⟨t408,A20,H⟩:=H
       exact spec_l6answer.e0
     ·exact spec_l6answer.e0
 ·have c2b0:(a0_1.toList==([]:List UInt8))=false:=beq_eq_false_iff_ne.mpr c2
  have c2b1:(a0_1.toList != ([]:List UInt8))=true:=bne_iff_ne.mpr c2
  exact spec_l6answer.e0


mutual
def spec_l6head.j0 : Nat→ByteArray→ByteArray→ByteArray→Int→ByteArray→Bool→List (S72)→ByteArray→Option (ByteArray)
 |0,_,_,_,_,_,_,_,_=>none
 |k+1,x3,x419000,x419001,x419002,x419003,x419004,x419005,x419006=>spec_l6head.l0 k x3 0 x419000 x419001 x419002 x419003 x419004 x419005 x419006
def spec_l6head.l0 : Nat→ByteArray→Int→ByteArray→ByteArray→Int→ByteArray→Bool→List (S72)→ByteArray→Option (ByteArray)
 |0,_,_,_,_,_,_,_,_,_=>none
 |k+1,x3,x4,x419000,x419001,x419002,x419003,x419004,x419005,x419006=>if x4<(x419005.length:Int) then(if 0≤x4 then((spec_FieldText.f k ((rd_T72 x419005 x4).f0) ((rd_T72 x419005 x4).f1)).bind fun t421=>(if x3.size+t421.size≤9223372036854775807 then(if(x3++t421).size+2≤9223372036854775807 then(spec_l6head.l0 k ((x3++t421)++(⟨#[13,10]⟩:ByteArray)) (wrap64 (x4+1)) x419000 x419001 x419002 x419003 x419004 x419005 x419006) else(none)) else(none))) else(none)) else(if x419000.toList=([]:List UInt8) then(if x419004=true then(if x3.size+2≤9223372036854775807 then(some (x3++(⟨#[13,10]⟩:ByteArray))) else(none)) else(if x3.size+16≤9223372036854775807 then((spec_DecText.f k (x419006.size:Int)).bind fun t422=>(if(x3++(⟨#[67,111,110,116,101,110,116,45,76,101,110,103,116,104,58,32]⟩:ByteArray)).size+t422.size≤9223372036854775807 then(if((x3++(⟨#[67,111,110,116,101,110,116,45,76,101,110,103,116,104,58,32]⟩:ByteArray))++t422).size+2≤9223372036854775807 then(if(((x3++(⟨#[67,111,110,116,101,110,116,45,76,101,110,103,116,104,58,32]⟩:ByteArray))++t422)++(⟨#[13,10]⟩:ByteArray)).size+2≤9223372036854775807 then(some ((((x3++(⟨#[67,111,110,116,101,110,116,45,76,101,110,103,116,104,58,32]⟩:ByteArray))++t422)++(⟨#[13,10]⟩:ByteArray))++(⟨#[13,10]⟩:ByteArray))) else(none)) else(none)) else(none))) else(none))) else(if x419006.toList=([]:List UInt8) then(if x3.size+2≤9223372036854775807 then(some (x3++(⟨#[13,10]⟩:ByteArray))) else(none)) else(if x3.size+16≤9223372036854775807 then((spec_DecText.f k (x419006.size:Int)).bind fun t423=>(if(x3++(⟨#[67,111,110,116,101,110,116,45,76,101,110,103,116,104,58,32]⟩:ByteArray)).size+t423.size≤9223372036854775807 then(if((x3++(⟨#[67,111,110,116,101,110,116,45,76,101,110,103,116,104,58,32]⟩:ByteArray))++t423).size+2≤9223372036854775807 then(if(((x3++(⟨#[67,111,110,116,101,110,116,45,76,101,110,103,116,104,58,32]⟩:ByteArray))++t423)++(⟨#[13,10]⟩:ByteArray)).size+2≤9223372036854775807 then(some ((((x3++(⟨#[67,111,110,116,101,110,116,45,76,101,110,103,116,104,58,32]⟩:ByteArray))++t423)++(⟨#[13,10]⟩:ByteArray))++(⟨#[13,10]⟩:ByteArray))) else(none)) else(none)) else(none))) else(none))))
end
def spec_l6head.f (k:Nat) (a0_0:ByteArray) (a0_1:ByteArray) (a0_2:Int) (a0_3:ByteArray) (a0_4:Bool) (l0_5:List (S72)) (a0_6:ByteArray):Option (ByteArray):=if a0_0.size+1≤9223372036854775807 then(if(a0_0++(⟨#[32]⟩:ByteArray)).size+a0_1.size≤9223372036854775807 then(if((a0_0++(⟨#[32]⟩:ByteArray))++a0_1).size+11≤9223372036854775807 then(if a0_0.toList=([]:List UInt8) then((spec_DecText.f k a0_2).bind fun t419=>(if 9+t419.size≤9223372036854775807 then(if((⟨#[72,84,84,80,47,49,46,49,32]⟩:ByteArray)++t419).size+1≤9223372036854775807 then(if(((⟨#[72,84,84,80,47,49,46,49,32]⟩:ByteArray)++t419)++(⟨#[32]⟩:ByteArray)).size+a0_3.size≤9223372036854775807 then(if((((⟨#[72,84,84,80,47,49,46,49,32]⟩:ByteArray)++t419)++(⟨#[32]⟩:ByteArray))++a0_3).size+2≤9223372036854775807 then(spec_l6head.j0 k (((((⟨#[72,84,84,80,47,49,46,49,32]⟩:ByteArray)++t419)++(⟨#[32]⟩:ByteArray))++a0_3)++(⟨#[13,10]⟩:ByteArray)) a0_0 a0_1 a0_2 a0_3 a0_4 l0_5 a0_6) else(none)) else(none)) else(none)) else(none))) else(spec_l6head.j0 k (((a0_0++(⟨#[32]⟩:ByteArray))++a0_1)++(⟨#[32,72,84,84,80,47,49,46,49,13,10]⟩:ByteArray)) a0_0 a0_1 a0_2 a0_3 a0_4 l0_5 a0_6)) else(none)) else(none)) else(none)
def spec_l6head.T3 : Bool×List (List Nat×List Nat):=(true,[([],[]),([0],[0]),([1],[1]),([2],[2]),([3],[3]),([],[]),([5],[5]),([4,6],[4,6]),([7],[7]),([8,2,0,1,2,3,4,5,6,7,8],[8])])
def spec_l6head.B3 : List Nat:=[0,1,3,7,15,0,32,127,255,511]
theorem spec_l6head.tab3 : rtab .any (opsOf Tryz.f62 3)=spec_l6head.T3:=by kernel_rfl
theorem spec_l6head.bits3 : waitsOk spec_l6head.T3.2 spec_l6head.B3=true:=by kernel_rfl
theorem spec_l6head.e0 {p:Prop} (h:p:=by
  obtain rfl:=Option.some.inj H
  obtain⟨_,_,_,_,_,_,_⟩:=czA7 BK418
  obtain⟨_,_,_,_,_,_,_⟩:=cfA7 BK418
  go_wp2
  go_ret
  exact⟨gq2,gBe⟩):p:=h
theorem spec_l6head.e1 {p:Prop} (h:p:=by
  obtain rfl:=Option.some.inj H
  obtain⟨_,_,_,_,_,_,_⟩:=czA7 BK418
  obtain⟨_,_,_,_,_,_,_⟩:=cfA7 BK418
  go_wp2_with(first|((with_reducible refine gate_callee (f:=102) rfl ?_);refine goesL_ (some 63) rfl rfl Tryz.func102 (by kernel_rfl) rfl #[.int .i64 (a0_6.size:Int)] rfl gq0 ?_;(with_reducible refine(spec_DecText.calls k2 (a0_6.size:Int) t423 _ A38.out).mono ?_);rintro e wq4a ⟨rfl,hb⟩;refine⟨_,rfl,?_⟩;replace BK418:=blA (g:=gb418) hb;replace HB:=beA hb;(try clear hb);(try clear hb2);(try clear hk);(try clear hi))|((with_reducible refine gate_callee (f:=102) rfl ?_);refine goesL_ (some 63) rfl rfl Tryz.func102 (by kernel_rfl) rfl #[.int .i64 (a0_6.size:Int)] rfl gq0 ?_;(with_reducible refine(spec_DecText.calls k2 (a0_6.size:Int) t422 _ A28.out).mono ?_);rintro e wq3a ⟨rfl,hb⟩;refine⟨_,rfl,?_⟩;replace BK418:=blA (g:=gb418) hb;replace HB:=beA hb;(try clear hb);(try clear hb2);(try clear hk);(try clear hi)))
  go_ret
  exact⟨gq2,gBe⟩):p:=h
set_option maxHeartbeats 8000000 in
set_option maxRecDepth 100000 in
theorem spec_l6head.calls (k:Nat) (a0_0:ByteArray) (a0_1:ByteArray) (a0_2:Int) (a0_3:ByteArray) (a0_4:Bool) (A0_5:Option Addr) (c0_5:Nat) (l0_5:List (S72)) (a0_6:ByteArray) (r:ByteArray) (w:World) (hr0_5:Kd.C k72 w A0_5 l0_5.length l0_5) (hc0_5:l0_5.length≤c0_5) (h:spec_l6head.f k a0_0 a0_1 a0_2 a0_3 a0_4 l0_5 a0_6=some r) :
  Calls Tryz.prog 62 #[.agg #[.string a0_0,.string a0_1,.int .i64 a0_2,.string a0_3,.bool a0_4,.slice A0_5 l0_5.length c0_5,.string a0_6]] w fun e w'=>e = .returned (.string r)∧Below w.heap.size w w':=by
 have hu31:=Tryz.underlying31
 have hu72:=Tryz.underlying72
 have HR0_5:=Aside0.mk hr0_5
 have HC0_5:=Aside0.mk hc0_5
 clear hr0_5 hc0_5
 have HB:=Aside0.mk (Below.refl w.heap.size w)
 have H:=h
 clear h
 unfold spec_l6head.f at H
 replace H:=gI H
 rcases H with⟨c2,c2b1,c2b0,H⟩|⟨c2,-,-,H⟩
 ·try have c2b2:(9223372036854775807<a0_0.size+1)=False:=eq_false (Nat.not_lt.2 c2)
  replace H:=gN H
  obtain⟨c3,c3b1,c3b0,H⟩:=H
  try have c3b2:(9223372036854775807<(a0_0++(⟨#[32]⟩:ByteArray)).size+a0_1.size)=False:=eq_false (Nat.not_lt.2 c3)
  try have c3b3:(9223372036854775807<a0_0.size+1+a0_1.size)=False:=by have h_:=c3;simp only[ByteArray.size_append] at h_;exact eq_false (Nat.not_lt.2 h_)
  replace H:=gN H
  obtain⟨c4,c4b1,c4b0,H⟩:=H
  try have c4b2:(9223372036854775807<((a0_0++(⟨#[32]⟩:ByteArray))++a0_1).size+11)=False:=eq_false (Nat.not_lt.2 c4)
  try have c4b3:(9223372036854775807<a0_0.size+1+a0_1.size+11)=False:=by have h_:=c4;simp only[ByteArray.size_append] at h_;exact eq_false (Nat.not_lt.2 h_)
  have HC5:=Aside0.mk H
  clear H
  go_enter Tryz.func62,Tryz.ntmps62
  go_upto_if 14 with(first|((with_reducible refine gate_dst (N:=1) rfl ?_);refine boxA #[.string a0_0,.string a0_1,.int .i64 a0_2,.string a0_3,.bool a0_4,.slice A0_5 l0_5.length c0_5,.string a0_6] 31 ?_;intro gb418 hg w6 hbox hb;have n0_:=beA hb;have n1_:=Aside0.mk (hbox);have n2_:=geA hg;have n3_:=geA hg;clear HB;have HB:=n0_;have BK418:=n1_;have GW418:=n2_;have GE418:=n3_;clear n0_ n1_ n2_ n3_;clear hb hbox hg;obtain⟨_,_,_,_,_,_,_⟩:=czA7 BK418;obtain⟨_,_,_,_,_,_,_⟩:=cfA7 BK418))
  (try simp only[Act.put,List.setIfInBounds_toArray,List.set_cons_zero,List.set_cons_succ])
  go_cut [3] (fun v3 wc=>∃(kq:Nat) (x3_4:ByteArray),v3 = .string x3_4∧Aside0 (spec_l6head.j0 kq x3_4 a0_0 a0_1 a0_2 a0_3 a0_4 l0_5 a0_6=some r)∧Aside0 (kq≤k)∧Aside0 (wc.heap[gb418]? = some (.cells #[.string a0_0,.string a0_1,.int .i64 a0_2,.string a0_3,.bool a0_4,(.slice A0_5 l0_5.length c0_5),.string a0_6] 31 (0,0)))∧Aside0 (Below w.heap.size w wc))
  case first=>
   have H:=HC5.out
   clear HC5
   replace H:=gI H
   rcases H with⟨c8,-,-,H⟩|⟨c8,-,-,H⟩
   ·have c8b0:(a0_0.toList==([]:List UInt8))=true:=beq_iff_eq.mpr c8
    have c8b4:a0_0.toList.isEmpty=true:=List.isEmpty_iff.mpr c8
    have c8b1:(a0_0.toList != ([]:List UInt8))=false:=bne_eq_false_iff_eq.mpr c8
    clear c8
    (first|rw[c8b0]|rw[c8b4]|(simp only[i64_w,i32_w];rw[c8b0])|skip)
    replace H:=gD H
    obtain⟨t419,A9,H⟩:=H
    replace H:=gN H
    obtain⟨c10,c10b1,c10b0,H⟩:=H
    try have c10b2:(9223372036854775807<9+t419.size)=False:=eq_false (Nat.not_lt.2 c10)
    replace H:=gN H
    obtain⟨c11,c11b1,c11b0,H⟩:=H
    try have c11b2:(9223372036854775807<((⟨#[72,84,84,80,47,49,46,49,32]⟩:ByteArray)++t419).size+1)=False:=eq_false (Nat.not_lt.2 c11)
    try have c11b3:(9223372036854775807<9+t419.size+1)=False:=by have h_:=c11;simp only[ByteArray.size_append] at h_;exact eq_false (Nat.not_lt.2 h_)
    replace H:=gN H
    obtain⟨c12,c12b1,c12b0,H⟩:=H
    try have c12b2:(9223372036854775807<(((⟨#[72,84,84,80,47,49,46,49,32]⟩:ByteArray)++t419)++(⟨#[32]⟩:ByteArray)).size+a0_3.size)=False:=eq_false (Nat.not_lt.2 c12)
    try have c12b3:(9223372036854775807<9+t419.size+1+a0_3.size)=False:=by have h_:=c12;simp only[ByteArray.size_append] at h_;exact eq_false (Nat.not_lt.2 h_)
    replace H:=gN H
    obtain⟨c13,c13b1,c13b0,H⟩:=H
    try have c13b2:(9223372036854775807<((((⟨#[72,84,84,80,47,49,46,49,32]⟩:ByteArray)++t419)++(⟨#[32]⟩:ByteArray))++a0_3).size+2)=False:=eq_false (Nat.not_lt.2 c13)
    try have c13b3:(9223372036854775807<9+t419.size+1+a0_3.size+2)=False:=by have h_:=c13;simp only[ByteArray.size_append] at h_;exact eq_false (Nat.not_lt.2 h_)
    have H':=Aside0.mk H
    clear H
    try go_wp2
    replace BK418:=Aside0.mk (blk_drew BK418.out)
    replace HB:=Aside0.mk (below_drew1 HB.out)
    refine startF (n:=10) (S:=fun w'=>w'.cell? ⟨gb418,0,none⟩=some (.string a0_0)∧w'.cell? ⟨gb418,1,none⟩=some (.string a0_1)∧w'.cell? ⟨gb418,2,none⟩=some (.int .i64 a0_2)∧w'.cell? ⟨gb418,3,none⟩=some (.string a0_3)∧w'.cell? ⟨gb418,4,none⟩=some (.bool a0_4)∧w'.cell? ⟨gb418,5,none⟩=some (.slice A0_5 l0_5.length c0_5)∧w'.cell? ⟨gb418,6,none⟩=some (.string a0_6)) (ds:=[]) (czA7 BK418) (fun hHeld=>?_);refine with_tabW spec_l6head.tab3 spec_l6head.bits3 (fun HT_ HW_=>?_)
    generalize w6.drew=wq0a at BK418 HB hHeld ⊢
    repeat(first|refine takeF ?_ (hy:=Or.inl ⟨by rfl,by rintro w' ⟨s0,s1,s2,s3,s4,s5,s6⟩;go_simp;with_reducible rfl⟩)|refine pureF ?_)
    refine pureT 5 (some 20) ?_
    refine takeT_ 6 (some 21) (hy:=Or.inl ⟨by rfl,by rintro w' ⟨s0,s1,s2,s3,s4,s5,s6⟩;go_simp;with_reducible rfl⟩) ?_
    refine oneF (fun K hK=>?_)
    refine goes_ Tryz.func102 (by kernel_rfl) rfl #[.int .i64 a0_2] (by rfl) rfl rfl gq0 ?_
    with_reducible refine(spec_DecText.calls k a0_2 t419 _ A9.out).mono ?_
    rintro e wq1a ⟨rfl,hb⟩
    refine⟨_,rfl,?_⟩
    replace BK418:=blA (g:=gb418) hb
    replace HB:=beA hb
    (try clear hb)
    refine hK.out _ _ (czA7 BK418) (fun hHeld=>?_)
    clear hK K
    refine normF ?_
    repeat(first|refine pureF ?_)
    refine done_ (done_of HT_.out (by kernel_rfl)) ?_
    try go_wp2
    go_meet
    case rel=>exact⟨_,(((((⟨#[72,84,84,80,47,49,46,49,32]⟩:ByteArray)++t419)++(⟨#[32]⟩:ByteArray))++a0_3)++(⟨#[13,10]⟩:ByteArray)),gq4,H',⟨gq8⟩,⟨gBk⟩,⟨gBe⟩⟩
   ·have c8b0:(a0_0.toList==([]:List UInt8))=false:=beq_eq_false_iff_ne.mpr c8
    have c8b4:a0_0.toList.isEmpty=false:=Bool.eq_false_iff.mpr (fun h_=>c8 (List.isEmpty_iff.mp h_))
    have c8b1:(a0_0.toList != ([]:List UInt8))=true:=bne_iff_ne.mpr c8
    (first|rw[c8b0]|rw[c8b4]|(simp only[i64_w,i32_w];rw[c8b0])|skip)
    have H':=Aside0.mk H
    clear H
    go_wp2
    go_meet
    case rel=>exact⟨_,(((a0_0++(⟨#[32]⟩:ByteArray))++a0_1)++(⟨#[32,72,84,84,80,47,49,46,49,13,10]⟩:ByteArray)),gq4,H',⟨gq8⟩,⟨gBk⟩,⟨gBe⟩⟩
  case rest=>
   clear HC5
   try clear c2
   try clear c2b0
   try clear c2b1
   try clear c2b2
   try clear c3
   try clear c3b0
   try clear c3b1
   try clear c3b2
   try clear c4
   try clear c4b0
   try clear c4b1
   try clear c4b2
   obtain⟨kq,x3_4,rfl,HA,HJ4,BK418,HB⟩:=hcut
   cases kq with
   |zero=>exact absurd HA.out (by simp[spec_l6head.j0])
   |succ kj4=>
    have H:=HA.out
    clear HA
    simp only[spec_l6head.j0] at H
    have H':=Aside0.mk H
    clear H
    go_wp2
    go_loopg [3,4] kj4 (fun kq v3 v4 w'=>∃(x3_2:ByteArray) (x4_2:Int),v3 = .string x3_2∧v4 = .int .i64 x4_2∧Aside0 (spec_l6head.l0 kq x3_2 x4_2 a0_0 a0_1 a0_2 a0_3 a0_4 l0_5 a0_6=some r)∧Aside0 (kq≤kj4)∧Aside0 (w'.heap[gb418]? = some (.cells #[.string a0_0,.string a0_1,.int .i64 a0_2,.string a0_3,.bool a0_4,(.slice A0_5 l0_5.length c0_5),.string a0_6] 31 (0,0)))∧Aside0 (Below w.heap.size w w'))
    case atStart=>exact⟨(x3_4),(0),gq4,gq4,H',⟨Nat.le_refl _⟩,⟨gBk⟩,⟨gBe⟩⟩
    case round=>
     clear H'
     try clear c2
     try clear c2b0
     try clear c2b1
     try clear c2b2
     try clear c3
     try clear c3b0
     try clear c3b1
     try clear c3b2
     try clear c4
     try clear c4b0
     try clear c4b1
     try clear c4b2
     obtain⟨x3_2,x4_2,rfl,rfl,HA,HK2,BK418,HB⟩:=hrel
     cases gk with
     |zero=>exact absurd HA.out (by simp[spec_l6head.l0])
     |succ k2=>
      have H:=HA.out
      clear HA
      simp only[spec_l6head.l0] at H
      replace H:=gI H
      rcases H with⟨-,c16b0,-,H⟩|⟨-,c16b0,-,H⟩
      ·replace H:=gN H
       obtain⟨-,c17b0,-,H⟩:=H
       replace H:=gD H
       obtain⟨t421,A18,H⟩:=H
       replace H:=gN H
       obtain⟨c19,c19b1,c19b0,H⟩:=H
       try have c19b2:(9223372036854775807<x3_2.size+t421.size)=False:=eq_false (Nat.not_lt.2 c19)
       replace H:=gN H
       obtain⟨c20,c20b1,c20b0,H⟩:=H
       try have c20b2:(9223372036854775807<(x3_2++t421).size+2)=False:=eq_false (Nat.not_lt.2 c20)
       try have c20b3:(9223372036854775807<x3_2.size+t421.size+2)=False:=by have h_:=c20;simp only[ByteArray.size_append] at h_;exact eq_false (Nat.not_lt.2 h_)
       have H':=Aside0.mk H
       clear H
       obtain⟨_,_,_,_,_,_,_⟩:=czA7 BK418
       obtain⟨_,_,_,_,_,_,_⟩:=cfA7 BK418
       have p420:0≤(x4_2:Int):=of_decide_eq_true gq3
       have q420:x4_2<(l0_5.length:Int):=of_decide_eq_true gq3
       obtain⟨ad420,e420,hx420_0,hx420_1⟩:=at_T72 HR0_5.out x4_2 p420 q420
       cases e420
       replace hx420_0:=(HB.out.cell (World.block_lt_of_cell? w _ hx420_0)).trans hx420_0
       replace hx420_1:=(HB.out.cell (World.block_lt_of_cell? w _ hx420_1)).trans hx420_1
       replace p420:=eq_true p420
       replace q420:=eq_true q420
       go_wp2_with(((with_reducible refine gate_callee (f:=103) rfl ?_);refine goesL_ (some 37) rfl rfl Tryz.func103 (by kernel_rfl) rfl #[.agg #[.string ((rd_T72 l0_5 x4_2).f0),.string ((rd_T72 l0_5 x4_2).f1)]] rfl gq0 ?_;(with_reducible refine(spec_FieldText.calls k2 ((rd_T72 l0_5 x4_2).f0) ((rd_T72 l0_5 x4_2).f1) t421 _ A18.out).mono ?_);rintro e wq2a ⟨rfl,hb⟩;refine⟨_,rfl,?_⟩;replace BK418:=blA (g:=gb418) hb;replace HB:=beA hb;(try clear hb);(try clear hb2);(try clear hk);(try clear hi)))
       go_roundg k2
       case measure=>have:=HJ4.out;have:=HK2.out;omega
       case rel=>exact⟨((x3_2++t421)++(⟨#[13,10]⟩:ByteArray)),(wrap64 (x4_2+1)),gq4,gq4,H',⟨by have:=HJ4.out;have:=HK2.out;omega⟩,⟨gBk⟩,⟨gBe⟩⟩
      ·replace H:=gI H
       rcases H with⟨c23,-,-,H⟩|⟨c23,-,-,H⟩
       ·have c23b0:(a0_0.toList==([]:List UInt8))=true:=beq_iff_eq.mpr c23
        have c23b1:(a0_0.toList != ([]:List UInt8))=false:=bne_eq_false_iff_eq.mpr c23
        clear c23
        replace H:=gB H
        rcases H with⟨rfl,H⟩|⟨rfl,H⟩
        ·replace H:=gN H
         obtain⟨c25,c25b1,c25b0,H⟩:=H
         try have c25b2:(9223372036854775807<x3_2.size+2)=False:=eq_false (Nat.not_lt.2 c25)
         exact spec_l6head.e0
        ·replace H:=gN H
         obtain⟨c27,c27b1,c27b0,H⟩:=H
         try have c27b2:(9223372036854775807<x3_2.size+16)=False:=eq_false (Nat.not_lt.2 c27)
         replace H:=gD H
         obtain⟨t422,A28,H⟩:=H
         replace H:=gN H
         obtain⟨c29,c29b1,c29b0,H⟩:=H
         try have c29b2:(9223372036854775807<(x3_2++(⟨#[67,111,110,116,101,110,116,45,76,101,110,103,116,104,58,32]⟩:ByteArray)).size+t422.size)=False:=eq_false (Nat.not_lt.2 c29)
         try have c29b3:(9223372036854775807<x3_2.size+16+t422.size)=False:=by have h_:=c29;simp only[ByteArray.size_append] at h_;exact eq_false (Nat.not_lt.2 h_)
         replace H:=gN H
         obtain⟨c30,c30b1,c30b0,H⟩:=H
         try have c30b2:(9223372036854775807<((x3_2++(⟨#[67,111,110,116,101,110,116,45,76,101,110,103,116,104,58,32]⟩:ByteArray))++t422).size+2)=False:=eq_false (Nat.not_lt.2 c30)
         try have c30b3:(9223372036854775807<x3_2.size+16+t422.size+2)=False:=by have h_:=c30;simp only[ByteArray.size_append] at h_;exact eq_false (Nat.not_lt.2 h_)
         replace H:=gN H
         obtain⟨c31,c31b1,c31b0,H⟩:=H
         try have c31b2:(9223372036854775807<(((x3_2++(⟨#[67,111,110,116,101,110,116,45,76,101,110,103,116,104,58,32]⟩:ByteArray))++t422)++(⟨#[13,10]⟩:ByteArray)).size+2)=False:=eq_false (Nat.not_lt.2 c31)
         try have c31b3:(9223372036854775807<x3_2.size+16+t422.size+2+2)=False:=by have h_:=c31;simp only[ByteArray.size_append] at h_;exact eq_false (Nat.not_lt.2 h_)
         exact spec_l6head.e1
       ·have c23b0:(a0_0.toList==([]:List UInt8))=false:=beq_eq_false_iff_ne.mpr c23
        have c23b1:(a0_0.toList != ([]:List UInt8))=true:=bne_iff_ne.mpr c23
        replace H:=gI H
        rcases H with⟨c34,-,-,H⟩|⟨c34,-,-,H⟩
        ·have c34b0:(a0_6.toList==([]:List UInt8))=true:=beq_iff_eq.mpr c34
         have c34b1:(a0_6.toList != ([]:List UInt8))=false:=bne_eq_false_iff_eq.mpr c34
         clear c34
         replace H:=gN H
         obtain⟨c35,c35b1,c35b0,H⟩:=H
         try have c35b2:(9223372036854775807<x3_2.size+2)=False:=eq_false (Nat.not_lt.2 c35)
         exact spec_l6head.e0
        ·have c34b0:(a0_6.toList==([]:List UInt8))=false:=beq_eq_false_iff_ne.mpr c34
         have c34b1:(a0_6.toList != ([]:List UInt8))=true:=bne_iff_ne.mpr c34
         replace H:=gN H
         obtain⟨c37,c37b1,c37b0,H⟩:=H
         try have c37b2:(9223372036854775807<x3_2.size+16)=False:=eq_false (Nat.not_lt.2 c37)
         replace H:=gD H
         obtain⟨t423,A38,H⟩:=H
         replace H:=gN H
         obtain⟨c39,c39b1,c39b0,H⟩:=H
         try have c39b2:(9223372036854775807<(x3_2++(⟨#[67,111,110,116,101,110,116,45,76,101,110,103,116,104,58,32]⟩:ByteArray)).size+t423.size)=False:=eq_false (Nat.not_lt.2 c39)
         try have c39b3:(9223372036854775807<x3_2.size+16+t423.size)=False:=by have h_:=c39;simp only[ByteArray.size_append] at h_;exact eq_false (Nat.not_lt.2 h_)
         replace H:=gN H
         obtain⟨c40,c40b1,c40b0,H⟩:=H
         try have c40b2:(9223372036854775807<((x3_2++(⟨#[67,111,110,116,101,110,116,45,76,101,110,103,116,104,58,32]⟩:ByteArray))++t423).size+2)=False:=eq_false (Nat.not_lt.2 c40)
         try have c40b3:(9223372036854775807<x3_2.size+16+t423.size+2)=False:=by have h_:=c40;simp only[ByteArray.size_append] at h_;exact eq_false (Nat.not_lt.2 h_)
         replace H:=gN H
         obtain⟨c41,c41b1,c41b0,H⟩:=H
         try have c41b2:(9223372036854775807<(((x3_2++(⟨#[67,111,110,116,101,110,116,45,76,101,110,103,116,104,58,32]⟩:ByteArray))++t423)++(⟨#[13,10]⟩:ByteArray)).size+2)=False:=eq_false (Nat.not_lt.2 c41)
         try have c41b3:(9223372036854775807<x3_2.size+16+t423.size+2+2)=False:=by have h_:=c41;simp only[ByteArray.size_append] at h_;exact eq_false (Nat.not_lt.2 h_)
         exact spec_l6head.e1
 ·exact absurd H (by simp)


def spec_l6request.f (k:Nat) (a0_0:ByteArray) (a0_1:ByteArray) (a0_2:Int) (a0_3:ByteArray) (a0_4:Bool) (l0_5:List (S72)) (a0_6:ByteArray):Option (Bool):=if(a0_0.size:Int)≤20 then((spec_Token.f k a0_0).bind fun t430=>(if t430=true then(if(a0_1.size:Int)≤200 then((spec_l6visible.f k a0_1).bind fun t431=>(if t431=true then(if a0_2=0 then(if a0_3.toList=([]:List UInt8) then(some (!a0_4)) else(some false)) else(some false)) else(some false))) else(some false)) else(some false))) else(some false)
theorem spec_l6request.e0 {p:Prop} (h:p:=by
  obtain rfl:=Option.some.inj H
  go_enter Tryz.func60,Tryz.ntmps60
  go_wp2_with(first|((with_reducible refine gate_dst (N:=1) rfl ?_);refine boxG #[.string a0_0,.string a0_1,.int .i64 a0_2,.string a0_3,.bool a0_4,.slice A0_5 l0_5.length c0_5,.string a0_6] 31 ?_;intro gb429 hg wq0a hbox hb;have BK429:=Aside0.mk (hbox);have GW429:=geA hg;have GE429:=geA hg;replace HB:=beA hb;clear hb hbox hg;obtain⟨_,_,_,_,_,_,_⟩:=czA7 BK429;obtain⟨_,_,_,_,_,_,_⟩:=cfA7 BK429)|(go_at_call 97;(with_reducible refine(spec_Token.calls k a0_0 false _ A3.out).mono ?_);rintro e w' ⟨rfl,⟨nd,rfl⟩⟩)|(go_at_call 97;(with_reducible refine(spec_Token.calls k a0_0 true _ A3.out).mono ?_);rintro e w' ⟨rfl,⟨nd,rfl⟩⟩)|(go_at_call 100;(with_reducible refine(spec_l6visible.calls k a0_1 false _ A6.out).mono ?_);rintro e w' ⟨rfl,⟨nd,rfl⟩⟩)|(go_at_call 100;(with_reducible refine(spec_l6visible.calls k a0_1 true _ A6.out).mono ?_);rintro e w' ⟨rfl,⟨nd,rfl⟩⟩))
  go_ret
  exact⟨gq2,gBe⟩):p:=h
set_option maxHeartbeats 8000000 in
set_option maxRecDepth 100000 in
theorem spec_l6request.calls (k:Nat) (a0_0:ByteArray) (a0_1:ByteArray) (a0_2:Int) (a0_3:ByteArray) (a0_4:Bool) (A0_5:Option Addr) (c0_5:Nat) (l0_5:List (S72)) (a0_6:ByteArray) (r:Bool) (w:World) (hr0_5:Kd.C k72 w A0_5 l0_5.length l0_5) (hc0_5:l0_5.length≤c0_5) (h:spec_l6request.f k a0_0 a0_1 a0_2 a0_3 a0_4 l0_5 a0_6=some r) :
  Calls Tryz.prog 60 #[.agg #[.string a0_0,.string a0_1,.int .i64 a0_2,.string a0_3,.bool a0_4,.slice A0_5 l0_5.length c0_5,.string a0_6]] w fun e w'=>e = .returned (.bool r)∧Below w.heap.size w w':=by
 have hu31:=Tryz.underlying31
 have HR0_5:=Aside0.mk hr0_5
 have HC0_5:=Aside0.mk hc0_5
 clear hr0_5 hc0_5
 have HB:=Aside0.mk (Below.refl w.heap.size w)
 have H:=h
 clear h
 unfold spec_l6request.f at H
 replace H:=gI H
 rcases H with⟨c2,c2b0,-,H⟩|⟨c2,c2b0,-,H⟩
 ·have c2b1:decide (a0_0.size≤20)=true:=decide_eq_true (by omega)
  clear c2
  replace H:=gD H
  obtain⟨t430,A3,H⟩:=H
  replace H:=gB H
  rcases H with⟨rfl,H⟩|⟨rfl,H⟩
  ·replace H:=gI H
   rcases H with⟨c5,c5b0,-,H⟩|⟨c5,c5b0,-,H⟩
   ·have c5b1:decide (a0_1.size≤200)=true:=decide_eq_true (by omega)
    clear c5
    replace H:=gD H
    obtain⟨t431,A6,H⟩:=H
    replace H:=gB H
    rcases H with⟨rfl,H⟩|⟨rfl,H⟩
    ·replace H:=gI H
     rcases H with⟨c8,-,-,H⟩|⟨c8,-,-,H⟩
     ·have c8b0:(a0_2==0)=true:=beq_iff_eq.mpr c8
      have c8b1:(a0_2 != 0)=false:=bne_eq_false_iff_eq.mpr c8
      clear c8
      replace H:=gI H
      rcases H with⟨c9,-,-,H⟩|⟨c9,-,-,H⟩
      ·have c9b0:(a0_3.toList==([]:List UInt8))=true:=beq_iff_eq.mpr c9
       have c9b1:(a0_3.toList != ([]:List UInt8))=false:=bne_eq_false_iff_eq.mpr c9
       clear c9
       exact spec_l6request.e0
      ·have c9b0:(a0_3.toList==([]:List UInt8))=false:=beq_eq_false_iff_ne.mpr c9
       have c9b1:(a0_3.toList != ([]:List UInt8))=true:=bne_iff_ne.mpr c9
       exact spec_l6request.e0
     ·have c8b0:(a0_2==0)=false:=beq_eq_false_iff_ne.mpr c8
      have c8b1:(a0_2 != 0)=true:=bne_iff_ne.mpr c8
      exact spec_l6request.e0
    ·exact spec_l6request.e0
   ·have c5b1:decide (a0_1.size≤200)=false:=decide_eq_false (by omega)
    clear c5
    exact spec_l6request.e0
  ·exact spec_l6request.e0
 ·have c2b1:decide (a0_0.size≤20)=false:=decide_eq_false (by omega)
  clear c2
  exact spec_l6request.e0


def spec_MsgOk.j0 : Nat→Bool→ByteArray→ByteArray→Int→ByteArray→Bool→List (S72)→ByteArray→Option (Bool)
 |0,_,_,_,_,_,_,_,_=>none
 |k+1,x23,x433000,x433001,x433002,x433003,x433004,x433005,x433006=>if x23=true then(some false) else(if x433000.toList=([]:List UInt8) then((spec_l6answer.f k x433000 x433001 x433002 x433003 x433004 x433005 x433006).bind fun t435=>(if t435=true then((spec_l6head.f k x433000 x433001 x433002 x433003 x433004 x433005 x433006).bind fun t436=>(some (decide ((t436.size:Int)≤1500)))) else(some false))) else((spec_l6request.f k x433000 x433001 x433002 x433003 x433004 x433005 x433006).bind fun t437=>(if t437=true then((spec_l6head.f k x433000 x433001 x433002 x433003 x433004 x433005 x433006).bind fun t438=>(some (decide ((t438.size:Int)≤1500)))) else(some false))))
def spec_MsgOk.f (k:Nat) (a0_0:ByteArray) (a0_1:ByteArray) (a0_2:Int) (a0_3:ByteArray) (a0_4:Bool) (l0_5:List (S72)) (a0_6:ByteArray):Option (Bool):=(spec_FieldsOk.f k l0_5).bind fun t433=>(if t433=true then(if(l0_5.length:Int)=20 then(spec_MsgOk.j0 k true a0_0 a0_1 a0_2 a0_3 a0_4 l0_5 a0_6) else((spec_l6framed.f k l0_5).bind fun t434=>(if t434=true then(spec_MsgOk.j0 k true a0_0 a0_1 a0_2 a0_3 a0_4 l0_5 a0_6) else(spec_MsgOk.j0 k (decide ((a0_6.size:Int)>600)) a0_0 a0_1 a0_2 a0_3 a0_4 l0_5 a0_6)))) else(spec_MsgOk.j0 k true a0_0 a0_1 a0_2 a0_3 a0_4 l0_5 a0_6))
theorem spec_MsgOk.e0 {p:Prop} (h:p:=by
  have H':=Aside0.mk H
  clear H
  obtain⟨_,_,_,_,_,_,_⟩:=czA7 BK432
  obtain⟨_,_,_,_,_,_,_⟩:=cfA7 BK432
  go_wp2_with(first|((with_reducible refine gate_callee (f:=32) rfl ?_);refine goesL_ (some 5) rfl rfl Tryz.func32 (by kernel_rfl) rfl #[.slice A0_5 l0_5.length c0_5] rfl gq0 ?_;(with_reducible refine(spec_FieldsOk.calls k _ _ l0_5 false _ ?side1 ?side2 A4.out).mono ?_);(case side1=>repeat(first|exact(Kd.C_below HR0_5.out HB.out)|(with_reducible refine Kd.C_alloc ?_ _)|(with_reducible refine Kd.C_drewN ?_ _)|(with_reducible refine Kd.C_drew ?_)));(case side2=>exact HC0_5.out);rintro e wq3a ⟨rfl,hb⟩;refine⟨_,rfl,?_⟩;replace BK432:=blA (g:=gb432) hb;replace HB:=beA hb;(try clear hb);(try clear hb2);(try clear hk);(try clear hi))|((with_reducible refine gate_callee (f:=32) rfl ?_);refine goesL_ (some 5) rfl rfl Tryz.func32 (by kernel_rfl) rfl #[.slice A0_5 l0_5.length c0_5] rfl gq0 ?_;(with_reducible refine(spec_FieldsOk.calls k _ _ l0_5 true _ ?side1 ?side2 A4.out).mono ?_);(case side1=>repeat(first|exact(Kd.C_below HR0_5.out HB.out)|(with_reducible refine Kd.C_alloc ?_ _)|(with_reducible refine Kd.C_drewN ?_ _)|(with_reducible refine Kd.C_drew ?_)));(case side2=>exact HC0_5.out);rintro e wq0a ⟨rfl,hb⟩;refine⟨_,rfl,?_⟩;replace BK432:=blA (g:=gb432) hb;replace HB:=beA hb;(try clear hb);(try clear hb2);(try clear hk);(try clear hi);obtain⟨_,_,_,_,_,_,_⟩:=czA7 BK432;obtain⟨_,_,_,_,_,_,_⟩:=cfA7 BK432)|(go_at_call 59;(with_reducible refine(spec_l6framed.calls k _ _ l0_5 true _ ?side1 ?side2 A10.out).mono ?_);(case side1=>repeat(first|exact(Kd.C_below HR0_5.out HB.out)|(with_reducible refine Kd.C_alloc ?_ _)|(with_reducible refine Kd.C_drewN ?_ _)|(with_reducible refine Kd.C_drew ?_)));(case side2=>exact HC0_5.out);rintro e wq1a ⟨rfl,hb⟩;replace BK432:=blA (g:=gb432) hb;replace HB:=beA hb;(try clear hb);(try clear hb2);(try clear hk);(try clear hi)))
  go_meet
  case rel=>exact⟨_,(true),gq4,H',⟨gq8⟩,⟨gBk⟩,⟨gBe⟩⟩):p:=h
theorem spec_MsgOk.e1 {p:Prop} (h:p:=by
  obtain rfl:=Option.some.inj H
  obtain⟨_,_,_,_,_,_,_⟩:=czA7 BK432
  obtain⟨_,_,_,_,_,_,_⟩:=cfA7 BK432
  go_wp2_with(first|(go_at_call 60;(with_reducible refine(spec_l6request.calls kj1 a0_0 a0_1 a0_2 a0_3 a0_4 _ _ l0_5 a0_6 false _ ?side1 ?side2 A34.out).mono ?_);(case side1=>repeat(first|exact(Kd.C_below HR0_5.out HB.out)|(with_reducible refine Kd.C_alloc ?_ _)|(with_reducible refine Kd.C_drewN ?_ _)|(with_reducible refine Kd.C_drew ?_)));(case side2=>exact HC0_5.out);rintro e wq9a ⟨rfl,hb⟩;replace BK432:=blA (g:=gb432) hb;replace HB:=beA hb;(try clear hb);(try clear hb2);(try clear hk);(try clear hi))|(go_at_call 60;(with_reducible refine(spec_l6request.calls kj1 a0_0 a0_1 a0_2 a0_3 a0_4 _ _ l0_5 a0_6 true _ ?side1 ?side2 A34.out).mono ?_);(case side1=>repeat(first|exact(Kd.C_below HR0_5.out HB.out)|(with_reducible refine Kd.C_alloc ?_ _)|(with_reducible refine Kd.C_drewN ?_ _)|(with_reducible refine Kd.C_drew ?_)));(case side2=>exact HC0_5.out);rintro e wq7a ⟨rfl,hb⟩;replace BK432:=blA (g:=gb432) hb;replace HB:=beA hb;(try clear hb);(try clear hb2);(try clear hk);(try clear hi);obtain⟨_,_,_,_,_,_,_⟩:=czA7 BK432;obtain⟨_,_,_,_,_,_,_⟩:=cfA7 BK432)|((with_reducible refine gate_callee (f:=62) rfl ?_);refine goesL_ (some 43) rfl rfl Tryz.func62 (by kernel_rfl) rfl #[.agg #[.string a0_0,.string a0_1,.int .i64 a0_2,.string a0_3,.bool a0_4,.slice A0_5 l0_5.length c0_5,.string a0_6]] rfl gq0 ?_;(with_reducible refine(spec_l6head.calls kj1 a0_0 a0_1 a0_2 a0_3 a0_4 _ _ l0_5 a0_6 t438 _ ?side1 ?side2 A36.out).mono ?_);(case side1=>repeat(first|exact(Kd.C_below HR0_5.out HB.out)|(with_reducible refine Kd.C_alloc ?_ _)|(with_reducible refine Kd.C_drewN ?_ _)|(with_reducible refine Kd.C_drew ?_)));(case side2=>exact HC0_5.out);rintro e wq8a ⟨rfl,hb⟩;refine⟨_,rfl,?_⟩;replace BK432:=blA (g:=gb432) hb;replace HB:=beA hb;(try clear hb);(try clear hb2);(try clear hk);(try clear hi))|(go_at_call 61;(with_reducible refine(spec_l6answer.calls kj1 a0_0 a0_1 a0_2 a0_3 a0_4 _ _ l0_5 a0_6 false _ ?side1 ?side2 A25.out).mono ?_);(case side1=>repeat(first|exact(Kd.C_below HR0_5.out HB.out)|(with_reducible refine Kd.C_alloc ?_ _)|(with_reducible refine Kd.C_drewN ?_ _)|(with_reducible refine Kd.C_drew ?_)));(case side2=>exact HC0_5.out);rintro e wq6a ⟨rfl,hb⟩;replace BK432:=blA (g:=gb432) hb;replace HB:=beA hb;(try clear hb);(try clear hb2);(try clear hk);(try clear hi))|(go_at_call 61;(with_reducible refine(spec_l6answer.calls kj1 a0_0 a0_1 a0_2 a0_3 a0_4 _ _ l0_5 a0_6 true _ ?side1 ?side2 A25.out).mono ?_);(case side1=>repeat(first|exact(Kd.C_below HR0_5.out HB.out)|(with_reducible refine Kd.C_alloc ?_ _)|(with_reducible refine Kd.C_drewN ?_ _)|(with_reducible refine Kd.C_drew ?_)));(case side2=>exact HC0_5.out);rintro e wq4a ⟨rfl,hb⟩;replace BK432:=blA (g:=gb432) hb;replace HB:=beA hb;(try clear hb);(try clear hb2);(try clear hk);(try clear hi);obtain⟨_,_,_,_,_,_,_⟩:=czA7 BK432;obtain⟨_,_,_,_,_,_,_⟩:=cfA7 BK432)|((with_reducible refine gate_callee (f:=62) rfl ?_);refine goesL_ (some 43) rfl rfl Tryz.func62 (by kernel_rfl) rfl #[.agg #[.string a0_0,.string a0_1,.int .i64 a0_2,.string a0_3,.bool a0_4,.slice A0_5 l0_5.length c0_5,.string a0_6]] rfl gq0 ?_;(with_reducible refine(spec_l6head.calls kj1 a0_0 a0_1 a0_2 a0_3 a0_4 _ _ l0_5 a0_6 t436 _ ?side1 ?side2 A27.out).mono ?_);(case side1=>repeat(first|exact(Kd.C_below HR0_5.out HB.out)|(with_reducible refine Kd.C_alloc ?_ _)|(with_reducible refine Kd.C_drewN ?_ _)|(with_reducible refine Kd.C_drew ?_)));(case side2=>exact HC0_5.out);rintro e wq5a ⟨rfl,hb⟩;refine⟨_,rfl,?_⟩;replace BK432:=blA (g:=gb432) hb;replace HB:=beA hb;(try clear hb);(try clear hb2);(try clear hk);(try clear hi)))
  go_ret
  exact⟨gq2,gBe⟩):p:=h
set_option maxHeartbeats 8000000 in
set_option maxRecDepth 100000 in
theorem spec_MsgOk.calls (k:Nat) (a0_0:ByteArray) (a0_1:ByteArray) (a0_2:Int) (a0_3:ByteArray) (a0_4:Bool) (A0_5:Option Addr) (c0_5:Nat) (l0_5:List (S72)) (a0_6:ByteArray) (r:Bool) (w:World) (hr0_5:Kd.C k72 w A0_5 l0_5.length l0_5) (hc0_5:l0_5.length≤c0_5) (h:spec_MsgOk.f k a0_0 a0_1 a0_2 a0_3 a0_4 l0_5 a0_6=some r) :
  Calls Tryz.prog 33 #[.agg #[.string a0_0,.string a0_1,.int .i64 a0_2,.string a0_3,.bool a0_4,.slice A0_5 l0_5.length c0_5,.string a0_6]] w fun e w'=>e = .returned (.bool r)∧Below w.heap.size w w':=by
 have hu31:=Tryz.underlying31
 have HR0_5:=Aside0.mk hr0_5
 have HC0_5:=Aside0.mk hc0_5
 clear hr0_5 hc0_5
 have HB:=Aside0.mk (Below.refl w.heap.size w)
 have H:=h
 clear h
 unfold spec_MsgOk.f at H
 have HC2:=Aside0.mk H
 clear H
 go_enter Tryz.func33,Tryz.ntmps33
 go_upto_region 1 with(first|((with_reducible refine gate_dst (N:=1) rfl ?_);refine boxG #[.string a0_0,.string a0_1,.int .i64 a0_2,.string a0_3,.bool a0_4,.slice A0_5 l0_5.length c0_5,.string a0_6] 31 ?_;intro gb432 hg w3 hbox hb;have BK432:=Aside0.mk (hbox);have GE432:=geA hg;replace HB:=beA hb;clear hb hbox hg))
 (try simp only[Act.put,List.setIfInBounds_toArray,List.set_cons_zero,List.set_cons_succ])
 go_cut [23] (fun v23 wc=>∃(kq:Nat) (x23_1:Bool),v23 = .bool x23_1∧Aside0 (spec_MsgOk.j0 kq x23_1 a0_0 a0_1 a0_2 a0_3 a0_4 l0_5 a0_6=some r)∧Aside0 (kq≤k)∧Aside0 (wc.heap[gb432]? = some (.cells #[.string a0_0,.string a0_1,.int .i64 a0_2,.string a0_3,.bool a0_4,(.slice A0_5 l0_5.length c0_5),.string a0_6] 31 (0,0)))∧Aside0 (Below w.heap.size w wc))
 case first=>
  have H:=HC2.out
  clear HC2
  replace H:=gD H
  obtain⟨t433,A4,H⟩:=H
  replace H:=gB H
  rcases H with⟨rfl,H⟩|⟨rfl,H⟩
  ·replace H:=gI H
   rcases H with⟨c6,-,-,H⟩|⟨c6,-,-,H⟩
   ·have c6b0:((l0_5.length:Int)==20)=true:=beq_iff_eq.mpr c6
    have c6b1:((l0_5.length:Int) != 20)=false:=bne_eq_false_iff_eq.mpr c6
    clear c6
    (first|rw[c6b0]|(simp only[i64_w,i32_w];rw[c6b0])|skip)
    exact spec_MsgOk.e0
   ·have c6b0:((l0_5.length:Int)==20)=false:=beq_eq_false_iff_ne.mpr c6
    have c6b1:((l0_5.length:Int) != 20)=true:=bne_iff_ne.mpr c6
    (first|rw[c6b0]|(simp only[i64_w,i32_w];rw[c6b0])|skip)
    replace H:=gD H
    obtain⟨t434,A10,H⟩:=H
    replace H:=gB H
    rcases H with⟨rfl,H⟩|⟨rfl,H⟩
    ·exact spec_MsgOk.e0
    ·have H':=Aside0.mk H
     clear H
     obtain⟨_,_,_,_,_,_,_⟩:=czA7 BK432
     obtain⟨_,_,_,_,_,_,_⟩:=cfA7 BK432
     go_wp2_with(first|((with_reducible refine gate_callee (f:=32) rfl ?_);refine goesL_ (some 5) rfl rfl Tryz.func32 (by kernel_rfl) rfl #[.slice A0_5 l0_5.length c0_5] rfl gq0 ?_;(with_reducible refine(spec_FieldsOk.calls k _ _ l0_5 true _ ?side1 ?side2 A4.out).mono ?_);(case side1=>repeat(first|exact(Kd.C_below HR0_5.out HB.out)|(with_reducible refine Kd.C_alloc ?_ _)|(with_reducible refine Kd.C_drewN ?_ _)|(with_reducible refine Kd.C_drew ?_)));(case side2=>exact HC0_5.out);rintro e wq0a ⟨rfl,hb⟩;refine⟨_,rfl,?_⟩;replace BK432:=blA (g:=gb432) hb;replace HB:=beA hb;(try clear hb);(try clear hb2);(try clear hk);(try clear hi);obtain⟨_,_,_,_,_,_,_⟩:=czA7 BK432;obtain⟨_,_,_,_,_,_,_⟩:=cfA7 BK432)|(go_at_call 59;(with_reducible refine(spec_l6framed.calls k _ _ l0_5 false _ ?side1 ?side2 A10.out).mono ?_);(case side1=>repeat(first|exact(Kd.C_below HR0_5.out HB.out)|(with_reducible refine Kd.C_alloc ?_ _)|(with_reducible refine Kd.C_drewN ?_ _)|(with_reducible refine Kd.C_drew ?_)));(case side2=>exact HC0_5.out);rintro e wq2a ⟨rfl,hb⟩;replace BK432:=blA (g:=gb432) hb;replace HB:=beA hb;(try clear hb);(try clear hb2);(try clear hk);(try clear hi);obtain⟨_,_,_,_,_,_,_⟩:=czA7 BK432;obtain⟨_,_,_,_,_,_,_⟩:=cfA7 BK432))
     go_meet
     case rel=>exact⟨_,(decide ((a0_6.size:Int)>600)),gq4,H',⟨gq8⟩,⟨gBk⟩,⟨gBe⟩⟩
  ·exact spec_MsgOk.e0
 case rest=>
  clear HC2
  obtain⟨kq,x23_1,rfl,HA,HJ1,BK432,HB⟩:=hcut
  cases kq with
  |zero=>exact absurd HA.out (by simp[spec_MsgOk.j0])
  |succ kj1=>
   have H:=HA.out
   clear HA
   simp only[spec_MsgOk.j0] at H
   replace H:=gB H
   rcases H with⟨rfl,H⟩|⟨rfl,H⟩
   ·obtain rfl:=Option.some.inj H
    go_wp2
    go_ret
    exact⟨gq2,gBe⟩
   ·replace H:=gI H
    rcases H with⟨c24,-,-,H⟩|⟨c24,-,-,H⟩
    ·have c24b0:(a0_0.toList==([]:List UInt8))=true:=beq_iff_eq.mpr c24
     have c24b1:(a0_0.toList != ([]:List UInt8))=false:=bne_eq_false_iff_eq.mpr c24
     clear c24
     replace H:=gD H
     obtain⟨t435,A25,H⟩:=H
     replace H:=gB H
     rcases H with⟨rfl,H⟩|⟨rfl,H⟩
     ·replace H:=gD H
      obtain⟨t436,A27,H⟩:=H
      exact spec_MsgOk.e1
     ·exact spec_MsgOk.e1
    ·have c24b0:(a0_0.toList==([]:List UInt8))=false:=beq_eq_false_iff_ne.mpr c24
     have c24b1:(a0_0.toList != ([]:List UInt8))=true:=bne_iff_ne.mpr c24
     replace H:=gD H
     obtain⟨t437,A34,H⟩:=H
     replace H:=gB H
     rcases H with⟨rfl,H⟩|⟨rfl,H⟩
     ·replace H:=gD H
      obtain⟨t438,A36,H⟩:=H
      exact spec_MsgOk.e1
     ·exact spec_MsgOk.e1


def spec_l7free.f (k:Nat) (a0:Int):Option (Bool):=(spec_l1lower.f a0).bind fun t227=>(if t227≥97 then(if t227≤122 then(some true) else((spec_l1digit.f a0).bind fun t228=>(if t228=true then(some true) else((spec_l1has.f k (⟨#[45,46,95,126]⟩:ByteArray) a0).bind fun t229=>(some t229))))) else((spec_l1digit.f a0).bind fun t230=>(if t230=true then(some true) else((spec_l1has.f k (⟨#[45,46,95,126]⟩:ByteArray) a0).bind fun t231=>(some t231)))))
theorem spec_l7free.mono : ∀ a0 k,LeO (spec_l7free.f k a0) (spec_l7free.f (k+1) a0):=by
 intro a0 k
 unfold spec_l7free.f
 repeat' first
   |(with_reducible exact spec_l1has.mono ..)
   |(with_reducible exact LeO.refl ..)
   |(with_reducible exact LeO.none ..)
   |(with_reducible refine LeO.ite ?_ ?_)
   |(with_reducible refine LeO.bind ?_ (fun _=>?_))
theorem spec_l7free.e0 {p:Prop} (h:p:=by
  obtain rfl:=Option.some.inj H
  go_enter Tryz.func212,Tryz.ntmps212
  go_wp2_with(first|((with_reducible refine gate_callee (f:=125) rfl ?_);refine goesL_ (some 5) rfl rfl Tryz.func125 (by kernel_rfl) rfl #[.int .u8 a0] rfl gq0 ?_;(with_reducible refine(spec_l1lower.calls a0 t227 _ A2.out).mono ?_);rintro e w' ⟨rfl,⟨nd,rfl⟩⟩;refine⟨_,rfl,?_⟩)|(go_at_call 77;(with_reducible refine(spec_l1digit.calls a0 false _ A8.out).mono ?_);rintro e w' ⟨rfl,⟨nd,rfl⟩⟩)|(go_at_call 186;(with_reducible refine(spec_l1has.calls k (⟨#[45,46,95,126]⟩:ByteArray) a0 t231 _ A10.out).mono ?_);rintro e w' ⟨rfl,⟨nd,rfl⟩⟩)|(go_at_call 77;(with_reducible refine(spec_l1digit.calls a0 true _ A8.out).mono ?_);rintro e w' ⟨rfl,⟨nd,rfl⟩⟩)|(go_at_call 77;(with_reducible refine(spec_l1digit.calls a0 false _ A5.out).mono ?_);rintro e w' ⟨rfl,⟨nd,rfl⟩⟩)|(go_at_call 186;(with_reducible refine(spec_l1has.calls k (⟨#[45,46,95,126]⟩:ByteArray) a0 t229 _ A7.out).mono ?_);rintro e w' ⟨rfl,⟨nd,rfl⟩⟩)|(go_at_call 77;(with_reducible refine(spec_l1digit.calls a0 true _ A5.out).mono ?_);rintro e w' ⟨rfl,⟨nd,rfl⟩⟩))
  go_ret
  exact⟨gq4,gq5⟩):p:=h
set_option maxHeartbeats 8000000 in
set_option maxRecDepth 100000 in
theorem spec_l7free.calls (k:Nat) (a0:Int) (r:Bool) (w:World) (h:spec_l7free.f k a0=some r) :
  Calls Tryz.prog 212 #[.int .u8 a0] w fun e w'=>e = .returned (.bool r)∧Drawn0 w w':=by
 have H:=h
 clear h
 unfold spec_l7free.f at H
 replace H:=gD H
 obtain⟨t227,A2,H⟩:=H
 replace H:=gI H
 rcases H with⟨c3,-,-,H⟩|⟨c3,-,-,H⟩
 ·have c3b0:decide (97≤t227)=true:=decide_eq_true c3
  clear c3
  replace H:=gI H
  rcases H with⟨-,c4b0,-,H⟩|⟨-,c4b0,-,H⟩
  ·exact spec_l7free.e0
  ·replace H:=gD H
   obtain⟨t228,A5,H⟩:=H
   replace H:=gB H
   rcases H with⟨rfl,H⟩|⟨rfl,H⟩
   ·exact spec_l7free.e0
   ·replace H:=gD H
    obtain⟨t229,A7,H⟩:=H
    exact spec_l7free.e0
 ·have c3b0:decide (97≤t227)=false:=decide_eq_false c3
  clear c3
  replace H:=gD H
  obtain⟨t230,A8,H⟩:=H
  replace H:=gB H
  rcases H with⟨rfl,H⟩|⟨rfl,H⟩
  ·exact spec_l7free.e0
  ·replace H:=gD H
   obtain⟨t231,A10,H⟩:=H
   exact spec_l7free.e0

def spec_l7upper.f (a0:Int):Option (Int):=if a0≥97 then(if a0≤122 then(some ((a0-32)%256)) else(some a0)) else(some a0)
set_option maxHeartbeats 8000000 in
set_option maxRecDepth 100000 in
theorem spec_l7upper.calls (a0:Int) (r:Int) (w:World) (h:spec_l7upper.f a0=some r) :
  Calls Tryz.prog 213 #[.int .u8 a0] w fun e w'=>e = .returned (.int .u8 r)∧Drawn0 w w':=by
 have H:=h
 clear h
 unfold spec_l7upper.f at H
 replace H:=gI H
 rcases H with⟨c2,-,-,H⟩|⟨c2,-,-,H⟩
 ·have c2b0:decide (97≤a0)=true:=decide_eq_true c2
  clear c2
  replace H:=gI H
  rcases H with⟨-,c3b0,-,H⟩|⟨-,c3b0,-,H⟩
  ·obtain rfl:=Option.some.inj H
   go_enter Tryz.func213,Tryz.ntmps213
   go_wp2
   go_ret
   exact⟨gq4,gq5⟩
  ·obtain rfl:=Option.some.inj H
   go_enter Tryz.func213,Tryz.ntmps213
   go_wp2
   go_ret
   exact⟨gq4,gq5⟩
 ·have c2b0:decide (97≤a0)=false:=decide_eq_false c2
  clear c2
  obtain rfl:=Option.some.inj H
  go_enter Tryz.func213,Tryz.ntmps213
  go_wp2
  go_ret
  exact⟨gq4,gq5⟩

end Go.Proofs.YtfhllanhldbkkaaGreatDoor.P
