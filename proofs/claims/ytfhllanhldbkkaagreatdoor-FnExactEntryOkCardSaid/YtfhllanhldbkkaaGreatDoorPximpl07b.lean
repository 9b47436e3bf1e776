import Derived.Test.YtfhllanhldbkkaaGreatDoorPx0
import Derived.Test.YtfhllanhldbkkaaGreatDoorPximpl01a
import Derived.Test.YtfhllanhldbkkaaGreatDoorPximpl06a
import Derived.Test.YtfhllanhldbkkaaGreatDoorWC
import Derived.Test.YtfhllanhldbkkaaGreatDoorPxliba
namespace Go.Proofs.YtfhllanhldbkkaaGreatDoor.P
open Go.RowKit Go.Proofs.YtfhllanhldbkkaaGreatDoorW.PrintWords Go.Proofs.YtfhllanhldbkkaaGreatDoorW.PrintLast Go.Proofs.YtfhllanhldbkkaaGreatDoorW.PrintMore
attribute [local go_sem] max2_int min2_int max_two min_two max_three min_three max_four min_four   -- for this text's walks alone
set_option linter.unusedVariables false
set_option linter.unusedSimpArgs false

mutual
def impl_unescaped.l0 : Nat→ByteArray→List Int→Int→Option (ByteArray)
 |0,_,_,_=>none
 |k+1,x0,x3,x4=>if x4<(x0.size:Int) then(if 0≤x4 then(if(bt x0 x4)=37 then(if(wrap64 (x4+2))≥(x0.size:Int) then(impl_unescaped.j1 k x0 x3 x4 true) else(if 0≤(wrap64 (x4+1)) then(if(wrap64 (x4+1))<(x0.size:Int) then((impl_hexOf.f k (bt x0 (wrap64 (x4+1)))).bind fun t567=>(if t567<0 then(impl_unescaped.j1 k x0 x3 x4 true) else(if 0≤(wrap64 (x4+2)) then(if(wrap64 (x4+2))<(x0.size:Int) then((impl_hexOf.f k (bt x0 (wrap64 (x4+2)))).bind fun t568=>(impl_unescaped.j1 k x0 x3 x4 (decide (t568<0)))) else(none)) else(none)))) else(none)) else(none))) else(impl_unescaped.j1 k x0 x3 x4 true)) else(none)) else(some (strOfNums x3))
def impl_unescaped.j1 : Nat→ByteArray→List Int→Int→Bool→Option (ByteArray)
 |0,_,_,_,_=>none
 |k+1,x0,x3,x4,x38=>if x38=true then(if 0≤x4 then(if x4<(x0.size:Int) then(if x3.length<140737488355328 then(impl_unescaped.l0 k x0 (x3 ++ [bt x0 x4]) (wrap64 (x4+1))) else(none)) else(none)) else(none)) else(if 0≤(wrap64 (x4+1)) then(if(wrap64 (x4+1))<(x0.size:Int) then((impl_hexOf.f k (bt x0 (wrap64 (x4+1)))).bind fun t572=>(if 0≤(wrap64 (x4+2)) then(if(wrap64 (x4+2))<(x0.size:Int) then((impl_hexOf.f k (bt x0 (wrap64 (x4+2)))).bind fun t573=>((impl_isFree.f ((wrap64 ((wrap64 (16*t572))+t573))%256)).bind fun t574=>(if t574=true then(if x3.length<140737488355328 then(impl_unescaped.l0 k x0 (x3 ++ [(wrap64 ((wrap64 (16*t572))+t573))%256]) (wrap64 ((wrap64 (x4+2))+1))) else(none)) else(if 0≤(((wrap64 ((wrap64 (16*t572))+t573))%256) / 16) then(if(((wrap64 ((wrap64 (16*t572))+t573))%256) / 16)<16 then(if 0≤(Go.bits .and .u8 ((wrap64 ((wrap64 (16*t572))+t573))%256) 15) then(if(Go.bits .and .u8 ((wrap64 ((wrap64 (16*t572))+t573))%256) 15)<16 then((some (([37,bt (⟨#[48,49,50,51,52,53,54,55,56,57,65,66,67,68,69,70]⟩:ByteArray) (((wrap64 ((wrap64 (16*t572))+t573))%256) / 16),bt (⟨#[48,49,50,51,52,53,54,55,56,57,65,66,67,68,69,70]⟩:ByteArray) (Go.bits .and .u8 ((wrap64 ((wrap64 (16*t572))+t573))%256) 15)]:List Int):List Int)).bind fun y578=>(if x3.length+y578.length<140737488355328 then(impl_unescaped.l0 k x0 (x3++y578) (wrap64 ((wrap64 (x4+2))+1))) else(none))) else(none)) else(none)) else(none)) else(none))))) else(none)) else(none))) else(none)) else(none))
end
def impl_unescaped.f (k:Nat) (a0:ByteArray):Option (ByteArray):=impl_unescaped.l0 k a0 ([]:List Int) 0
def impl_unescaped.T7 : Bool×List (List Nat×List Nat):=(true,[([],[]),([],[]),([1],[1]),([0,2],[0,2]),([3],[3]),([4],[4]),([],[]),([],[]),([7],[7]),([6,8],[6,8]),([9,4],[9]),([5,10],[5,10]),([11],[11]),([12,10,0,1,2,3,4,5,6,7,8,9,10,11,12],[12])])
def impl_unescaped.B7 : List Nat:=[0,0,2,7,15,31,0,0,128,448,991,2047,4095,8191]
theorem impl_unescaped.tab7 : rtab .any (opsOf Tryz.f197 7)=impl_unescaped.T7:=by kernel_rfl
theorem impl_unescaped.bits7 : waitsOk impl_unescaped.T7.2 impl_unescaped.B7=true:=by kernel_rfl
def impl_unescaped.T10 : Bool×List (List Nat×List Nat):=(true,[([],[]),([],[]),([1],[1]),([2],[2]),([],[]),([4],[4]),([5],[5]),([3,6],[3,6]),([0,7],[0,7]),([8,8,0,1,2,3,4,5,6,7,8],[0,8])])
def impl_unescaped.B10 : List Nat:=[0,0,2,6,0,16,48,126,255,511]
theorem impl_unescaped.tab10 : rtab .any (opsOf Tryz.f197 10)=impl_unescaped.T10:=by kernel_rfl
theorem impl_unescaped.bits10 : waitsOk impl_unescaped.T10.2 impl_unescaped.B10=true:=by kernel_rfl
theorem impl_unescaped.e0 {p:Prop} (h:p:=by
  have H':=Aside0.mk H
  clear H
  have p5:0≤(x4_1:Int):=of_decide_eq_true gq3
  have q5:x4_1<(a0.size:Int):=of_decide_eq_true gq3
  have hx5:=bt_at a0 x4_1
  replace p5:=eq_true p5
  replace q5:=eq_true q5
  go_wp2
  go_meet
  case rel=>exact⟨_,(true),gq4,H',⟨gq40⟩,⟨gRo⟩,⟨gBe⟩⟩):p:=h
set_option maxHeartbeats 8000000 in
set_option maxRecDepth 100000 in
theorem impl_unescaped.calls (k:Nat) (a0:ByteArray) (r:ByteArray) (w:World) (h:impl_unescaped.f k a0=some r) :
  Calls Tryz.prog 197 #[.string a0] w fun e w'=>e = .returned (.string r)∧Below w.heap.size w w':=by
 have HB:=Aside0.mk (Below.refl w.heap.size w)
 have H:=h
 clear h
 unfold impl_unescaped.f at H
 have H':=Aside0.mk H
 clear H
 go_enter Tryz.func197,Tryz.ntmps197
 go_wp2
 go_loopg [3,4] k (fun kq v3 v4 w'=>∃(x3_1:List Int) (x4_1:Int),v4 = .int .i64 x4_1∧Aside0 (impl_unescaped.l0 kq a0 x3_1 x4_1=some r)∧Aside0 (kq≤k)∧Aside0 (Kd.R (Kd.int .u8) 5 w' w.heap.size (fun _=>True) v3 x3_1)∧Aside0 (Below w.heap.size w w'))
 case atStart=>exact⟨(([]:List Int)),(0),gq4,H',⟨Nat.le_refl _⟩,⟨gq11⟩,⟨gBe⟩⟩
 case round=>
  clear H'
  obtain⟨x3_1,x4_1,rfl,HA,HK1,HO_3,HB⟩:=hrel
  cases gk with
  |zero=>exact absurd HA.out (by simp[impl_unescaped.l0])
  |succ k1=>
   have H:=HA.out
   clear HA
   simp only[impl_unescaped.l0] at H
   replace H:=gI H
   rcases H with⟨-,c2b0,-,H⟩|⟨-,c2b0,-,H⟩
   ·have HC3:=Aside0.mk H
    clear H
    go_upto_region 5 with(fail)
    go_cut [38] (fun v38 wc=>∃(kq:Nat) (x38_2:Bool),v38 = .bool x38_2∧Aside0 (impl_unescaped.j1 kq a0 x3_1 x4_1 x38_2=some r)∧Aside0 (kq≤k1)∧Aside0 (Kd.R (Kd.int .u8) 5 wc w.heap.size (fun _=>True) u3 x3_1)∧Aside0 (Below w.heap.size w wc))
    case first=>
     have H:=HC3.out
     clear HC3
     replace H:=gN H
     obtain⟨-,c4b0,-,H⟩:=H
     (first|rw[c4b0]|(simp only[i64_w,i32_w];rw[c4b0])|skip)
     replace H:=gI H
     rcases H with⟨c6,-,-,H⟩|⟨c6,-,-,H⟩
     ·have c6b0:((bt a0 x4_1)==37)=true:=beq_iff_eq.mpr c6
      have c6b1:((bt a0 x4_1) != 37)=false:=bne_eq_false_iff_eq.mpr c6
      clear c6
      replace H:=gI H
      rcases H with⟨c7,-,-,H⟩|⟨c7,-,-,H⟩
      ·have c7b0:decide ((a0.size:Int)≤(wrap64 (x4_1+2)))=true:=decide_eq_true c7
       clear c7
       exact impl_unescaped.e0
      ·have c7b0:decide ((a0.size:Int)≤(wrap64 (x4_1+2)))=false:=decide_eq_false c7
       clear c7
       obtain⟨ji8,hji8⟩:∃ j_:Int,(wrap64 (x4_1+1))=j_:=⟨_,rfl⟩
       replace H:(if 0≤(ji8) then(if(ji8)<(a0.size:Int) then((impl_hexOf.f k1 (bt a0 (ji8))).bind fun t567=>(if t567<0 then(impl_unescaped.j1 k1 a0 x3_1 x4_1 true) else(if 0≤(wrap64 (x4_1+2)) then(if(wrap64 (x4_1+2))<(a0.size:Int) then((impl_hexOf.f k1 (bt a0 (wrap64 (x4_1+2)))).bind fun t568=>(impl_unescaped.j1 k1 a0 x3_1 x4_1 (decide (t568<0)))) else(none)) else(none)))) else(none)) else(none))=some r:=by first|(rw[hji8] at H;exact H)|(simp only[hji8] at H ⊢;exact H)
       have hji8w:(IntKind.i64.wrap (x4_1+1))=ji8:=(i64_w _).trans hji8
       replace H:=gN H
       obtain⟨-,c9b0,-,H⟩:=H
       replace H:=gN H
       obtain⟨-,c10b0,-,H⟩:=H
       replace H:=gD H
       obtain⟨t567,A12,H⟩:=H
       replace H:=gI H
       rcases H with⟨-,c13b0,-,H⟩|⟨-,c13b0,-,H⟩
       ·have H':=Aside0.mk H
        clear H
        have p5:0≤(x4_1:Int):=of_decide_eq_true gq3
        have q5:x4_1<(a0.size:Int):=of_decide_eq_true gq3
        have hx5:=bt_at a0 x4_1
        replace p5:=eq_true p5
        replace q5:=eq_true q5
        have p11:0≤((ji8):Int):=of_decide_eq_true gq3
        have q11:(ji8)<(a0.size:Int):=of_decide_eq_true gq3
        have hx11:=bt_at a0 (ji8)
        replace p11:=eq_true p11
        replace q11:=eq_true q11
        go_wp2_with((go_at_call 219;(with_reducible refine(impl_hexOf.calls k1 (bt a0 (ji8)) t567 _ A12.out).mono ?_);rintro e w' ⟨rfl,⟨nd,rfl⟩⟩))
        go_meet
        case rel=>exact⟨_,(true),gq4,H',⟨gq40⟩,⟨gRo⟩,⟨gBe⟩⟩
       ·obtain⟨ji14,hji14⟩:∃ j_:Int,(wrap64 (x4_1+2))=j_:=⟨_,rfl⟩
        replace H:(if 0≤(ji14) then(if(ji14)<(a0.size:Int) then((impl_hexOf.f k1 (bt a0 (ji14))).bind fun t568=>(impl_unescaped.j1 k1 a0 x3_1 x4_1 (decide (t568<0)))) else(none)) else(none))=some r:=by first|(rw[hji14] at H;exact H)|(simp only[hji14] at H ⊢;exact H)
        (try rw[hji14] at c7b0)
        (try rw[hji14] at A12)
        have hji14w:(IntKind.i64.wrap (x4_1+2))=ji14:=(i64_w _).trans hji14
        replace H:=gN H
        obtain⟨-,c15b0,-,H⟩:=H
        replace H:=gN H
        obtain⟨-,c16b0,-,H⟩:=H
        replace H:=gD H
        obtain⟨t568,A18,H⟩:=H
        have H':=Aside0.mk H
        clear H
        have p5:0≤(x4_1:Int):=of_decide_eq_true gq3
        have q5:x4_1<(a0.size:Int):=of_decide_eq_true gq3
        have hx5:=bt_at a0 x4_1
        replace p5:=eq_true p5
        replace q5:=eq_true q5
        have p11:0≤((ji8):Int):=of_decide_eq_true gq3
        have q11:(ji8)<(a0.size:Int):=of_decide_eq_true gq3
        have hx11:=bt_at a0 (ji8)
        replace p11:=eq_true p11
        replace q11:=eq_true q11
        go_wp2_with(first|(go_at_call 219;(with_reducible refine(impl_hexOf.calls k1 (bt a0 (ji8)) t567 _ A12.out).mono ?_);rintro e w' ⟨rfl,⟨nd,rfl⟩⟩;have p17:0≤((ji14):Int):=of_decide_eq_true gq3;have q17:(ji14)<(a0.size:Int):=of_decide_eq_true gq3;have hx17:=bt_at a0 (ji14);replace p17:=eq_true p17;replace q17:=eq_true q17)|(go_at_call 219;(with_reducible refine(impl_hexOf.calls k1 (bt a0 (ji14)) t568 _ A18.out).mono ?_);rintro e w' ⟨rfl,⟨nd,rfl⟩⟩))
        go_meet
        case rel=>exact⟨_,(decide (t568<0)),gq4,H',⟨gq40⟩,⟨gRo⟩,⟨gBe⟩⟩
     ·have c6b0:((bt a0 x4_1)==37)=false:=beq_eq_false_iff_ne.mpr c6
      have c6b1:((bt a0 x4_1) != 37)=true:=bne_iff_ne.mpr c6
      exact impl_unescaped.e0
    case rest=>
     clear HC3
     try clear c2b0
     obtain⟨kq,x38_2,rfl,HA,HJ2,HO_3,HB⟩:=hcut
     cases kq with
     |zero=>exact absurd HA.out (by simp[impl_unescaped.j1])
     |succ kj2=>
      have H:=HA.out
      clear HA
      simp only[impl_unescaped.j1] at H
      replace H:=gB H
      rcases H with⟨rfl,H⟩|⟨rfl,H⟩
      ·replace H:=gN H
       obtain⟨-,c20b0,-,H⟩:=H
       replace H:=gN H
       obtain⟨-,c21b0,-,H⟩:=H
       replace H:=gN H
       obtain⟨c23,-,-,H⟩:=H
       have LMc23:=Aside0.mk c23
       clear c23
       obtain⟨y569,hy569⟩:∃ y_:List Int,y_=(x3_1 ++ [bt a0 x4_1]):=⟨_,rfl⟩
       replace H:(impl_unescaped.l0 kj2 a0 y569 (wrap64 (x4_1+1)))=some r:=by first|(rw[hy569];with_reducible exact H)|(have H2_:=(Option.bind_some _ _).symm.trans H;rw[hy569];with_reducible exact H2_)|(have H2_:=(Option.bind_some _ _).symm.trans H;with_reducible exact H2_)|with_reducible exact H|(rw[hy569];exact H)|exact H
       have Ny569:=Aside0.mk hy569
       clear hy569
       have H':=Aside0.mk H
       clear H
       have p22:0≤(x4_1:Int):=of_decide_eq_true gq3
       have q22:x4_1<(a0.size:Int):=of_decide_eq_true gq3
       have hx22:=bt_at a0 x4_1
       replace p22:=eq_true p22
       replace q22:=eq_true q22
       go_wp2_with(((with_reducible refine gate_builtin (b:=.append) (xs:=#[.tmp 39,.tmp 43]) rfl ?_);(try(refine gate_guard (by rfl) ?_;dsimp only));at_builtin;refine Kd.R_append (Kd.int .u8) (w0:=w) w.heap.size rfl (.tmp 39) (.tmp 43) 100 5 (.int .u8 0) 1 rfl Tryz.underlying100 info5 rfl (by decide) (by omega) u3 x3_1 (bt a0 x4_1) [.int .u8 (bt a0 x4_1)] (fun _=>True) (fun _=>False) rfl rfl ?aP (fun _ hk=>hk.elim) ?aF ?aO ?aB ?aS ?aL ?_;(case aP=>exact rfl);(case aB=>exact gBe);(case aF=>exact(fun _ _=>trivial));(case aO=>exact gq9);(case aS=>exact(below_size gBe));(case aL=>have:=LMc23.out;omega);intro v570 wq0a ho hb hg hat;rw[← Ny569.out] at ho;have nq0b_:=Aside0.mk (hb);have nq0c_:=Aside0.mk (ho);clear HB;clear HO_3;have HB:=nq0b_;have HO571:=nq0c_;clear nq0b_ nq0c_;clear ho hb hg hat))
       go_roundg kj2
       case measure=>have:=HK1.out;have:=HJ2.out;omega
       case rel=>exact⟨(y569),(wrap64 (x4_1+1)),gq4,H',⟨gq76⟩,⟨gRo⟩,⟨gBe⟩⟩
      ·obtain⟨ji25,hji25⟩:∃ j_:Int,(wrap64 (x4_1+1))=j_:=⟨_,rfl⟩
       replace H:(if 0≤(ji25) then(if(ji25)<(a0.size:Int) then((impl_hexOf.f kj2 (bt a0 (ji25))).bind fun t572=>(if 0≤(wrap64 (x4_1+2)) then(if(wrap64 (x4_1+2))<(a0.size:Int) then((impl_hexOf.f kj2 (bt a0 (wrap64 (x4_1+2)))).bind fun t573=>((impl_isFree.f ((wrap64 ((wrap64 (16*t572))+t573))%256)).bind fun t574=>(if t574=true then(if x3_1.length<140737488355328 then(impl_unescaped.l0 kj2 a0 (x3_1 ++ [(wrap64 ((wrap64 (16*t572))+t573))%256]) (wrap64 ((wrap64 (x4_1+2))+1))) else(none)) else(if 0≤(((wrap64 ((wrap64 (16*t572))+t573))%256) / 16) then(if(((wrap64 ((wrap64 (16*t572))+t573))%256) / 16)<16 then(if 0≤(Go.bits .and .u8 ((wrap64 ((wrap64 (16*t572))+t573))%256) 15) then(if(Go.bits .and .u8 ((wrap64 ((wrap64 (16*t572))+t573))%256) 15)<16 then((some (([37,bt (⟨#[48,49,50,51,52,53,54,55,56,57,65,66,67,68,69,70]⟩:ByteArray) (((wrap64 ((wrap64 (16*t572))+t573))%256) / 16),bt (⟨#[48,49,50,51,52,53,54,55,56,57,65,66,67,68,69,70]⟩:ByteArray) (Go.bits .and .u8 ((wrap64 ((wrap64 (16*t572))+t573))%256) 15)]:List Int):List Int)).bind fun y578=>(if x3_1.length+y578.length<140737488355328 then(impl_unescaped.l0 kj2 a0 (x3_1++y578) (wrap64 ((wrap64 (x4_1+2))+1))) else(none))) else(none)) else(none)) else(none)) else(none))))) else(none)) else(none))) else(none)) else(none))=some r:=by first|(rw[hji25] at H;exact H)|(simp only[hji25] at H ⊢;exact H)
       have hji25w:(IntKind.i64.wrap (x4_1+1))=ji25:=(i64_w _).trans hji25
       replace H:=gN H
       obtain⟨-,c26b0,-,H⟩:=H
       replace H:=gN H
       obtain⟨-,c27b0,-,H⟩:=H
       replace H:=gD H
       obtain⟨t572,A29,H⟩:=H
       obtain⟨ji30,hji30⟩:∃ j_:Int,(wrap64 (x4_1+2))=j_:=⟨_,rfl⟩
       replace H:(if 0≤(ji30) then(if(ji30)<(a0.size:Int) then((impl_hexOf.f kj2 (bt a0 (ji30))).bind fun t573=>((impl_isFree.f ((wrap64 ((wrap64 (16*t572))+t573))%256)).bind fun t574=>(if t574=true then(if x3_1.length<140737488355328 then(impl_unescaped.l0 kj2 a0 (x3_1 ++ [(wrap64 ((wrap64 (16*t572))+t573))%256]) (wrap64 ((ji30)+1))) else(none)) else(if 0≤(((wrap64 ((wrap64 (16*t572))+t573))%256) / 16) then(if(((wrap64 ((wrap64 (16*t572))+t573))%256) / 16)<16 then(if 0≤(Go.bits .and .u8 ((wrap64 ((wrap64 (16*t572))+t573))%256) 15) then(if(Go.bits .and .u8 ((wrap64 ((wrap64 (16*t572))+t573))%256) 15)<16 then((some (([37,bt (⟨#[48,49,50,51,52,53,54,55,56,57,65,66,67,68,69,70]⟩:ByteArray) (((wrap64 ((wrap64 (16*t572))+t573))%256) / 16),bt (⟨#[48,49,50,51,52,53,54,55,56,57,65,66,67,68,69,70]⟩:ByteArray) (Go.bits .and .u8 ((wrap64 ((wrap64 (16*t572))+t573))%256) 15)]:List Int):List Int)).bind fun y578=>(if x3_1.length+y578.length<140737488355328 then(impl_unescaped.l0 kj2 a0 (x3_1++y578) (wrap64 ((ji30)+1))) else(none))) else(none)) else(none)) else(none)) else(none))))) else(none)) else(none))=some r:=by first|(rw[hji30] at H;exact H)|(simp only[hji30] at H ⊢;exact H)
       (try rw[hji30] at A29)
       have hji30w:(IntKind.i64.wrap (x4_1+2))=ji30:=(i64_w _).trans hji30
       replace H:=gN H
       obtain⟨-,c31b0,-,H⟩:=H
       replace H:=gN H
       obtain⟨-,c32b0,-,H⟩:=H
       replace H:=gD H
       obtain⟨t573,A34,H⟩:=H
       replace H:=gD H
       obtain⟨t574,A35,H⟩:=H
       replace H:=gB H
       rcases H with⟨rfl,H⟩|⟨rfl,H⟩
       ·replace H:=gN H
        obtain⟨c37,-,-,H⟩:=H
        have LMc37:=Aside0.mk c37
        clear c37
        obtain⟨y575,hy575⟩:∃ y_:List Int,y_=(x3_1 ++ [(wrap64 ((wrap64 (16*t572))+t573))%256]):=⟨_,rfl⟩
        replace H:(impl_unescaped.l0 kj2 a0 y575 (wrap64 ((ji30)+1)))=some r:=by first|(rw[hy575];with_reducible exact H)|(have H2_:=(Option.bind_some _ _).symm.trans H;rw[hy575];with_reducible exact H2_)|(have H2_:=(Option.bind_some _ _).symm.trans H;with_reducible exact H2_)|with_reducible exact H|(rw[hy575];exact H)|exact H
        have Ny575:=Aside0.mk hy575
        clear hy575
        have H':=Aside0.mk H
        clear H
        try go_wp2
        replace HO_3:=Aside0.mk (Kd.R_drew HO_3.out)
        replace HB:=Aside0.mk (below_drew1 HB.out)
        have p28:0≤((ji25):Int):=of_decide_eq_true gq3
        have q28:(ji25)<(a0.size:Int):=of_decide_eq_true gq3
        have hx28:=bt_at a0 (ji25)
        replace p28:=eq_true p28
        replace q28:=eq_true q28
        have p33:0≤((ji30):Int):=of_decide_eq_true gq3
        have q33:(ji30)<(a0.size:Int):=of_decide_eq_true gq3
        have hx33:=bt_at a0 (ji30)
        replace p33:=eq_true p33
        replace q33:=eq_true q33
        refine startF (n:=14) (S:=fun w'=>True) (ds:=[]) trivial (fun hHeld=>?_);refine with_tabW impl_unescaped.tab7 impl_unescaped.bits7 (fun HT_ HW_=>?_)
        generalize wc.drew=wq1a at HO_3 HB hHeld ⊢
        repeat(first|refine takeF ?_ (hy:=Or.inl ⟨by rfl,by intro w' _;go_simp;with_reducible rfl⟩)|refine pureF ?_)
        refine pureT 6 (some 51) ?_
        refine pureT 7 (some 52) ?_
        refine pureT 8 (some 53) ?_
        refine takeT_ 9 (some 54) (hy:=Or.inl ⟨by rfl,by intro w' _;go_simp;with_reducible rfl⟩) ?_
        refine oneF (fun K hK=>?_)
        refine goes_ Tryz.func219 (by kernel_rfl) rfl #[.int .u8 (bt a0 (ji25))] (by rfl) rfl rfl (by(try simp only[List.map_toArray,List.map_cons,List.map_nil]);first|done|(simp only[hji25];rfl)|rfl|(simp only[List.length_drop,List.length_take];rfl)) ?_
        with_reducible refine(impl_hexOf.calls kj2 (bt a0 (ji25)) t572 _ A29.out).mono ?_
        rintro e w' ⟨rfl,⟨nd,rfl⟩⟩
        refine⟨_,rfl,?_⟩
        refine hK.out _ _ trivial (fun hHeld=>?_)
        clear hK K
        refine normF ?_
        repeat(first|refine pureF ?_)
        refine oneF (fun K hK=>?_)
        refine goes_ Tryz.func219 (by kernel_rfl) rfl #[.int .u8 (bt a0 (ji30))] (by rfl) rfl rfl (by(try simp only[List.map_toArray,List.map_cons,List.map_nil]);first|done|(simp only[hji30];rfl)|rfl|(simp only[List.length_drop,List.length_take];rfl)) ?_
        with_reducible refine(impl_hexOf.calls kj2 (bt a0 (ji30)) t573 _ A34.out).mono ?_
        rintro e w' ⟨rfl,⟨nd,rfl⟩⟩
        refine⟨_,rfl,?_⟩
        refine hK.out _ _ trivial (fun hHeld=>?_)
        clear hK K
        refine normF ?_
        repeat(first|refine pureF ?_)
        refine done_ (done_of HT_.out (by kernel_rfl)) ?_
        try go_wp2_with(first|((with_reducible refine gate_callee (f:=220) rfl ?_);refine goesL_ (some 59) rfl rfl Tryz.func220 (by kernel_rfl) rfl #[.int .u8 ((wrap64 ((wrap64 (16*t572))+t573))%256)] rfl gq0 ?_;(with_reducible refine(impl_isFree.calls ((wrap64 ((wrap64 (16*t572))+t573))%256) true _ A35.out).mono ?_);rintro e w' ⟨rfl,⟨nd,rfl⟩⟩;refine⟨_,rfl,?_⟩)|((with_reducible refine gate_builtin (b:=.append) (xs:=#[.tmp 60,.tmp 62]) rfl ?_);(try(refine gate_guard (by rfl) ?_;dsimp only));at_builtin;refine Kd.R_append (Kd.int .u8) (w0:=w) w.heap.size rfl (.tmp 60) (.tmp 62) 100 5 (.int .u8 0) 1 rfl Tryz.underlying100 info5 rfl (by decide) (by omega) u3 x3_1 ((wrap64 ((wrap64 (16*t572))+t573))%256) [.int .u8 ((wrap64 ((wrap64 (16*t572))+t573))%256)] (fun _=>True) (fun _=>False) rfl rfl ?aP (fun _ hk=>hk.elim) ?aF ?aO ?aB ?aS ?aL ?_;(case aP=>exact rfl);(case aB=>exact gBe);(case aF=>exact(fun _ _=>trivial));(case aO=>exact gq9);(case aS=>exact(below_size gBe));(case aL=>have:=LMc37.out;omega);intro v576 wq2a ho hb hg hat;rw[← Ny575.out] at ho;have nq2b_:=Aside0.mk (hb);have nq2c_:=Aside0.mk (ho);clear HB;clear HO_3;have HB:=nq2b_;have HO577:=nq2c_;clear nq2b_ nq2c_;clear ho hb hg hat))
        go_roundg kj2
        case measure=>have:=HK1.out;have:=HJ2.out;omega
        case rel=>exact⟨(y575),(wrap64 ((ji30)+1)),(by first|rfl|(simp;done)|(simp only[← hji30] <;> (first|rfl|simp))|(simp[*];done)),H',⟨gq76⟩,⟨gRo⟩,⟨gBe⟩⟩
       ·obtain⟨ji40,hji40⟩:∃ j_:Int,(((wrap64 ((wrap64 (16*t572))+t573))%256) / 16)=j_:=⟨_,rfl⟩
        replace H:(if 0≤(ji40) then(if(ji40)<16 then(if 0≤(Go.bits .and .u8 ((wrap64 ((wrap64 (16*t572))+t573))%256) 15) then(if(Go.bits .and .u8 ((wrap64 ((wrap64 (16*t572))+t573))%256) 15)<16 then((some (([37,bt (⟨#[48,49,50,51,52,53,54,55,56,57,65,66,67,68,69,70]⟩:ByteArray) (ji40),bt (⟨#[48,49,50,51,52,53,54,55,56,57,65,66,67,68,69,70]⟩:ByteArray) (Go.bits .and .u8 ((wrap64 ((wrap64 (16*t572))+t573))%256) 15)]:List Int):List Int)).bind fun y578=>(if x3_1.length+y578.length<140737488355328 then(impl_unescaped.l0 kj2 a0 (x3_1++y578) (wrap64 ((ji30)+1))) else(none))) else(none)) else(none)) else(none)) else(none))=some r:=by first|(rw[hji40] at H;exact H)|(simp only[hji40] at H ⊢;exact H)
        (try rw[hji40] at A29)
        (try rw[hji40] at A34)
        (try rw[hji40] at A35)
        replace H:=gN H
        obtain⟨-,c41b0,-,H⟩:=H
        replace H:=gN H
        obtain⟨-,c42b0,-,H⟩:=H
        obtain⟨ji44,hji44⟩:∃ j_:Int,(Go.bits .and .u8 ((wrap64 ((wrap64 (16*t572))+t573))%256) 15)=j_:=⟨_,rfl⟩
        replace H:(if 0≤(ji44) then(if(ji44)<16 then((some (([37,bt (⟨#[48,49,50,51,52,53,54,55,56,57,65,66,67,68,69,70]⟩:ByteArray) (ji40),bt (⟨#[48,49,50,51,52,53,54,55,56,57,65,66,67,68,69,70]⟩:ByteArray) (ji44)]:List Int):List Int)).bind fun y578=>(if x3_1.length+y578.length<140737488355328 then(impl_unescaped.l0 kj2 a0 (x3_1++y578) (wrap64 ((ji30)+1))) else(none))) else(none)) else(none))=some r:=by first|(rw[hji44] at H;exact H)|(simp only[hji44] at H ⊢;exact H)
        (try rw[hji44] at A29)
        (try rw[hji44] at A34)
        (try rw[hji44] at A35)
        replace H:=gN H
        obtain⟨-,c45b0,-,H⟩:=H
        replace H:=gN H
        obtain⟨-,c46b0,-,H⟩:=H
        obtain⟨y578,hy578⟩:∃ y_:List Int,y_=(([37,bt (⟨#[48,49,50,51,52,53,54,55,56,57,65,66,67,68,69,70]⟩:ByteArray) (ji40),bt (⟨#[48,49,50,51,52,53,54,55,56,57,65,66,67,68,69,70]⟩:ByteArray) (ji44)]:List Int)):=⟨_,rfl⟩
        replace H:(if x3_1.length+y578.length<140737488355328 then(impl_unescaped.l0 kj2 a0 (x3_1++y578) (wrap64 ((ji30)+1))) else(none))=some r:=by first|(rw[hy578];with_reducible exact H)|(have H2_:=(Option.bind_some _ _).symm.trans H;rw[hy578];with_reducible exact H2_)|(have H2_:=(Option.bind_some _ _).symm.trans H;with_reducible exact H2_)|with_reducible exact H|(rw[hy578];exact H)|exact H
        have Ny578:=Aside0.mk hy578
        clear hy578
        replace H:=gN H
        obtain⟨c48,-,-,H⟩:=H
        have LMc48:=Aside0.mk c48
        clear c48
        obtain⟨y581,hy581⟩:∃ y_:List Int,y_=(x3_1++y578):=⟨_,rfl⟩
        replace H:(impl_unescaped.l0 kj2 a0 y581 (wrap64 ((ji30)+1)))=some r:=by first|(rw[hy581];with_reducible exact H)|(have H2_:=(Option.bind_some _ _).symm.trans H;rw[hy581];with_reducible exact H2_)|(have H2_:=(Option.bind_some _ _).symm.trans H;with_reducible exact H2_)|with_reducible exact H|(rw[hy581];exact H)|exact H
        have Ny581:=Aside0.mk hy581
        clear hy581
        have H':=Aside0.mk H
        clear H
        try go_wp2
        replace HO_3:=Aside0.mk (Kd.R_drew HO_3.out)
        replace HB:=Aside0.mk (below_drew1 HB.out)
        have p28:0≤((ji25):Int):=of_decide_eq_true gq3
        have q28:(ji25)<(a0.size:Int):=of_decide_eq_true gq3
        have hx28:=bt_at a0 (ji25)
        replace p28:=eq_true p28
        replace q28:=eq_true q28
        have p33:0≤((ji30):Int):=of_decide_eq_true gq3
        have q33:(ji30)<(a0.size:Int):=of_decide_eq_true gq3
        have hx33:=bt_at a0 (ji30)
        replace p33:=eq_true p33
        replace q33:=eq_true q33
        refine startF (n:=14) (S:=fun w'=>True) (ds:=[]) trivial (fun hHeld=>?_);refine with_tabW impl_unescaped.tab7 impl_unescaped.bits7 (fun HT_ HW_=>?_)
        generalize wc.drew=wq1a at HO_3 HB hHeld ⊢
        repeat(first|refine takeF ?_ (hy:=Or.inl ⟨by rfl,by intro w' _;go_simp;with_reducible rfl⟩)|refine pureF ?_)
        refine pureT 6 (some 51) ?_
        refine pureT 7 (some 52) ?_
        refine pureT 8 (some 53) ?_
        refine takeT_ 9 (some 54) (hy:=Or.inl ⟨by rfl,by intro w' _;go_simp;with_reducible rfl⟩) ?_
        refine oneF (fun K hK=>?_)
        refine goes_ Tryz.func219 (by kernel_rfl) rfl #[.int .u8 (bt a0 (ji25))] (by rfl) rfl rfl (by(try simp only[List.map_toArray,List.map_cons,List.map_nil]);first|done|(simp only[hji25];rfl)|rfl|(simp only[List.length_drop,List.length_take];rfl)) ?_
        with_reducible refine(impl_hexOf.calls kj2 (bt a0 (ji25)) t572 _ A29.out).mono ?_
        rintro e w' ⟨rfl,⟨nd,rfl⟩⟩
        refine⟨_,rfl,?_⟩
        refine hK.out _ _ trivial (fun hHeld=>?_)
        clear hK K
        refine normF ?_
        repeat(first|refine pureF ?_)
        refine oneF (fun K hK=>?_)
        refine goes_ Tryz.func219 (by kernel_rfl) rfl #[.int .u8 (bt a0 (ji30))] (by rfl) rfl rfl (by(try simp only[List.map_toArray,List.map_cons,List.map_nil]);first|done|(simp only[hji30];rfl)|rfl|(simp only[List.length_drop,List.length_take];rfl)) ?_
        with_reducible refine(impl_hexOf.calls kj2 (bt a0 (ji30)) t573 _ A34.out).mono ?_
        rintro e w' ⟨rfl,⟨nd,rfl⟩⟩
        refine⟨_,rfl,?_⟩
        refine hK.out _ _ trivial (fun hHeld=>?_)
        clear hK K
        refine normF ?_
        repeat(first|refine pureF ?_)
        refine done_ (done_of HT_.out (by kernel_rfl)) ?_
        try go_wp2_with(((with_reducible refine gate_callee (f:=220) rfl ?_);refine goesL_ (some 59) rfl rfl Tryz.func220 (by kernel_rfl) rfl #[.int .u8 ((wrap64 ((wrap64 (16*t572))+t573))%256)] rfl gq0 ?_;(with_reducible refine(impl_isFree.calls ((wrap64 ((wrap64 (16*t572))+t573))%256) false _ A35.out).mono ?_);rintro e w' ⟨rfl,⟨nd,rfl⟩⟩;refine⟨_,rfl,?_⟩))
        try simp only[show ∀(w:World) (a b:Nat),(w.drewN a).drewN b=w.drewN (a+b) from fun w a b=>by unfold World.drewN;simp[Nat.add_assoc]]
        (try(rw[drewN_self wq1a];generalize hq_:World.drewN wq1a _=wq1a;have nq3a_:Aside0 (Kd.R (Kd.int .u8) 5 wq1a w.heap.size (fun _=>True) u3 x3_1):=⟨by rw[← hq_];exact gq9⟩;have nq3b_:Aside0 (Below w.heap.size w wq1a):=⟨by rw[← hq_];exact gBe⟩;clear HO_3 HB hq_;have HO_3:=nq3a_;have HB:=nq3b_;clear nq3a_ nq3b_))
        replace HO_3:=Aside0.mk (Kd.R_drew HO_3.out)
        replace HB:=Aside0.mk (below_drew1 HB.out)
        have p43:0≤((ji40):Int):=of_decide_eq_true gq3
        have q43:(ji40)<(16:Int):=of_decide_eq_true gq3
        have hx43:=bt_at (⟨#[48,49,50,51,52,53,54,55,56,57,65,66,67,68,69,70]⟩:ByteArray) (ji40)
        replace p43:=eq_true p43
        replace q43:=eq_true q43
        have p47:0≤((ji44):Int):=of_decide_eq_true gq3
        have q47:(ji44)<(16:Int):=of_decide_eq_true gq3
        have hx47:=bt_at (⟨#[48,49,50,51,52,53,54,55,56,57,65,66,67,68,69,70]⟩:ByteArray) (ji44)
        replace p47:=eq_true p47
        replace q47:=eq_true q47
        try simp only[show ∀ n:Int,IntKind.u8.wrap n=n%256 from fun _=>rfl]
        refine startF (n:=10) (S:=fun w'=>True) (ds:=[]) trivial (fun hHeld=>?_);refine with_tabW impl_unescaped.tab10 impl_unescaped.bits10 (fun HT_ HW_=>?_)
        generalize wq1a.drew=wq4a at HO_3 HB hHeld ⊢
        repeat(first|refine takeF ?_ (hy:=Or.inl ⟨by rfl,by intro w' _;go_simp;with_reducible rfl⟩)|refine pureF ?_)
        refine one_ (i:=7) (N:=some 71) #[true,true,true,true,true,true,true,true,false,false] rfl rfl (one_of HT_.out (by kernel_rfl)) (by decide) (fun K hK=>?_)
        refine Kd.R_lit_step (Kd.int .u8) _ 5 ?hg (N:=71) ?hd (xs:=([37,bt (⟨#[48,49,50,51,52,53,54,55,56,57,65,66,67,68,69,70]⟩:ByteArray) (ji40),bt (⟨#[48,49,50,51,52,53,54,55,56,57,65,66,67,68,69,70]⟩:ByteArray) (ji44)]:List Int)) (inner:=[.int .u8 37,.int .u8 (bt (⟨#[48,49,50,51,52,53,54,55,56,57,65,66,67,68,69,70]⟩:ByteArray) (ji40)),.int .u8 (bt (⟨#[48,49,50,51,52,53,54,55,56,57,65,66,67,68,69,70]⟩:ByteArray) (ji44))]) (ok:=fun _=>True) (okp:=fun _=>True) ?hr ?hp (fun _ hk=>hk) trivial (Below.refl _ _) (Nat.le_refl _) (by simp) ?_;(case hd=>rfl);(case hg=>rfl);(case hr=>first|(go_simp;done)|(go_simp;rfl));(case hp=>exact(Reps.one (show Kd.M (Kd.int .u8) _ _ _ 37 [.int .u8 37] from rfl) (Reps.one (show Kd.M (Kd.int .u8) _ _ _ (bt (⟨#[48,49,50,51,52,53,54,55,56,57,65,66,67,68,69,70]⟩:ByteArray) (ji40)) [.int .u8 (bt (⟨#[48,49,50,51,52,53,54,55,56,57,65,66,67,68,69,70]⟩:ByteArray) (ji40))] from rfl) (Reps.one (show Kd.M (Kd.int .u8) _ _ _ (bt (⟨#[48,49,50,51,52,53,54,55,56,57,65,66,67,68,69,70]⟩:ByteArray) (ji44)) [.int .u8 (bt (⟨#[48,49,50,51,52,53,54,55,56,57,65,66,67,68,69,70]⟩:ByteArray) (ji44))] from rfl) (Reps.none _ _)))))
        intro v579 wq5a ho52 hb hg_ hnew_
        clear hg_ hnew_
        (first|rw[← Ny578.out] at ho52|(simp only[Int.reduceToNat] at ho52;rw[← Ny578.out] at ho52))
        have HO580:=Aside0.mk (Kd.R_lower (Kd.R_new' ho52 (Kd.R_lt gq9)) (below_size gBe))
        replace HO_3:=Aside0.mk (Kd.R_elder' gq9 (Kd.R_base ho52) hb)
        replace HB:=beA hb
        clear hb ho52
        obtain⟨Ao54,co54,eo54⟩:=Kd.R_slice HO580.out
        (first|subst eo54|(injection eo54 with f1_ f2_ f3_;have f4_:=f1_.symm;have f5_:=f3_.symm;clear f1_ f2_ f3_;subst f4_;subst f5_))
        refine hK.out _ _ trivial (fun hHeld=>?_)
        clear hK K
        refine normA (some 71) ?_
        refine one_ (i:=8) (N:=some 72) #[true,true,true,true,true,true,true,true,true,false] rfl rfl (one_of HT_.out (by kernel_rfl)) (by decide) (fun K hK=>?_)
        refine Kd.R_append_rows_step (Kd.int .u8) (w0:=w) w.heap.size (by rfl) (.tmp 64) (.tmp 71) 100 5 (.int .u8 0) 1 rfl Tryz.underlying100 info5 rfl (by decide) (by omega) u3 x3_1 y578 _ _ _ (fun k_=>some k_≠(.slice Ao54 y578.length co54:Value).ownBlock) (fun _=>False) rfl rfl ?aO ?aR (fun _ _ h=>h) (fun _ h=>h.elim) ?aF ?aB ?aS ?aL ?_
        (case aR=>repeat(first|exact(Kd.R_reads' HO580.out).2.2|(with_reducible refine Kd.C_alloc ?_ _)|(with_reducible refine Kd.C_drewN ?_ _)|(with_reducible refine Kd.C_drew ?_)))
        (case aB=>exact gBe)
        (case aF=>exact(fun k_ hk=>Kd.fresh' (Kd.R_lt (by(with_reducible repeat(first|apply Kd.R_alloc|apply Kd.R_drewN|apply Kd.R_drew));exact HO580.out)) k_ hk))
        (case aO=>exact(by(with_reducible repeat(first|apply Kd.R_alloc|apply Kd.R_drewN|apply Kd.R_drew));exact Kd.R_mono HO_3.out (fun _ hk=>hk.2)))
        (case aS=>exact(below_size gBe))
        (case aL=>have:=LMc48.out;omega)
        intro v582 wq6a ho hb hg hat
        rw[← Ny581.out] at ho
        have nq3a_:=Aside0.mk (Kd.R_after (ok:=(fun _=>True)) (by(with_reducible repeat(first|apply Kd.R_alloc|apply Kd.R_drewN|apply Kd.R_drew));exact HO580.out) hg hat)
        have nq3b_:=Aside0.mk (hb)
        have nq7a_:=Aside0.mk (ho)
        clear HO580
        clear HB
        clear HO_3
        have HO580:=nq3a_
        have HB:=nq3b_
        have HO583:=nq7a_
        clear nq3a_ nq3b_ nq7a_
        clear ho hb hg hat
        refine hK.out _ _ trivial (fun hHeld=>?_)
        clear hK K
        refine normA (some 72) ?_
        repeat(first|refine pureF ?_)
        refine done_ (done_of HT_.out (by kernel_rfl)) ?_
        try go_wp2
        go_roundg kj2
        case measure=>have:=HK1.out;have:=HJ2.out;omega
        case rel=>exact⟨(y581),(wrap64 ((ji30)+1)),(by first|rfl|(simp;done)|(simp only[← hji30] <;> (first|rfl|simp))|(simp[*];done)),H',⟨gq76⟩,⟨by(with_reducible repeat(first|apply Kd.R_alloc|apply Kd.R_drewN|apply Kd.R_drew));exact Kd.R_mono HO583.out (fun _ hk=>trivial)⟩,⟨gBe⟩⟩
   ·obtain rfl:=Option.some.inj H
    have hcv55:=own_string (P:=Tryz.prog) Tryz.underlying100 Tryz.underlying5 Tryz.underlying9 (Kd.own_of_R HO_3.out)
    go_wp2
    go_ret
    exact⟨gq2,gBe⟩

theorem obE {A:Option Addr} {n c m d:Nat}:(Value.slice A n c).ownBlock=(Value.slice A m d).ownBlock:=by cases A <;> rfl
theorem R_ob {α:Type} {d:Kd α} {e:Nat} {w:World} {base n m c c2:Nat} {A:Option Addr} {v:Value} {xs:List α} (h:d.R e w base (fun k=>some k≠(Value.slice A n c).ownBlock) v xs):d.R e w base (fun k=>some k≠(Value.slice A m c2).ownBlock) v xs:=
 Kd.R_mono h (fun k hk=>by rw[obE (m:=n) (d:=c)];exact hk)

mutual
def impl_CleanPath.j0 : Nat→ByteArray→Bool→Option (ByteArray)
 |0,_,_=>none
 |k+1,x0,x24=>if x24=true then(some (⟨#[]⟩:ByteArray)) else((impl_unescaped.f k x0).bind fun t602=>(if 1≤(t602.size:Int) then((strings_Split.f (t602.extract 1 t602.size) (⟨#[47]⟩:ByteArray)).bind fun t603=>(impl_CleanPath.l0 k ([]:List ByteArray) t603 t603 (t603.length:Int) 0)) else(none)))
def impl_CleanPath.l0 : Nat→List ByteArray→List ByteArray→List ByteArray→Int→Int→Option (ByteArray)
 |0,_,_,_,_,_=>none
 |k+1,x3,x4,x29,x30,x31=>if x31<x30 then(if 0≤x31 then(if x31<(x29.length:Int) then(if(rdOf ByteArray.empty x29 x31).toList=([46]:List UInt8) then(impl_CleanPath.l0 k x3 x4 x29 x30 (wrap64 (x31+1))) else(if(rdOf ByteArray.empty x29 x31).toList=([46,46]:List UInt8) then(if 0≤(mx 0 (wrap64 ((x3.length:Int)-1))) then(if(mx 0 (wrap64 ((x3.length:Int)-1)))≤(x3.length:Int) then(impl_CleanPath.l0 k (x3.take ((mx 0 (wrap64 ((x3.length:Int)-1))):Int).toNat) x4 x29 x30 (wrap64 (x31+1))) else(none)) else(none)) else(if x3.length<8796093022208 then(impl_CleanPath.l0 k (x3 ++ [rdOf ByteArray.empty x29 x31]) x4 x29 x30 (wrap64 (x31+1))) else(none)))) else(none)) else(none)) else(if 0≤(wrap64 ((x4.length:Int)-1)) then(if(wrap64 ((x4.length:Int)-1))<(x4.length:Int) then(if(rdOf ByteArray.empty x4 (wrap64 ((x4.length:Int)-1))).toList=([46]:List UInt8) then(if x3.length<8796093022208 then((strings_Join.f (x3 ++ [(⟨#[]⟩:ByteArray)]) (⟨#[47]⟩:ByteArray)).bind fun t610=>(if 1+t610.size≤9223372036854775807 then(some ((⟨#[47]⟩:ByteArray)++t610)) else(none))) else(none)) else(if(rdOf ByteArray.empty x4 (wrap64 ((x4.length:Int)-1))).toList=([46,46]:List UInt8) then(if x3.length<8796093022208 then((strings_Join.f (x3 ++ [(⟨#[]⟩:ByteArray)]) (⟨#[47]⟩:ByteArray)).bind fun t614=>(if 1+t614.size≤9223372036854775807 then(some ((⟨#[47]⟩:ByteArray)++t614)) else(none))) else(none)) else((strings_Join.f x3 (⟨#[47]⟩:ByteArray)).bind fun t615=>(if 1+t615.size≤9223372036854775807 then(some ((⟨#[47]⟩:ByteArray)++t615)) else(none))))) else(none)) else(none))
end
def impl_CleanPath.f (k:Nat) (a0:ByteArray):Option (ByteArray):=(strings_HasPrefix.f a0 (⟨#[47]⟩:ByteArray)).bind fun t599=>(if t599=true then(if(a0.size:Int)>200 then(impl_CleanPath.j0 k a0 true) else((impl_all__impl_isVisible.f k a0).bind fun t600=>(if t600=true then((strings_ContainsAny.f a0 (⟨#[35,63]⟩:ByteArray)).bind fun t601=>(impl_CleanPath.j0 k a0 t601)) else(impl_CleanPath.j0 k a0 true)))) else(impl_CleanPath.j0 k a0 true))
theorem impl_CleanPath.e0 {p:Prop} (h:p:=by
  have H':=Aside0.mk H
  clear H
  go_wp2_with(first|((with_reducible refine gate_callee (f:=194) rfl ?_);refine goesL_ (some 9) rfl rfl Tryz.func194 (by kernel_rfl) rfl #[.string a0,.string (⟨#[47]⟩:ByteArray)] rfl gq0 ?_;(with_reducible refine(strings_HasPrefix.calls a0 (⟨#[47]⟩:ByteArray) false _ A3.out).mono ?_);rintro e w' ⟨rfl,⟨nd,rfl⟩⟩;refine⟨_,rfl,?_⟩)|((with_reducible refine gate_callee (f:=194) rfl ?_);refine goesL_ (some 9) rfl rfl Tryz.func194 (by kernel_rfl) rfl #[.string a0,.string (⟨#[47]⟩:ByteArray)] rfl gq0 ?_;(with_reducible refine(strings_HasPrefix.calls a0 (⟨#[47]⟩:ByteArray) true _ A3.out).mono ?_);rintro e w' ⟨rfl,⟨nd,rfl⟩⟩;refine⟨_,rfl,?_⟩)|(go_at_call 107;(with_reducible refine(impl_all__impl_isVisible.calls k a0  false _ A6.out).mono ?_);rintro e w' ⟨rfl,⟨nd,rfl⟩⟩))
  go_meet
  case rel=>exact⟨_,(true),gq4,H',⟨gq8⟩,⟨gBe⟩⟩):p:=h
theorem impl_CleanPath.e1 {p:Prop} (h:p:=by
  obtain rfl:=Option.some.inj H
  have p606:0≤((ji29):Int):=of_decide_eq_true gq3
  have q606:(ji29)<(t603.length:Int):=of_decide_eq_true gq3
  obtain⟨ad606,e606,hx606_0⟩:=Kd.at_string (Kd.R_reads' HO_4.out).2.2 (ji29) p606 q606
  cases e606
  replace p606:=eq_true p606
  replace q606:=eq_true q606
  go_wp2_with(first|((with_reducible refine gate_builtin (b:=.append) (xs:=#[.tmp 63,.tmp 64]) rfl ?_);(try(refine gate_guard (by rfl) ?_;dsimp only));at_builtin;refine Kd.R_append Kd.string (w0:=w) w.heap.size rfl (.tmp 63) (.tmp 64) 76 9 (.string ⟨#[]⟩) 16 rfl Tryz.underlying76 info9 rfl (by decide) (by omega) u3 x3_2 (⟨#[]⟩:ByteArray) [.string (⟨#[]⟩:ByteArray)] (fun k_=>some k_≠(.slice (some ad606) t603.length co16:Value).ownBlock∧some k_≠(.slice (some ad606) t603.length co16:Value).ownBlock) (fun _=>False) rfl rfl ?aP (fun _ hk=>hk.elim) ?aF ?aO ?aB ?aS ?aL ?_;(case aP=>exact rfl);(case aB=>exact gBe);(case aF=>exact(fun k_ hk=>⟨Kd.fresh' (Kd.R_lt gq20) k_ hk,Kd.fresh' (Kd.R_lt gq48) k_ hk⟩));(case aO=>exact gq9);(case aS=>exact(below_size gBe));(case aL=>have:=LMc40.out;omega);intro v612 wq4a ho hb hg hat;rw[← Ny611.out] at ho;have nq4b_:=Aside0.mk (Kd.R_after (ok:=(fun _=>True)) gq41 hg hat);have nq4c_:=Aside0.mk (Kd.R_after (ok:=(fun _=>True)) (by(with_reducible repeat(first|apply Kd.R_alloc|apply Kd.R_drewN|apply Kd.R_drew));exact Kd.R_mono HO_29.out (fun _ hk=>⟨trivial,hk⟩)) hg hat);have nq4d_:=Aside0.mk (hb);have nq4e_:=Aside0.mk (ho);clear HO_4;clear HO_29;clear HB;clear HO_3;have HO_4:=nq4b_;have HO_29:=nq4c_;have HB:=nq4d_;have HO613:=nq4e_;clear nq4b_ nq4c_ nq4d_ nq4e_;clear ho hb hg hat;obtain⟨Ao44,co44,eo44⟩:=Kd.R_slice HO613.out;subst eo44)|((with_reducible refine gate_callee (f:=169) rfl ?_);refine goesL_ (some 67) rfl rfl Tryz.func169 (by kernel_rfl) rfl #[.slice Ao44 y611.length co44,.string (⟨#[47]⟩:ByteArray)] rfl gq0 ?_;(with_reducible refine(strings_Join.calls _ _ y611 (⟨#[47]⟩:ByteArray) t614 _ ?side1 ?side2 A41.out).mono ?_);(case side1=>repeat(first|exact(Kd.R_reads' HO613.out).2.2|(with_reducible refine Kd.C_alloc ?_ _)|(with_reducible refine Kd.C_drewN ?_ _)|(with_reducible refine Kd.C_drew ?_)));(case side2=>exact(Kd.R_reads' HO613.out).2.1);rintro e wq5a ⟨rfl,hb⟩;refine⟨_,rfl,?_⟩;replace HO_4:=Aside0.mk (Kd.R_below gq20 hb);replace HO_29:=Aside0.mk (Kd.R_below gq48 hb);replace HO613:=Aside0.mk (Kd.R_below (by(with_reducible repeat(first|apply Kd.R_alloc|apply Kd.R_drewN|apply Kd.R_drew));exact HO613.out) hb);replace HB:=beA hb;(try clear hb);(try clear hb2);(try clear hk);(try clear hi))|((with_reducible refine gate_builtin (b:=.append) (xs:=#[.tmp 63,.tmp 64]) rfl ?_);(try(refine gate_guard (by rfl) ?_;dsimp only));at_builtin;refine Kd.R_append Kd.string (w0:=w) w.heap.size rfl (.tmp 63) (.tmp 64) 76 9 (.string ⟨#[]⟩) 16 rfl Tryz.underlying76 info9 rfl (by decide) (by omega) u3 x3_2 (⟨#[]⟩:ByteArray) [.string (⟨#[]⟩:ByteArray)] (fun k_=>some k_≠(.slice (some ad606) t603.length co16:Value).ownBlock∧some k_≠(.slice (some ad606) t603.length co16:Value).ownBlock) (fun _=>False) rfl rfl ?aP (fun _ hk=>hk.elim) ?aF ?aO ?aB ?aS ?aL ?_;(case aP=>exact rfl);(case aB=>exact gBe);(case aF=>exact(fun k_ hk=>⟨Kd.fresh' (Kd.R_lt gq20) k_ hk,Kd.fresh' (Kd.R_lt gq48) k_ hk⟩));(case aO=>exact gq9);(case aS=>exact(below_size gBe));(case aL=>have:=LMc33.out;omega);intro v608 wq2a ho hb hg hat;rw[← Ny607.out] at ho;have nq2b_:=Aside0.mk (Kd.R_after (ok:=(fun _=>True)) gq41 hg hat);have nq2c_:=Aside0.mk (Kd.R_after (ok:=(fun _=>True)) (by(with_reducible repeat(first|apply Kd.R_alloc|apply Kd.R_drewN|apply Kd.R_drew));exact Kd.R_mono HO_29.out (fun _ hk=>⟨trivial,hk⟩)) hg hat);have nq2d_:=Aside0.mk (hb);have nq2e_:=Aside0.mk (ho);clear HO_4;clear HO_29;clear HB;clear HO_3;have HO_4:=nq2b_;have HO_29:=nq2c_;have HB:=nq2d_;have HO609:=nq2e_;clear nq2b_ nq2c_ nq2d_ nq2e_;clear ho hb hg hat;obtain⟨Ao37,co37,eo37⟩:=Kd.R_slice HO609.out;subst eo37)|((with_reducible refine gate_callee (f:=169) rfl ?_);refine goesL_ (some 67) rfl rfl Tryz.func169 (by kernel_rfl) rfl #[.slice Ao37 y607.length co37,.string (⟨#[47]⟩:ByteArray)] rfl gq0 ?_;(with_reducible refine(strings_Join.calls _ _ y607 (⟨#[47]⟩:ByteArray) t610 _ ?side1 ?side2 A34.out).mono ?_);(case side1=>repeat(first|exact(Kd.R_reads' HO609.out).2.2|(with_reducible refine Kd.C_alloc ?_ _)|(with_reducible refine Kd.C_drewN ?_ _)|(with_reducible refine Kd.C_drew ?_)));(case side2=>exact(Kd.R_reads' HO609.out).2.1);rintro e wq3a ⟨rfl,hb⟩;refine⟨_,rfl,?_⟩;replace HO_4:=Aside0.mk (Kd.R_below gq20 hb);replace HO_29:=Aside0.mk (Kd.R_below gq48 hb);replace HO609:=Aside0.mk (Kd.R_below (by(with_reducible repeat(first|apply Kd.R_alloc|apply Kd.R_drewN|apply Kd.R_drew));exact HO609.out) hb);replace HB:=beA hb;(try clear hb);(try clear hb2);(try clear hk);(try clear hi)))
  go_ret
  exact⟨by first|rfl|(simp[errW_none,errW_some] <;> rfl)|(simp only[← hji29];first|rfl|(simp[errW_none,errW_some] <;> rfl))|(simp[*,errW_none,errW_some] <;> rfl),gBe⟩):p:=h
set_option maxHeartbeats 8000000 in
set_option maxRecDepth 100000 in
theorem impl_CleanPath.calls (k:Nat) (a0:ByteArray) (r:ByteArray) (w:World) (h:impl_CleanPath.f k a0=some r) :
  Calls Tryz.prog 152 #[.string a0] w fun e w'=>e = .returned (.string r)∧Below w.heap.size w w':=by
 have HB:=Aside0.mk (Below.refl w.heap.size w)
 have H:=h
 clear h
 unfold impl_CleanPath.f at H
 have HC2:=Aside0.mk H
 clear H
 go_enter Tryz.func152,Tryz.ntmps152
 go_upto_region 1 with(fail)
 go_cut [24] (fun v24 wc=>∃(kq:Nat) (x24_1:Bool),v24 = .bool x24_1∧Aside0 (impl_CleanPath.j0 kq a0 x24_1=some r)∧Aside0 (kq≤k)∧Aside0 (Below w.heap.size w wc))
 case first=>
  have H:=HC2.out
  clear HC2
  replace H:=gD H
  obtain⟨t599,A3,H⟩:=H
  replace H:=gB H
  rcases H with⟨rfl,H⟩|⟨rfl,H⟩
  ·replace H:=gI H
   rcases H with⟨c5,-,-,H⟩|⟨c5,-,-,H⟩
   ·have c5b0:decide (200<(a0.size:Int))=true:=decide_eq_true c5
    have c5b1:decide (200<a0.size)=true:=decide_eq_true (by omega)
    clear c5
    (first|rw[c5b0]|(simp only[i64_w,i32_w];rw[c5b0])|skip)
    exact impl_CleanPath.e0
   ·have c5b0:decide (200<(a0.size:Int))=false:=decide_eq_false c5
    have c5b1:decide (200<a0.size)=false:=decide_eq_false (by omega)
    clear c5
    (first|rw[c5b0]|(simp only[i64_w,i32_w];rw[c5b0])|skip)
    replace H:=gD H
    obtain⟨t600,A6,H⟩:=H
    replace H:=gB H
    rcases H with⟨rfl,H⟩|⟨rfl,H⟩
    ·replace H:=gD H
     obtain⟨t601,A8,H⟩:=H
     have H':=Aside0.mk H
     clear H
     go_wp2_with(first|((with_reducible refine gate_callee (f:=194) rfl ?_);refine goesL_ (some 9) rfl rfl Tryz.func194 (by kernel_rfl) rfl #[.string a0,.string (⟨#[47]⟩:ByteArray)] rfl gq0 ?_;(with_reducible refine(strings_HasPrefix.calls a0 (⟨#[47]⟩:ByteArray) true _ A3.out).mono ?_);rintro e w' ⟨rfl,⟨nd,rfl⟩⟩;refine⟨_,rfl,?_⟩)|(go_at_call 107;(with_reducible refine(impl_all__impl_isVisible.calls k a0  true _ A6.out).mono ?_);rintro e w' ⟨rfl,⟨nd,rfl⟩⟩)|(go_at_call 195;(with_reducible refine(strings_ContainsAny.calls a0 (⟨#[35,63]⟩:ByteArray) t601 _ A8.out).mono ?_);rintro e wq0a ⟨rfl,hb⟩;replace HB:=beA hb;(try clear hb);(try clear hb2);(try clear hk);(try clear hi)))
     go_meet
     case rel=>exact⟨_,(t601),gq4,H',⟨gq8⟩,⟨gBe⟩⟩
    ·exact impl_CleanPath.e0
  ·exact impl_CleanPath.e0
 case rest=>
  clear HC2
  obtain⟨kq,x24_1,rfl,HA,HJ1,HB⟩:=hcut
  cases kq with
  |zero=>exact absurd HA.out (by simp[impl_CleanPath.j0])
  |succ kj1=>
   have H:=HA.out
   clear HA
   simp only[impl_CleanPath.j0] at H
   replace H:=gB H
   rcases H with⟨rfl,H⟩|⟨rfl,H⟩
   ·obtain rfl:=Option.some.inj H
    go_wp2
    go_ret
    exact⟨gq2,gBe⟩
   ·replace H:=gD H
    obtain⟨t602,A11,H⟩:=H
    replace H:=gI H
    rcases H with⟨-,c12b1,c12b0,H⟩|⟨c12,-,-,H⟩
    ·replace H:=gD H
     obtain⟨t603,A13,H⟩:=H
     have H':=Aside0.mk H
     clear H
     go_wp2_with(first|((with_reducible refine gate_callee (f:=197) rfl ?_);refine goesL_ (some 26) rfl rfl Tryz.func197 (by kernel_rfl) rfl #[.string a0] rfl gq0 ?_;(with_reducible refine(impl_unescaped.calls kj1 a0 t602 _ A11.out).mono ?_);rintro e w14 ⟨rfl,hb⟩;refine⟨_,rfl,?_⟩;replace HB:=beA hb;(try clear hb);(try clear hb2);(try clear hk);(try clear hi))|((with_reducible refine gate_callee (f:=196) rfl ?_);refine goesL_ (some 28) rfl rfl Tryz.func196 (by kernel_rfl) rfl #[.string (t602.extract 1 t602.size),.string (⟨#[47]⟩:ByteArray)] rfl gq0 ?_;(with_reducible refine(strings_Split.calls (t602.extract 1 t602.size) (⟨#[47]⟩:ByteArray) t603 _ A13.out).mono ?_);rintro e w15 ⟨v604,rfl,ho0,hb⟩;refine⟨_,rfl,?_⟩;have HO605:=Aside0.mk (Kd.R_lower ho0 (below_size gBe));replace HB:=beA hb;(try clear hb);(try clear hb2);(try clear hk);(try clear hi);(try clear ho0);obtain⟨Ao16,co16,eo16⟩:=Kd.R_slice HO605.out;subst eo16))
     go_loopg [3,31] kj1 (fun kq v3 v31 w'=>∃(x3_2:List ByteArray) (x31_2:Int),v31 = .int .i64 x31_2∧Aside0 (impl_CleanPath.l0 kq x3_2 t603 t603 (t603.length:Int) x31_2=some r)∧Aside0 (kq≤kj1)∧Aside0 (Kd.R Kd.string 9 w' w.heap.size (fun k_=>some k_≠((.slice Ao16 t603.length co16):Value).ownBlock∧some k_≠((.slice Ao16 t603.length co16):Value).ownBlock) v3 x3_2)∧Aside0 (Kd.R Kd.string 9 w' w.heap.size (fun k_=>some k_≠(v3:Value).ownBlock) (.slice Ao16 t603.length co16) t603)∧Aside0 (Kd.R Kd.string 9 w' w.heap.size (fun k_=>some k_≠(v3:Value).ownBlock) (.slice Ao16 t603.length co16) t603)∧Aside0 (Below w.heap.size w w'))
     case atStart=>exact⟨(([]:List ByteArray)),(0),gq4,H',⟨Nat.le_refl _⟩,⟨gq11⟩,⟨by(with_reducible repeat(first|apply Kd.R_alloc|apply Kd.R_drewN|apply Kd.R_drew));exact Kd.R_mono HO605.out (fun _ hk=>(by simp[Value.ownBlock]))⟩,⟨by(with_reducible repeat(first|apply Kd.R_alloc|apply Kd.R_drewN|apply Kd.R_drew));exact Kd.R_mono HO605.out (fun _ hk=>(by simp[Value.ownBlock]))⟩,⟨gBe⟩⟩
     case round=>
      clear H'
      try clear c12
      try clear c12b0
      try clear c12b1
      obtain⟨x3_2,x31_2,rfl,HA,HK2,HO_3,HO_4,HO_29,HB⟩:=hrel
      cases gk with
      |zero=>exact absurd HA.out (by simp[impl_CleanPath.l0])
      |succ k2=>
       have H:=HA.out
       clear HA
       simp only[impl_CleanPath.l0] at H
       replace H:=gI H
       rcases H with⟨-,c17b0,-,H⟩|⟨-,c17b0,-,H⟩
       ·replace H:=gN H
        obtain⟨-,c18b0,-,H⟩:=H
        replace H:=gN H
        obtain⟨-,c19b0,-,H⟩:=H
        replace H:=gI H
        rcases H with⟨c20,-,-,H⟩|⟨c20,-,-,H⟩
        ·have c20b0:((rdOf ByteArray.empty t603 x31_2).toList==([46]:List UInt8))=true:=beq_iff_eq.mpr c20
         have c20b1:((rdOf ByteArray.empty t603 x31_2).toList != ([46]:List UInt8))=false:=bne_eq_false_iff_eq.mpr c20
         clear c20
         have H':=Aside0.mk H
         clear H
         have p616:0≤(x31_2:Int):=of_decide_eq_true gq3
         have q616:x31_2<(t603.length:Int):=of_decide_eq_true gq3
         obtain⟨ad616,e616,hx616_0⟩:=Kd.at_string (Kd.R_reads' HO_29.out).2.2 x31_2 p616 q616
         cases e616
         replace p616:=eq_true p616
         replace q616:=eq_true q616
         go_wp2
         go_roundg k2
         case measure=>have:=HJ1.out;have:=HK2.out;omega
         case rel=>exact⟨(x3_2),(wrap64 (x31_2+1)),gq4,H',⟨gq44⟩,⟨gRo⟩,⟨gRo⟩,⟨gRo⟩,⟨gBe⟩⟩
        ·have c20b0:((rdOf ByteArray.empty t603 x31_2).toList==([46]:List UInt8))=false:=beq_eq_false_iff_ne.mpr c20
         have c20b1:((rdOf ByteArray.empty t603 x31_2).toList != ([46]:List UInt8))=true:=bne_iff_ne.mpr c20
         replace H:=gI H
         rcases H with⟨c21,-,-,H⟩|⟨c21,-,-,H⟩
         ·have c21b0:((rdOf ByteArray.empty t603 x31_2).toList==([46,46]:List UInt8))=true:=beq_iff_eq.mpr c21
          have c21b1:((rdOf ByteArray.empty t603 x31_2).toList != ([46,46]:List UInt8))=false:=bne_eq_false_iff_eq.mpr c21
          clear c21
          obtain⟨ji22,hji22⟩:∃ j_:Int,(mx 0 (wrap64 ((x3_2.length:Int)-1)))=j_:=⟨_,rfl⟩
          replace H:(if 0≤(ji22) then(if(ji22)≤(x3_2.length:Int) then(impl_CleanPath.l0 k2 (x3_2.take ((ji22):Int).toNat) t603 t603 (t603.length:Int) (wrap64 (x31_2+1))) else(none)) else(none))=some r:=by first|(rw[hji22] at H;exact H)|(simp only[hji22] at H ⊢;exact H)
          have hji22_:(if 0<(wrap64 ((x3_2.length:Int)-1)) then(wrap64 ((x3_2.length:Int)-1)) else 0)=ji22:=hji22
          replace H:=gN H
          obtain⟨-,c23b1,c23b0,H⟩:=H
          replace H:=gN H
          obtain⟨-,c24b1,c24b0,H⟩:=H
          obtain⟨y617,hy617⟩:∃ y_:List ByteArray,y_=(x3_2.take ((ji22):Int).toNat):=⟨_,rfl⟩
          replace H:(impl_CleanPath.l0 k2 y617 t603 t603 (t603.length:Int) (wrap64 (x31_2+1)))=some r:=by first|(rw[hy617];with_reducible exact H)|(have H2_:=(Option.bind_some _ _).symm.trans H;rw[hy617];with_reducible exact H2_)|(have H2_:=(Option.bind_some _ _).symm.trans H;with_reducible exact H2_)|with_reducible exact H|(rw[hy617];exact H)|exact H
          have Ny617:=Aside0.mk hy617
          clear hy617
          have H':=Aside0.mk H
          clear H
          have p616:0≤(x31_2:Int):=of_decide_eq_true gq3
          have q616:x31_2<(t603.length:Int):=of_decide_eq_true gq3
          obtain⟨ad616,e616,hx616_0⟩:=Kd.at_string (Kd.R_reads' HO_29.out).2.2 x31_2 p616 q616
          cases e616
          replace p616:=eq_true p616
          replace q616:=eq_true q616
          obtain⟨Ao25,co25,eo25⟩:=Kd.R_slice HO_3.out
          subst eo25
          have q26:((ji22):Int)≤((x3_2.length:Int):Int):=of_decide_eq_true gq3
          obtain⟨i026,hi026,_,hsz26,_⟩:=info_parts info9
          have hcut26:=cut_to (P:=Tryz.prog) 76 9 .i64 Tryz.underlying76 hi026 Ao25 x3_2.length co25 (ji22) (of_decide_eq_true gq3) q26 (Kd.R_reads' HO_3.out).2.1
          have hr26:=Kd.R_take (m:=((ji22):Int).toNat) HO_3.out (by omega)
          have hy26:y617.length=((ji22):Int).toNat:=(by rw[Ny617.out,List.length_take];omega)
          rw[← Ny617.out] at hr26
          rw[← hy26] at hr26 hcut26
          clear hy26 hi026 hsz26 HO_3
          have HO619:=Aside0.mk hr26
          clear hr26
          replace q26:=eq_true q26
          go_wp2
          go_roundg k2
          case measure=>have:=HJ1.out;have:=HK2.out;omega
          case rel=>exact⟨(y617),(wrap64 (x31_2+1)),gq4,H',⟨gq44⟩,⟨by first|exact gRo|exact R_ob (Aside0.out (by assumption))⟩,⟨by first|exact gRo|exact R_ob (Aside0.out (by assumption))⟩,⟨by first|exact gRo|exact R_ob (Aside0.out (by assumption))⟩,⟨gBe⟩⟩
         ·have c21b0:((rdOf ByteArray.empty t603 x31_2).toList==([46,46]:List UInt8))=false:=beq_eq_false_iff_ne.mpr c21
          have c21b1:((rdOf ByteArray.empty t603 x31_2).toList != ([46,46]:List UInt8))=true:=bne_iff_ne.mpr c21
          replace H:=gN H
          obtain⟨c27,-,-,H⟩:=H
          have LMc27:=Aside0.mk c27
          clear c27
          obtain⟨y620,hy620⟩:∃ y_:List ByteArray,y_=(x3_2 ++ [rdOf ByteArray.empty t603 x31_2]):=⟨_,rfl⟩
          replace H:(impl_CleanPath.l0 k2 y620 t603 t603 (t603.length:Int) (wrap64 (x31_2+1)))=some r:=by first|(rw[hy620];with_reducible exact H)|(have H2_:=(Option.bind_some _ _).symm.trans H;rw[hy620];with_reducible exact H2_)|(have H2_:=(Option.bind_some _ _).symm.trans H;with_reducible exact H2_)|with_reducible exact H|(rw[hy620];exact H)|exact H
          have Ny620:=Aside0.mk hy620
          clear hy620
          have H':=Aside0.mk H
          clear H
          have p616:0≤(x31_2:Int):=of_decide_eq_true gq3
          have q616:x31_2<(t603.length:Int):=of_decide_eq_true gq3
          obtain⟨ad616,e616,hx616_0⟩:=Kd.at_string (Kd.R_reads' HO_29.out).2.2 x31_2 p616 q616
          cases e616
          replace p616:=eq_true p616
          replace q616:=eq_true q616
          go_wp2_with(((with_reducible refine gate_builtin (b:=.append) (xs:=#[.tmp 36,.tmp 38]) rfl ?_);(try(refine gate_guard (by rfl) ?_;dsimp only));at_builtin;refine Kd.R_append Kd.string (w0:=w) w.heap.size rfl (.tmp 36) (.tmp 38) 76 9 (.string ⟨#[]⟩) 16 rfl Tryz.underlying76 info9 rfl (by decide) (by omega) u3 x3_2 (rdOf ByteArray.empty t603 x31_2) [.string (rdOf ByteArray.empty t603 x31_2)] (fun k_=>some k_≠(.slice (some ad616) t603.length co16:Value).ownBlock∧some k_≠(.slice (some ad616) t603.length co16:Value).ownBlock) (fun _=>False) rfl rfl ?aP (fun _ hk=>hk.elim) ?aF ?aO ?aB ?aS ?aL ?_;(case aP=>exact rfl);(case aB=>exact gBe);(case aF=>exact(fun k_ hk=>⟨Kd.fresh' (Kd.R_lt gq20) k_ hk,Kd.fresh' (Kd.R_lt gq48) k_ hk⟩));(case aO=>exact gq9);(case aS=>exact(below_size gBe));(case aL=>have:=LMc27.out;omega);intro v621 wq1a ho hb hg hat;rw[← Ny620.out] at ho;have nq1b_:=Aside0.mk (Kd.R_after (ok:=(fun _=>True)) gq41 hg hat);have nq1c_:=Aside0.mk (Kd.R_after (ok:=(fun _=>True)) (by(with_reducible repeat(first|apply Kd.R_alloc|apply Kd.R_drewN|apply Kd.R_drew));exact Kd.R_mono HO_29.out (fun _ hk=>⟨trivial,hk⟩)) hg hat);have nq1d_:=Aside0.mk (hb);have nq1e_:=Aside0.mk (ho);clear HO_4;clear HO_29;clear HB;clear HO_3;have HO_4:=nq1b_;have HO_29:=nq1c_;have HB:=nq1d_;have HO622:=nq1e_;clear nq1b_ nq1c_ nq1d_ nq1e_;clear ho hb hg hat))
          go_roundg k2
          case measure=>have:=HJ1.out;have:=HK2.out;omega
          case rel=>exact⟨(y620),(wrap64 (x31_2+1)),gq4,H',⟨gq44⟩,⟨gRo⟩,⟨by(with_reducible repeat(first|apply Kd.R_alloc|apply Kd.R_drewN|apply Kd.R_drew));exact Kd.R_mono HO_4.out (fun _ hk=>hk.2)⟩,⟨by(with_reducible repeat(first|apply Kd.R_alloc|apply Kd.R_drewN|apply Kd.R_drew));exact Kd.R_mono HO_29.out (fun _ hk=>hk.2)⟩,⟨gBe⟩⟩
       ·obtain⟨ji29,hji29⟩:∃ j_:Int,(wrap64 ((t603.length:Int)-1))=j_:=⟨_,rfl⟩
        replace H:(if 0≤(ji29) then(if(ji29)<(t603.length:Int) then(if(rdOf ByteArray.empty t603 (ji29)).toList=([46]:List UInt8) then(if x3_2.length<8796093022208 then((strings_Join.f (x3_2 ++ [(⟨#[]⟩:ByteArray)]) (⟨#[47]⟩:ByteArray)).bind fun t610=>(if 1+t610.size≤9223372036854775807 then(some ((⟨#[47]⟩:ByteArray)++t610)) else(none))) else(none)) else(if(rdOf ByteArray.empty t603 (ji29)).toList=([46,46]:List UInt8) then(if x3_2.length<8796093022208 then((strings_Join.f (x3_2 ++ [(⟨#[]⟩:ByteArray)]) (⟨#[47]⟩:ByteArray)).bind fun t614=>(if 1+t614.size≤9223372036854775807 then(some ((⟨#[47]⟩:ByteArray)++t614)) else(none))) else(none)) else((strings_Join.f x3_2 (⟨#[47]⟩:ByteArray)).bind fun t615=>(if 1+t615.size≤9223372036854775807 then(some ((⟨#[47]⟩:ByteArray)++t615)) else(none))))) else(none)) else(none))=some r:=by first|(rw[hji29] at H;exact H)|(simp only[hji29] at H ⊢;exact H)
        have hji29w:(IntKind.i64.wrap ((t603.length:Int)-1))=ji29:=(i64_w _).trans hji29
        replace H:=gN H
        obtain⟨-,c30b0,-,H⟩:=H
        replace H:=gN H
        obtain⟨-,c31b0,-,H⟩:=H
        replace H:=gI H
        rcases H with⟨c32,-,-,H⟩|⟨c32,-,-,H⟩
        ·have c32b0:((rdOf ByteArray.empty t603 (ji29)).toList==([46]:List UInt8))=true:=beq_iff_eq.mpr c32
         have c32b1:((rdOf ByteArray.empty t603 (ji29)).toList != ([46]:List UInt8))=false:=bne_eq_false_iff_eq.mpr c32
         clear c32
         replace H:=gN H
         obtain⟨c33,-,-,H⟩:=H
         have LMc33:=Aside0.mk c33
         clear c33
         obtain⟨y607,hy607⟩:∃ y_:List ByteArray,y_=(x3_2 ++ [(⟨#[]⟩:ByteArray)]):=⟨_,rfl⟩
         replace H:((strings_Join.f y607 (⟨#[47]⟩:ByteArray)).bind fun t610=>(if 1+t610.size≤9223372036854775807 then(some ((⟨#[47]⟩:ByteArray)++t610)) else(none)))=some r:=by first|(rw[hy607];with_reducible exact H)|(have H2_:=(Option.bind_some _ _).symm.trans H;rw[hy607];with_reducible exact H2_)|(have H2_:=(Option.bind_some _ _).symm.trans H;with_reducible exact H2_)|with_reducible exact H|(rw[hy607];exact H)|exact H
         have Ny607:=Aside0.mk hy607
         clear hy607
         replace H:=gD H
         obtain⟨t610,A34,H⟩:=H
         replace H:=gN H
         obtain⟨c35,c35b1,c35b0,H⟩:=H
         try have c35b2:(9223372036854775807<1+t610.size)=False:=eq_false (Nat.not_lt.2 c35)
         exact impl_CleanPath.e1
        ·have c32b0:((rdOf ByteArray.empty t603 (ji29)).toList==([46]:List UInt8))=false:=beq_eq_false_iff_ne.mpr c32
         have c32b1:((rdOf ByteArray.empty t603 (ji29)).toList != ([46]:List UInt8))=true:=bne_iff_ne.mpr c32
         replace H:=gI H
         rcases H with⟨c39,-,-,H⟩|⟨c39,-,-,H⟩
         ·have c39b0:((rdOf ByteArray.empty t603 (ji29)).toList==([46,46]:List UInt8))=true:=beq_iff_eq.mpr c39
          have c39b1:((rdOf ByteArray.empty t603 (ji29)).toList != ([46,46]:List UInt8))=false:=bne_eq_false_iff_eq.mpr c39
          clear c39
          replace H:=gN H
          obtain⟨c40,-,-,H⟩:=H
          have LMc40:=Aside0.mk c40
          clear c40
          obtain⟨y611,hy611⟩:∃ y_:List ByteArray,y_=(x3_2 ++ [(⟨#[]⟩:ByteArray)]):=⟨_,rfl⟩
          replace H:((strings_Join.f y611 (⟨#[47]⟩:ByteArray)).bind fun t614=>(if 1+t614.size≤9223372036854775807 then(some ((⟨#[47]⟩:ByteArray)++t614)) else(none)))=some r:=by first|(rw[hy611];with_reducible exact H)|(have H2_:=(Option.bind_some _ _).symm.trans H;rw[hy611];with_reducible exact H2_)|(have H2_:=(Option.bind_some _ _).symm.trans H;with_reducible exact H2_)|with_reducible exact H|(rw[hy611];exact H)|exact H
          have Ny611:=Aside0.mk hy611
          clear hy611
          replace H:=gD H
          obtain⟨t614,A41,H⟩:=H
          replace H:=gN H
          obtain⟨c42,c42b1,c42b0,H⟩:=H
          try have c42b2:(9223372036854775807<1+t614.size)=False:=eq_false (Nat.not_lt.2 c42)
          exact impl_CleanPath.e1
         ·have c39b0:((rdOf ByteArray.empty t603 (ji29)).toList==([46,46]:List UInt8))=false:=beq_eq_false_iff_ne.mpr c39
          have c39b1:((rdOf ByteArray.empty t603 (ji29)).toList != ([46,46]:List UInt8))=true:=bne_iff_ne.mpr c39
          replace H:=gD H
          obtain⟨t615,A46,H⟩:=H
          replace H:=gN H
          obtain⟨c47,c47b1,c47b0,H⟩:=H
          try have c47b2:(9223372036854775807<1+t615.size)=False:=eq_false (Nat.not_lt.2 c47)
          obtain rfl:=Option.some.inj H
          have p606:0≤((ji29):Int):=of_decide_eq_true gq3
          have q606:(ji29)<(t603.length:Int):=of_decide_eq_true gq3
          obtain⟨ad606,e606,hx606_0⟩:=Kd.at_string (Kd.R_reads' HO_4.out).2.2 (ji29) p606 q606
          cases e606
          replace p606:=eq_true p606
          replace q606:=eq_true q606
          obtain⟨Ao48,co48,eo48⟩:=Kd.R_slice HO_3.out
          subst eo48
          go_wp2_with(((with_reducible refine gate_callee (f:=169) rfl ?_);refine goesL_ (some 67) rfl rfl Tryz.func169 (by kernel_rfl) rfl #[.slice Ao48 x3_2.length co48,.string (⟨#[47]⟩:ByteArray)] rfl gq0 ?_;(with_reducible refine(strings_Join.calls _ _ x3_2 (⟨#[47]⟩:ByteArray) t615 _ ?side1 ?side2 A46.out).mono ?_);(case side1=>repeat(first|exact(Kd.R_reads' HO_3.out).2.2|(with_reducible refine Kd.C_alloc ?_ _)|(with_reducible refine Kd.C_drewN ?_ _)|(with_reducible refine Kd.C_drew ?_)));(case side2=>exact(Kd.R_reads' HO_3.out).2.1);rintro e wq6a ⟨rfl,hb⟩;refine⟨_,rfl,?_⟩;replace HO_3:=Aside0.mk (Kd.R_below gq9 hb);replace HO_4:=Aside0.mk (Kd.R_below gq20 hb);replace HO_29:=Aside0.mk (Kd.R_below gq48 hb);replace HB:=beA hb;(try clear hb);(try clear hb2);(try clear hk);(try clear hi)))
          go_ret
          exact⟨by first|rfl|(simp[errW_none,errW_some] <;> rfl)|(simp only[← hji29];first|rfl|(simp[errW_none,errW_some] <;> rfl))|(simp[*,errW_none,errW_some] <;> rfl),gBe⟩
    ·exact absurd H (by simp)


def impl_isHost_1.f (a0:Int):Option (Bool):=(impl_isLower.f a0).bind fun t643=>(if t643=true then(some true) else((impl_isDigit.f a0).bind fun t644=>(if t644=true then(some true) else(if a0=45 then(some true) else(some (a0==46))))))
theorem impl_isHost_1.e0 {p:Prop} (h:p:=by
  obtain rfl:=Option.some.inj H
  go_enter Tryz.func221,Tryz.ntmps221
  go_wp2_with(first|((with_reducible refine gate_callee (f:=199) rfl ?_);refine goesL_ (some 4) rfl rfl Tryz.func199 (by kernel_rfl) rfl #[.int .u8 a0] rfl gq0 ?_;(with_reducible refine(impl_isLower.calls a0 false _ A2.out).mono ?_);rintro e w' ⟨rfl,⟨nd,rfl⟩⟩;refine⟨_,rfl,?_⟩)|(go_at_call 166;(with_reducible refine(impl_isDigit.calls a0 false _ A4.out).mono ?_);rintro e w' ⟨rfl,⟨nd,rfl⟩⟩)|(go_at_call 166;(with_reducible refine(impl_isDigit.calls a0 true _ A4.out).mono ?_);rintro e w' ⟨rfl,⟨nd,rfl⟩⟩)|((with_reducible refine gate_callee (f:=199) rfl ?_);refine goesL_ (some 4) rfl rfl Tryz.func199 (by kernel_rfl) rfl #[.int .u8 a0] rfl gq0 ?_;(with_reducible refine(impl_isLower.calls a0 true _ A2.out).mono ?_);rintro e w' ⟨rfl,⟨nd,rfl⟩⟩;refine⟨_,rfl,?_⟩))
  go_ret
  exact⟨gq4,gq5⟩):p:=h
set_option maxHeartbeats 8000000 in
set_option maxRecDepth 100000 in
theorem impl_isHost_1.calls (a0:Int) (r:Bool) (w:World) (h:impl_isHost_1.f a0=some r) :
  Calls Tryz.prog 221 #[.int .u8 a0] w fun e w'=>e = .returned (.bool r)∧Drawn0 w w':=by
 have H:=h
 clear h
 unfold impl_isHost_1.f at H
 replace H:=gD H
 obtain⟨t643,A2,H⟩:=H
 replace H:=gB H
 rcases H with⟨rfl,H⟩|⟨rfl,H⟩
 ·exact impl_isHost_1.e0
 ·replace H:=gD H
  obtain⟨t644,A4,H⟩:=H
  replace H:=gB H
  rcases H with⟨rfl,H⟩|⟨rfl,H⟩
  ·exact impl_isHost_1.e0
  ·replace H:=gI H
   rcases H with⟨c6,-,-,H⟩|⟨c6,-,-,H⟩
   ·have c6b0:(a0==45)=true:=beq_iff_eq.mpr c6
    have c6b1:(a0 != 45)=false:=bne_eq_false_iff_eq.mpr c6
    clear c6
    exact impl_isHost_1.e0
   ·have c6b0:(a0==45)=false:=beq_eq_false_iff_ne.mpr c6
    have c6b1:(a0 != 45)=true:=bne_iff_ne.mpr c6
    exact impl_isHost_1.e0

def impl_all__impl_isHost_1.l0 : Nat→ByteArray→Int→Option (Bool)
 |0,_,_=>none
 |k+1,x0,x5=>if x5<(x0.size:Int) then(if 0≤x5 then((impl_isHost_1.f (bt x0 x5)).bind fun t645=>(if t645=true then(impl_all__impl_isHost_1.l0 k x0 (wrap64 (x5+1))) else(some false))) else(none)) else(some true)
def impl_all__impl_isHost_1.f (k:Nat) (a0:ByteArray)  : Option (Bool):=impl_all__impl_isHost_1.l0 k a0 0
set_option maxHeartbeats 8000000 in
set_option maxRecDepth 100000 in
theorem impl_all__impl_isHost_1.calls (k:Nat) (a0:ByteArray)  (r:Bool) (w:World) (h:impl_all__impl_isHost_1.f k a0=some r) :
  Calls Tryz.prog 107 #[.string a0,.func (.func 221) #[] #[]] w fun e w'=>e = .returned (.bool r)∧Drawn0 w w':=by
 have H:=h
 clear h
 unfold impl_all__impl_isHost_1.f at H
 have H':=Aside0.mk H
 clear H
 go_enter Tryz.func107,Tryz.ntmps107
 go_wp2
 go_loopg [5] k (fun kq v5 w'=>∃(x5_1:Int),v5 = .int .i64 x5_1∧Aside0 (impl_all__impl_isHost_1.l0 kq a0 x5_1=some r)∧Aside0 (kq≤k)∧Drawn0 w w')
 case atStart=>exact⟨(0),gq4,H',⟨Nat.le_refl _⟩,gq5⟩
 case round=>
  clear H'
  obtain⟨x5_1,rfl,HA,HK1,⟨m1,rfl⟩⟩:=hrel
  cases gk with
  |zero=>exact absurd HA.out (by simp[impl_all__impl_isHost_1.l0])
  |succ k1=>
   have H:=HA.out
   clear HA
   simp only[impl_all__impl_isHost_1.l0] at H
   replace H:=gI H
   rcases H with⟨-,c3b0,-,H⟩|⟨-,c3b0,-,H⟩
   ·replace H:=gN H
    obtain⟨-,c4b0,-,H⟩:=H
    replace H:=gD H
    obtain⟨t645,A6,H⟩:=H
    replace H:=gB H
    rcases H with⟨rfl,H⟩|⟨rfl,H⟩
    ·have H':=Aside0.mk H
     clear H
     have p5:0≤(x5_1:Int):=of_decide_eq_true gq3
     have q5:x5_1<(a0.size:Int):=of_decide_eq_true gq3
     have hx5:=bt_at a0 x5_1
     replace p5:=eq_true p5
     replace q5:=eq_true q5
     go_wp2_with((go_at_call 221;(with_reducible refine(impl_isHost_1.calls (bt a0 x5_1) true _ A6.out).mono ?_);rintro e w' ⟨rfl,⟨nd,rfl⟩⟩))
     go_roundg k1
     case measure=>have:=HK1.out;omega
     case rel=>exact⟨(wrap64 (x5_1+1)),gq4,H',⟨by have:=HK1.out;omega⟩,gq5⟩
    ·obtain rfl:=Option.some.inj H
     have p5:0≤(x5_1:Int):=of_decide_eq_true gq3
     have q5:x5_1<(a0.size:Int):=of_decide_eq_true gq3
     have hx5:=bt_at a0 x5_1
     replace p5:=eq_true p5
     replace q5:=eq_true q5
     go_wp2_with((go_at_call 221;(with_reducible refine(impl_isHost_1.calls (bt a0 x5_1) false _ A6.out).mono ?_);rintro e w' ⟨rfl,⟨nd,rfl⟩⟩))
     go_ret
     exact⟨gq4,gq5⟩
   ·obtain rfl:=Option.some.inj H
    go_wp2
    go_ret
    exact⟨gq4,gq5⟩

def impl_isHost.j0 : Nat→ByteArray→Bool→Option (Bool)
 |0,_,_=>none
 |k+1,x0,x11=>if x11=true then(some false) else((strings_Split.f x0 (⟨#[46]⟩:ByteArray)).bind fun t655=>((slices_Contains_string_string.f k t655 (⟨#[]⟩:ByteArray)).bind fun t658=>(some (!t658))))
def impl_isHost.f (k:Nat) (a0:ByteArray):Option (Bool):=(impl_within.f (a0.size:Int) 1 60).bind fun t653=>(if t653=true then((impl_all__impl_isHost_1.f k a0).bind fun t654=>(impl_isHost.j0 k a0 (!t654))) else(impl_isHost.j0 k a0 true))
set_option maxHeartbeats 8000000 in
set_option maxRecDepth 100000 in
theorem impl_isHost.calls (k:Nat) (a0:ByteArray) (r:Bool) (w:World) (h:impl_isHost.f k a0=some r) :
  Calls Tryz.prog 198 #[.string a0] w fun e w'=>e = .returned (.bool r)∧Below w.heap.size w w':=by
 have HB:=Aside0.mk (Below.refl w.heap.size w)
 have H:=h
 clear h
 unfold impl_isHost.f at H
 have HC2:=Aside0.mk H
 clear H
 go_enter Tryz.func198,Tryz.ntmps198
 go_upto_region 1 with(fail)
 go_cut [11] (fun v11 wc=>∃(kq:Nat) (x11_1:Bool),v11 = .bool x11_1∧Aside0 (impl_isHost.j0 kq a0 x11_1=some r)∧Aside0 (kq≤k)∧Aside0 (Below w.heap.size w wc))
 case first=>
  have H:=HC2.out
  clear HC2
  replace H:=gD H
  obtain⟨t653,A3,H⟩:=H
  replace H:=gB H
  rcases H with⟨rfl,H⟩|⟨rfl,H⟩
  ·replace H:=gD H
   obtain⟨t654,A5,H⟩:=H
   have H':=Aside0.mk H
   clear H
   go_wp2_with(first|((with_reducible refine gate_callee (f:=65) rfl ?_);refine goesL_ (some 5) rfl rfl Tryz.func65 (by kernel_rfl) rfl #[.int .i64 (a0.size:Int),.int .i64 1,.int .i64 60] rfl gq0 ?_;(with_reducible refine(impl_within.calls (a0.size:Int) 1 60 true _ A3.out).mono ?_);rintro e w' ⟨rfl,⟨nd,rfl⟩⟩;refine⟨_,rfl,?_⟩)|(go_at_call 107;(with_reducible refine(impl_all__impl_isHost_1.calls k a0  t654 _ A5.out).mono ?_);rintro e w' ⟨rfl,⟨nd,rfl⟩⟩))
   go_meet
   case rel=>exact⟨_,(!t654),gq4,H',⟨gq8⟩,⟨gBe⟩⟩
  ·have H':=Aside0.mk H
   clear H
   go_wp2_with(((with_reducible refine gate_callee (f:=65) rfl ?_);refine goesL_ (some 5) rfl rfl Tryz.func65 (by kernel_rfl) rfl #[.int .i64 (a0.size:Int),.int .i64 1,.int .i64 60] rfl gq0 ?_;(with_reducible refine(impl_within.calls (a0.size:Int) 1 60 false _ A3.out).mono ?_);rintro e w' ⟨rfl,⟨nd,rfl⟩⟩;refine⟨_,rfl,?_⟩))
   go_meet
   case rel=>exact⟨_,(true),gq4,H',⟨gq8⟩,⟨gBe⟩⟩
 case rest=>
  clear HC2
  obtain⟨kq,x11_1,rfl,HA,HJ1,HB⟩:=hcut
  cases kq with
  |zero=>exact absurd HA.out (by simp[impl_isHost.j0])
  |succ kj1=>
   have H:=HA.out
   clear HA
   simp only[impl_isHost.j0] at H
   replace H:=gB H
   rcases H with⟨rfl,H⟩|⟨rfl,H⟩
   ·obtain rfl:=Option.some.inj H
    go_wp2
    go_ret
    exact⟨gq2,gBe⟩
   ·replace H:=gD H
    obtain⟨t655,A7,H⟩:=H
    replace H:=gD H
    obtain⟨t658,A8,H⟩:=H
    obtain rfl:=Option.some.inj H
    go_wp2_with(first|((with_reducible refine gate_callee (f:=196) rfl ?_);refine goesL_ (some 13) rfl rfl Tryz.func196 (by kernel_rfl) rfl #[.string a0,.string (⟨#[46]⟩:ByteArray)] rfl gq0 ?_;(with_reducible refine(strings_Split.calls a0 (⟨#[46]⟩:ByteArray) t655 _ A7.out).mono ?_);rintro e wq0a ⟨v656,rfl,ho0,hb⟩;refine⟨_,rfl,?_⟩;have HO657:=Aside0.mk (Kd.R_lower ho0 (below_size gBe));replace HB:=beA hb;(try clear hb);(try clear hb2);(try clear hk);(try clear hi);(try clear ho0);obtain⟨Ao10,co10,eo10⟩:=Kd.R_slice HO657.out;subst eo10)|((with_reducible refine gate_callee (f:=222) rfl ?_);refine goesL_ (some 14) rfl rfl Tryz.func222 (by kernel_rfl) rfl #[.slice Ao10 t655.length co10,.string (⟨#[]⟩:ByteArray)] rfl gq0 ?_;(with_reducible refine(slices_Contains_string_string.calls kj1 _ _ t655 (⟨#[]⟩:ByteArray) t658 _ ?side1 ?side2 A8.out).mono ?_);(case side1=>repeat(first|exact(Kd.R_reads' HO657.out).2.2|(with_reducible refine Kd.C_alloc ?_ _)|(with_reducible refine Kd.C_drewN ?_ _)|(with_reducible refine Kd.C_drew ?_)));(case side2=>exact(Kd.R_reads' HO657.out).2.1);rintro e w' ⟨rfl,⟨nd,rfl⟩⟩;refine⟨_,rfl,?_⟩))
    go_ret
    exact⟨gq2,gBe⟩

def impl_portText.f (a0_0:ByteArray) (a0_1:Int) (a0_2:ByteArray) (a0_3:ByteArray) (a0_4:Bool):Option (ByteArray):=if a0_1=80 then(some (⟨#[]⟩:ByteArray)) else((strconv_Itoa_111.f a0_1).bind fun t667=>(if 1+t667.size≤9223372036854775807 then(some ((⟨#[58]⟩:ByteArray)++t667)) else(none)))
theorem impl_portText.e0 {p:Prop} (h:p:=by
  obtain rfl:=Option.some.inj H
  go_enter Tryz.func154,Tryz.ntmps154
  go_wp2_with(first|((with_reducible refine gate_dst (N:=1) rfl ?_);refine boxA #[.string a0_0,.int .i64 a0_1,.string a0_2,.string a0_3,.bool a0_4] 92 ?_;intro gb666 hg wq0a hbox hb;have BK666:=Aside0.mk (hbox);have GW666:=geA hg;have GE666:=geA hg;replace HB:=beA hb;clear hb hbox hg;obtain⟨_,_,_,_,_⟩:=czA5 BK666;obtain⟨_,_,_,_,_⟩:=cfA5 BK666)|((with_reducible refine gate_callee (f:=111) rfl ?_);refine goesL_ (some 8) rfl rfl Tryz.func111 (by kernel_rfl) rfl #[.int .i64 a0_1] rfl gq0 ?_;(with_reducible refine(strconv_Itoa_111.calls a0_1 t667 _ A5.out ?hT).mono ?_);(case hT=>exact tab_go HT);rintro e wq1a ⟨rfl,hb⟩;refine⟨_,rfl,?_⟩;replace BK666:=blA (g:=gb666) hb;replace HB:=beA hb;(try clear hb);(try clear hb2);(try clear hk);(try clear hi)))
  go_ret
  exact⟨gq2,gBe⟩):p:=h
set_option maxHeartbeats 8000000 in
set_option maxRecDepth 100000 in
theorem impl_portText.calls (a0_0:ByteArray) (a0_1:Int) (a0_2:ByteArray) (a0_3:ByteArray) (a0_4:Bool) (r:ByteArray) (w:World) (h:impl_portText.f a0_0 a0_1 a0_2 a0_3 a0_4=some r) (HT0:Tab10 w) :
  Calls Tryz.prog 154 #[.agg #[.string a0_0,.int .i64 a0_1,.string a0_2,.string a0_3,.bool a0_4]] w fun e w'=>e = .returned (.string r)∧Below w.heap.size w w':=by
 have HT:=Aside0.mk HT0
 clear HT0
 have hu92:=Tryz.underlying92
 have HB:=Aside0.mk (Below.refl w.heap.size w)
 have H:=h
 clear h
 unfold impl_portText.f at H
 replace H:=gI H
 rcases H with⟨c2,-,-,H⟩|⟨c2,-,-,H⟩
 ·have c2b0:(a0_1==80)=true:=beq_iff_eq.mpr c2
  have c2b1:(a0_1 != 80)=false:=bne_eq_false_iff_eq.mpr c2
  clear c2
  exact impl_portText.e0
 ·have c2b0:(a0_1==80)=false:=beq_eq_false_iff_ne.mpr c2
  have c2b1:(a0_1 != 80)=true:=bne_iff_ne.mpr c2
  replace H:=gD H
  obtain⟨t667,A5,H⟩:=H
  replace H:=gI H
  rcases H with⟨c6,c6b1,c6b0,H⟩|⟨c6,-,-,H⟩
  ·try have c6b2:(9223372036854775807<1+t667.size)=False:=eq_false (Nat.not_lt.2 c6)
   exact impl_portText.e0
  ·exact absurd H (by simp)

def impl_pathText.f (a0_0:ByteArray) (a0_1:Int) (a0_2:ByteArray) (a0_3:ByteArray) (a0_4:Bool):Option (ByteArray):=if a0_4=true then(if a0_2.size+1≤9223372036854775807 then(if(a0_2++(⟨#[63]⟩:ByteArray)).size+a0_3.size≤9223372036854775807 then(some ((a0_2++(⟨#[63]⟩:ByteArray))++a0_3)) else(none)) else(none)) else(some a0_2)
theorem impl_pathText.e0 {p:Prop} (h:p:=by
  obtain rfl:=Option.some.inj H
  go_enter Tryz.func155,Tryz.ntmps155
  go_wp2_with(first|((with_reducible refine gate_dst (N:=1) rfl ?_);refine boxA #[.string a0_0,.int .i64 a0_1,.string a0_2,.string a0_3,.bool false] 92 ?_;intro gb670 hg wq1a hbox hb;have BK670:=Aside0.mk (hbox);have GW670:=geA hg;have GE670:=geA hg;replace HB:=beA hb;clear hb hbox hg;obtain⟨_,_,_,_,_⟩:=czA5 BK670;obtain⟨_,_,_,_,_⟩:=cfA5 BK670)|((with_reducible refine gate_dst (N:=1) rfl ?_);refine boxA #[.string a0_0,.int .i64 a0_1,.string a0_2,.string a0_3,.bool true] 92 ?_;intro gb670 hg wq0a hbox hb;have BK670:=Aside0.mk (hbox);have GW670:=geA hg;have GE670:=geA hg;replace HB:=beA hb;clear hb hbox hg;obtain⟨_,_,_,_,_⟩:=czA5 BK670;obtain⟨_,_,_,_,_⟩:=cfA5 BK670))
  go_ret
  exact⟨gq2,gBe⟩):p:=h
set_option maxHeartbeats 8000000 in
set_option maxRecDepth 100000 in
theorem impl_pathText.calls (a0_0:ByteArray) (a0_1:Int) (a0_2:ByteArray) (a0_3:ByteArray) (a0_4:Bool) (r:ByteArray) (w:World) (h:impl_pathText.f a0_0 a0_1 a0_2 a0_3 a0_4=some r) :
  Calls Tryz.prog 155 #[.agg #[.string a0_0,.int .i64 a0_1,.string a0_2,.string a0_3,.bool a0_4]] w fun e w'=>e = .returned (.string r)∧Below w.heap.size w w':=by
 have hu92:=Tryz.underlying92
 have HB:=Aside0.mk (Below.refl w.heap.size w)
 have H:=h
 clear h
 unfold impl_pathText.f at H
 replace H:=gB H
 rcases H with⟨rfl,H⟩|⟨rfl,H⟩
 ·replace H:=gN H
  obtain⟨c3,c3b1,c3b0,H⟩:=H
  try have c3b2:(9223372036854775807<a0_2.size+1)=False:=eq_false (Nat.not_lt.2 c3)
  replace H:=gN H
  obtain⟨c4,c4b1,c4b0,H⟩:=H
  try have c4b2:(9223372036854775807<(a0_2++(⟨#[63]⟩:ByteArray)).size+a0_3.size)=False:=eq_false (Nat.not_lt.2 c4)
  try have c4b3:(9223372036854775807<a0_2.size+1+a0_3.size)=False:=by have h_:=c4;simp only[ByteArray.size_append] at h_;exact eq_false (Nat.not_lt.2 h_)
  exact impl_pathText.e0
 ·exact impl_pathText.e0

end Go.Proofs.YtfhllanhldbkkaaGreatDoor.P
