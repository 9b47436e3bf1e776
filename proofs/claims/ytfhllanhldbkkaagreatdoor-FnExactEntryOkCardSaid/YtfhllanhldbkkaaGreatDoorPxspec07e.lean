import Derived.Test.YtfhllanhldbkkaaGreatDoorPx0
import Derived.Test.YtfhllanhldbkkaaGreatDoorPxspec01a
import Derived.Test.YtfhllanhldbkkaaGreatDoorPxspec07b
import Derived.Test.YtfhllanhldbkkaaGreatDoorWC
import Derived.Test.YtfhllanhldbkkaaGreatDoorPxspec05b
namespace Go.Proofs.YtfhllanhldbkkaaGreatDoor.P
open Go.RowKit Go.Proofs.YtfhllanhldbkkaaGreatDoorW.PrintWords Go.Proofs.YtfhllanhldbkkaaGreatDoorW.PrintLast Go.Proofs.YtfhllanhldbkkaaGreatDoorW.PrintMore
attribute [local go_sem] max2_int min2_int max_two min_two max_three min_three max_four min_four   -- for this text's walks alone
set_option linter.unusedVariables false
set_option linter.unusedSimpArgs false

mutual
def spec_l7host.j0 : Nat→ByteArray→Bool→Option (Bool)
 |0,_,_=>none
 |k+1,x0,x14=>if x14=true then(some false) else((spec_l7split.f k x0 46).bind fun t301=>(spec_l7host.l0 k t301 0))
def spec_l7host.l0 : Nat→List ByteArray→Int→Option (Bool)
 |0,_,_=>none
 |k+1,x3,x4=>if x4<(x3.length:Int) then(if 0≤x4 then(if(rdOf ByteArray.empty x3 x4).toList=([]:List UInt8) then(some false) else(spec_l7host.l1 k x3 x4 0)) else(none)) else(some true)
def spec_l7host.l1 : Nat→List ByteArray→Int→Int→Option (Bool)
 |0,_,_,_=>none
 |k+1,x3,x4,x5=>if 0≤x4 then(if x4<(x3.length:Int) then(if x5<((rdOf ByteArray.empty x3 x4).size:Int) then(if 0≤x5 then(if(bt (rdOf ByteArray.empty x3 x4) x5)≥97 then(if((bt (rdOf ByteArray.empty x3 x4) x5)≤122) then(spec_l7host.l1 k x3 x4 (wrap64 (x5+1))) else((spec_l1digit.f (bt (rdOf ByteArray.empty x3 x4) x5)).bind fun t307=>(if t307=true then(spec_l7host.l1 k x3 x4 (wrap64 (x5+1))) else(if(bt (rdOf ByteArray.empty x3 x4) x5)=45 then(spec_l7host.l1 k x3 x4 (wrap64 (x5+1))) else(some false))))) else((spec_l1digit.f (bt (rdOf ByteArray.empty x3 x4) x5)).bind fun t308=>(if t308=true then(spec_l7host.l1 k x3 x4 (wrap64 (x5+1))) else(if(bt (rdOf ByteArray.empty x3 x4) x5)=45 then(spec_l7host.l1 k x3 x4 (wrap64 (x5+1))) else(some false))))) else(none)) else(spec_l7host.l0 k x3 (wrap64 (x4+1)))) else(none)) else(none)
end
def spec_l7host.f (k:Nat) (a0:ByteArray):Option (Bool):=if(a0.size:Int)=0 then(spec_l7host.j0 k a0 true) else(spec_l7host.j0 k a0 (decide ((a0.size:Int)>60)))
theorem spec_l7host.e0 {p:Prop} (h:p:=by
  have H':=Aside0.mk H
  clear H
  have p305:0≤(x4_2:Int):=of_decide_eq_true gq3
  have q305:x4_2<(t301.length:Int):=of_decide_eq_true gq3
  obtain⟨ad305,e305,hx305_0⟩:=Kd.at_string (Kd.R_reads' HO_3.out).2.2 x4_2 p305 q305
  obtain rfl:ad304=ad305:=(by injection e305)
  replace p305:=eq_true p305
  replace q305:=eq_true q305
  have p306:0≤(x4_2:Int):=of_decide_eq_true gq3
  have q306:x4_2<(t301.length:Int):=of_decide_eq_true gq3
  obtain⟨ad306,e306,hx306_0⟩:=Kd.at_string (Kd.R_reads' HO_3.out).2.2 x4_2 p306 q306
  obtain rfl:ad304=ad306:=(by injection e306)
  replace p306:=eq_true p306
  replace q306:=eq_true q306
  have p16:0≤(x5_3:Int):=of_decide_eq_true gq3
  have q16:x5_3<((rdOf ByteArray.empty t301 x4_2).size:Int):=of_decide_eq_true gq3
  have hx16:=bt_at (rdOf ByteArray.empty t301 x4_2) x5_3
  replace p16:=eq_true p16
  replace q16:=eq_true q16
  go_wp2_with(first|(go_at_call 77;(with_reducible refine(spec_l1digit.calls (bt (rdOf ByteArray.empty t301 x4_2) x5_3) false _ A22.out).mono ?_);rintro e w' ⟨rfl,⟨nd,rfl⟩⟩)|(go_at_call 77;(with_reducible refine(spec_l1digit.calls (bt (rdOf ByteArray.empty t301 x4_2) x5_3) true _ A22.out).mono ?_);rintro e w' ⟨rfl,⟨nd,rfl⟩⟩)|(go_at_call 77;(with_reducible refine(spec_l1digit.calls (bt (rdOf ByteArray.empty t301 x4_2) x5_3) false _ A19.out).mono ?_);rintro e w' ⟨rfl,⟨nd,rfl⟩⟩)|(go_at_call 77;(with_reducible refine(spec_l1digit.calls (bt (rdOf ByteArray.empty t301 x4_2) x5_3) true _ A19.out).mono ?_);rintro e w' ⟨rfl,⟨nd,rfl⟩⟩))
  go_roundg k3
  case measure=>have:=HJ1.out;have:=HK2.out;have:=HK3.out;omega
  case rel=>exact⟨(wrap64 (x5_3+1)),gq4,H',⟨gq75⟩,⟨gRo⟩,⟨gBe⟩⟩):p:=h
theorem spec_l7host.e1 {p:Prop} (h:p:=by
  obtain rfl:=Option.some.inj H
  have p305:0≤(x4_2:Int):=of_decide_eq_true gq3
  have q305:x4_2<(t301.length:Int):=of_decide_eq_true gq3
  obtain⟨ad305,e305,hx305_0⟩:=Kd.at_string (Kd.R_reads' HO_3.out).2.2 x4_2 p305 q305
  obtain rfl:ad304=ad305:=(by injection e305)
  replace p305:=eq_true p305
  replace q305:=eq_true q305
  have p306:0≤(x4_2:Int):=of_decide_eq_true gq3
  have q306:x4_2<(t301.length:Int):=of_decide_eq_true gq3
  obtain⟨ad306,e306,hx306_0⟩:=Kd.at_string (Kd.R_reads' HO_3.out).2.2 x4_2 p306 q306
  obtain rfl:ad304=ad306:=(by injection e306)
  replace p306:=eq_true p306
  replace q306:=eq_true q306
  have p16:0≤(x5_3:Int):=of_decide_eq_true gq3
  have q16:x5_3<((rdOf ByteArray.empty t301 x4_2).size:Int):=of_decide_eq_true gq3
  have hx16:=bt_at (rdOf ByteArray.empty t301 x4_2) x5_3
  replace p16:=eq_true p16
  replace q16:=eq_true q16
  go_wp2_with(first|(go_at_call 77;(with_reducible refine(spec_l1digit.calls (bt (rdOf ByteArray.empty t301 x4_2) x5_3) false _ A22.out).mono ?_);rintro e w' ⟨rfl,⟨nd,rfl⟩⟩)|(go_at_call 77;(with_reducible refine(spec_l1digit.calls (bt (rdOf ByteArray.empty t301 x4_2) x5_3) false _ A19.out).mono ?_);rintro e w' ⟨rfl,⟨nd,rfl⟩⟩))
  go_ret
  exact⟨gq2,gBe⟩):p:=h
set_option maxHeartbeats 8000000 in
set_option maxRecDepth 100000 in
theorem spec_l7host.calls (k:Nat) (a0:ByteArray) (r:Bool) (w:World) (h:spec_l7host.f k a0=some r) :
  Calls Tryz.prog 183 #[.string a0] w fun e w'=>e = .returned (.bool r)∧Below w.heap.size w w':=by
 have HB:=Aside0.mk (Below.refl w.heap.size w)
 have H:=h
 clear h
 unfold spec_l7host.f at H
 have HC2:=Aside0.mk H
 clear H
 go_enter Tryz.func183,Tryz.ntmps183
 go_upto_region 1 with(fail)
 go_cut [14] (fun v14 wc=>∃(kq:Nat) (x14_1:Bool),v14 = .bool x14_1∧Aside0 (spec_l7host.j0 kq a0 x14_1=some r)∧Aside0 (kq≤k)∧Aside0 (Below w.heap.size w wc))
 case first=>
  have H:=HC2.out
  clear HC2
  replace H:=gI H
  rcases H with⟨c3,-,-,H⟩|⟨c3,-,-,H⟩
  ·have c3b0:((a0.size:Int)==0)=true:=beq_iff_eq.mpr c3
   have c3b1:((a0.size:Int) != 0)=false:=bne_eq_false_iff_eq.mpr c3
   clear c3
   (first|rw[c3b0]|(simp only[i64_w,i32_w];rw[c3b0])|skip)
   have H':=Aside0.mk H
   clear H
   go_wp2
   go_meet
   case rel=>exact⟨_,(true),gq4,H',⟨gq8⟩,⟨gBe⟩⟩
  ·have c3b0:((a0.size:Int)==0)=false:=beq_eq_false_iff_ne.mpr c3
   have c3b1:((a0.size:Int) != 0)=true:=bne_iff_ne.mpr c3
   (first|rw[c3b0]|(simp only[i64_w,i32_w];rw[c3b0])|skip)
   have H':=Aside0.mk H
   clear H
   go_wp2
   go_meet
   case rel=>exact⟨_,(decide ((a0.size:Int)>60)),gq4,H',⟨gq8⟩,⟨gBe⟩⟩
 case rest=>
  clear HC2
  obtain⟨kq,x14_1,rfl,HA,HJ1,HB⟩:=hcut
  cases kq with
  |zero=>exact absurd HA.out (by simp[spec_l7host.j0])
  |succ kj1=>
   have H:=HA.out
   clear HA
   simp only[spec_l7host.j0] at H
   replace H:=gB H
   rcases H with⟨rfl,H⟩|⟨rfl,H⟩
   ·obtain rfl:=Option.some.inj H
    go_wp2
    go_ret
    exact⟨gq2,gBe⟩
   ·replace H:=gD H
    obtain⟨t301,A5,H⟩:=H
    have H':=Aside0.mk H
    clear H
    go_wp2_with(first|((with_reducible refine gate_callee (f:=181) rfl ?_);refine goesL_ (some 16) rfl rfl Tryz.func181 (by kernel_rfl) rfl #[.string a0,.int .u8 46] rfl gq0 ?_;(with_reducible refine(spec_l7split.calls kj1 a0 46 t301 _ A5.out).mono ?_);rintro e w6 ⟨v302,rfl,ho0,hb⟩;refine⟨_,rfl,?_⟩;have HO303:=Aside0.mk (Kd.R_lower ho0 (below_size gBe));replace HB:=beA hb;(try clear hb);(try clear hb2);(try clear hk);(try clear hi);(try clear ho0)))
    go_loopg [4] kj1 (fun kq v4 w'=>∃(x4_2:Int),v4 = .int .i64 x4_2∧Aside0 (spec_l7host.l0 kq t301 x4_2=some r)∧Aside0 (kq≤kj1)∧Aside0 (Kd.R Kd.string 9 w' w.heap.size (fun _=>True) v302 t301)∧Aside0 (Below w.heap.size w w'))
    case atStart=>exact⟨(0),gq4,H',⟨Nat.le_refl _⟩,⟨gRo⟩,⟨gBe⟩⟩
    case round=>
     clear H'
     obtain⟨x4_2,rfl,HA,HK2,HO_3,HB⟩:=hrel
     cases gk with
     |zero=>exact absurd HA.out (by simp[spec_l7host.l0])
     |succ k2=>
      have H:=HA.out
      clear HA
      simp only[spec_l7host.l0] at H
      replace H:=gI H
      rcases H with⟨-,c7b0,-,H⟩|⟨-,c7b0,-,H⟩
      ·replace H:=gN H
       obtain⟨-,c8b0,-,H⟩:=H
       replace H:=gI H
       rcases H with⟨c9,-,-,H⟩|⟨c9,-,-,H⟩
       ·have c9b0:((rdOf ByteArray.empty t301 x4_2).toList==([]:List UInt8))=true:=beq_iff_eq.mpr c9
        have c9b1:((rdOf ByteArray.empty t301 x4_2).toList != ([]:List UInt8))=false:=bne_eq_false_iff_eq.mpr c9
        clear c9
        obtain rfl:=Option.some.inj H
        obtain⟨Ao10,co10,eo10⟩:=Kd.R_slice HO_3.out
        subst eo10
        have p304:0≤(x4_2:Int):=of_decide_eq_true gq3
        have q304:x4_2<(t301.length:Int):=of_decide_eq_true gq3
        obtain⟨ad304,e304,hx304_0⟩:=Kd.at_string (Kd.R_reads' HO_3.out).2.2 x4_2 p304 q304
        cases e304
        replace p304:=eq_true p304
        replace q304:=eq_true q304
        go_wp2
        go_ret
        exact⟨gq2,gBe⟩
       ·have c9b0:((rdOf ByteArray.empty t301 x4_2).toList==([]:List UInt8))=false:=beq_eq_false_iff_ne.mpr c9
        have c9b1:((rdOf ByteArray.empty t301 x4_2).toList != ([]:List UInt8))=true:=bne_iff_ne.mpr c9
        have H':=Aside0.mk H
        clear H
        obtain⟨Ao11,co11,eo11⟩:=Kd.R_slice HO_3.out
        subst eo11
        have p304:0≤(x4_2:Int):=of_decide_eq_true gq3
        have q304:x4_2<(t301.length:Int):=of_decide_eq_true gq3
        obtain⟨ad304,e304,hx304_0⟩:=Kd.at_string (Kd.R_reads' HO_3.out).2.2 x4_2 p304 q304
        cases e304
        replace p304:=eq_true p304
        replace q304:=eq_true q304
        go_wp2
        go_loopg [5] k2 (fun kq v5 w'=>∃(x5_3:Int),v5 = .int .i64 x5_3∧Aside0 (spec_l7host.l1 kq t301 x4_2 x5_3=some r)∧Aside0 (kq≤k2)∧Aside0 (Kd.R Kd.string 9 w' w.heap.size (fun _=>True) (.slice (some ad304) t301.length co11) t301)∧Aside0 (Below w.heap.size w w'))
        case atStart=>exact⟨(0),gq4,H',⟨Nat.le_refl _⟩,⟨gRo⟩,⟨gBe⟩⟩
        case round=>
         clear H'
         try clear c7b0
         try clear c8b0
         try clear c9
         try clear c9b0
         try clear c9b1
         try clear hx304_0
         try clear p304
         try clear q304
         obtain⟨x5_3,rfl,HA,HK3,HO_3,HB⟩:=hrel
         cases gk with
         |zero=>exact absurd HA.out (by simp[spec_l7host.l1])
         |succ k3=>
          have H:=HA.out
          clear HA
          simp only[spec_l7host.l1] at H
          replace H:=gN H
          obtain⟨-,c12b0,-,H⟩:=H
          replace H:=gN H
          obtain⟨-,c13b0,-,H⟩:=H
          replace H:=gI H
          rcases H with⟨-,c14b0,-,H⟩|⟨-,c14b0,-,H⟩
          ·replace H:=gN H
           obtain⟨-,c15b0,-,H⟩:=H
           replace H:=gI H
           rcases H with⟨c17,-,-,H⟩|⟨c17,-,-,H⟩
           ·have c17b0:decide (97≤(bt (rdOf ByteArray.empty t301 x4_2) x5_3))=true:=decide_eq_true c17
            clear c17
            replace H:=gI H
            rcases H with⟨c18,-,-,H⟩|⟨c18,-,-,H⟩
            ·have c18b0:decide ((bt (rdOf ByteArray.empty t301 x4_2) x5_3)≤122)=true:=decide_eq_true c18
             clear c18
             have H':=Aside0.mk H
             clear H
             have p305:0≤(x4_2:Int):=of_decide_eq_true gq3
             have q305:x4_2<(t301.length:Int):=of_decide_eq_true gq3
             obtain⟨ad305,e305,hx305_0⟩:=Kd.at_string (Kd.R_reads' HO_3.out).2.2 x4_2 p305 q305
             obtain rfl:ad304=ad305:=(by injection e305)
             replace p305:=eq_true p305
             replace q305:=eq_true q305
             have p306:0≤(x4_2:Int):=of_decide_eq_true gq3
             have q306:x4_2<(t301.length:Int):=of_decide_eq_true gq3
             obtain⟨ad306,e306,hx306_0⟩:=Kd.at_string (Kd.R_reads' HO_3.out).2.2 x4_2 p306 q306
             obtain rfl:ad304=ad306:=(by injection e306)
             replace p306:=eq_true p306
             replace q306:=eq_true q306
             have p16:0≤(x5_3:Int):=of_decide_eq_true gq3
             have q16:x5_3<((rdOf ByteArray.empty t301 x4_2).size:Int):=of_decide_eq_true gq3
             have hx16:=bt_at (rdOf ByteArray.empty t301 x4_2) x5_3
             replace p16:=eq_true p16
             replace q16:=eq_true q16
             go_wp2
             go_roundg k3
             case measure=>have:=HJ1.out;have:=HK2.out;have:=HK3.out;omega
             case rel=>exact⟨(wrap64 (x5_3+1)),gq4,H',⟨gq75⟩,⟨gRo⟩,⟨gBe⟩⟩
            ·have c18b0:decide ((bt (rdOf ByteArray.empty t301 x4_2) x5_3)≤122)=false:=decide_eq_false c18
             clear c18
             replace H:=gD H
             obtain⟨t307,A19,H⟩:=H
             replace H:=gB H
             rcases H with⟨rfl,H⟩|⟨rfl,H⟩
             ·exact spec_l7host.e0
             ·replace H:=gI H
              rcases H with⟨c21,-,-,H⟩|⟨c21,-,-,H⟩
              ·have c21b0:((bt (rdOf ByteArray.empty t301 x4_2) x5_3)==45)=true:=beq_iff_eq.mpr c21
               have c21b1:((bt (rdOf ByteArray.empty t301 x4_2) x5_3) != 45)=false:=bne_eq_false_iff_eq.mpr c21
               clear c21
               exact spec_l7host.e0
              ·have c21b0:((bt (rdOf ByteArray.empty t301 x4_2) x5_3)==45)=false:=beq_eq_false_iff_ne.mpr c21
               have c21b1:((bt (rdOf ByteArray.empty t301 x4_2) x5_3) != 45)=true:=bne_iff_ne.mpr c21
               exact spec_l7host.e1
           ·have c17b0:decide (97≤(bt (rdOf ByteArray.empty t301 x4_2) x5_3))=false:=decide_eq_false c17
            clear c17
            replace H:=gD H
            obtain⟨t308,A22,H⟩:=H
            replace H:=gB H
            rcases H with⟨rfl,H⟩|⟨rfl,H⟩
            ·exact spec_l7host.e0
            ·replace H:=gI H
             rcases H with⟨c24,-,-,H⟩|⟨c24,-,-,H⟩
             ·have c24b0:((bt (rdOf ByteArray.empty t301 x4_2) x5_3)==45)=true:=beq_iff_eq.mpr c24
              have c24b1:((bt (rdOf ByteArray.empty t301 x4_2) x5_3) != 45)=false:=bne_eq_false_iff_eq.mpr c24
              clear c24
              exact spec_l7host.e0
             ·have c24b0:((bt (rdOf ByteArray.empty t301 x4_2) x5_3)==45)=false:=beq_eq_false_iff_ne.mpr c24
              have c24b1:((bt (rdOf ByteArray.empty t301 x4_2) x5_3) != 45)=true:=bne_iff_ne.mpr c24
              exact spec_l7host.e1
          ·have H':=Aside0.mk H
           clear H
           have p305:0≤(x4_2:Int):=of_decide_eq_true gq3
           have q305:x4_2<(t301.length:Int):=of_decide_eq_true gq3
           obtain⟨ad305,e305,hx305_0⟩:=Kd.at_string (Kd.R_reads' HO_3.out).2.2 x4_2 p305 q305
           obtain rfl:ad304=ad305:=(by injection e305)
           replace p305:=eq_true p305
           replace q305:=eq_true q305
           go_wp2
           go_roundg k3
           case measure=>have:=HJ1.out;have:=HK2.out;have:=HK3.out;omega
           case rel=>exact⟨(wrap64 (x4_2+1)),gq4,H',⟨gq75⟩,⟨gRo⟩,⟨gBe⟩⟩
      ·obtain rfl:=Option.some.inj H
       obtain⟨Ao25,co25,eo25⟩:=Kd.R_slice HO_3.out
       subst eo25
       go_wp2
       go_ret
       exact⟨gq2,gBe⟩


def spec_l7port.f (k:Nat) (a0_0:ByteArray) (a0_1:Int) (a0_2:ByteArray) (a0_3:ByteArray) (a0_4:Bool):Option (ByteArray):=if a0_1=80 then(some (⟨#[]⟩:ByteArray)) else((spec_DecText.f k a0_1).bind fun t315=>(if 1+t315.size≤9223372036854775807 then(some ((⟨#[58]⟩:ByteArray)++t315)) else(none)))
theorem spec_l7port.e0 {p:Prop} (h:p:=by
  obtain rfl:=Option.some.inj H
  go_enter Tryz.func184,Tryz.ntmps184
  go_wp2_with(first|((with_reducible refine gate_dst (N:=1) rfl ?_);refine boxA #[.string a0_0,.int .i64 a0_1,.string a0_2,.string a0_3,.bool a0_4] 92 ?_;intro gb314 hg wq0a hbox hb;have BK314:=Aside0.mk (hbox);have GW314:=geA hg;have GE314:=geA hg;replace HB:=beA hb;clear hb hbox hg;obtain⟨_,_,_,_,_⟩:=czA5 BK314;obtain⟨_,_,_,_,_⟩:=cfA5 BK314)|((with_reducible refine gate_callee (f:=102) rfl ?_);refine goesL_ (some 8) rfl rfl Tryz.func102 (by kernel_rfl) rfl #[.int .i64 a0_1] rfl gq0 ?_;(with_reducible refine(spec_DecText.calls k a0_1 t315 _ A5.out).mono ?_);rintro e wq1a ⟨rfl,hb⟩;refine⟨_,rfl,?_⟩;replace BK314:=blA (g:=gb314) hb;replace HB:=beA hb;(try clear hb);(try clear hb2);(try clear hk);(try clear hi)))
  go_ret
  exact⟨gq2,gBe⟩):p:=h
set_option maxHeartbeats 8000000 in
set_option maxRecDepth 100000 in
theorem spec_l7port.calls (k:Nat) (a0_0:ByteArray) (a0_1:Int) (a0_2:ByteArray) (a0_3:ByteArray) (a0_4:Bool) (r:ByteArray) (w:World) (h:spec_l7port.f k a0_0 a0_1 a0_2 a0_3 a0_4=some r) :
  Calls Tryz.prog 184 #[.agg #[.string a0_0,.int .i64 a0_1,.string a0_2,.string a0_3,.bool a0_4]] w fun e w'=>e = .returned (.string r)∧Below w.heap.size w w':=by
 have hu92:=Tryz.underlying92
 have HB:=Aside0.mk (Below.refl w.heap.size w)
 have H:=h
 clear h
 unfold spec_l7port.f at H
 replace H:=gI H
 rcases H with⟨c2,-,-,H⟩|⟨c2,-,-,H⟩
 ·have c2b0:(a0_1==80)=true:=beq_iff_eq.mpr c2
  have c2b1:(a0_1 != 80)=false:=bne_eq_false_iff_eq.mpr c2
  clear c2
  exact spec_l7port.e0
 ·have c2b0:(a0_1==80)=false:=beq_eq_false_iff_ne.mpr c2
  have c2b1:(a0_1 != 80)=true:=bne_iff_ne.mpr c2
  replace H:=gD H
  obtain⟨t315,A5,H⟩:=H
  replace H:=gI H
  rcases H with⟨c6,c6b1,c6b0,H⟩|⟨c6,-,-,H⟩
  ·try have c6b2:(9223372036854775807<1+t315.size)=False:=eq_false (Nat.not_lt.2 c6)
   exact spec_l7port.e0
  ·exact absurd H (by simp)

def spec_l7query.f (a0_0:ByteArray) (a0_1:Int) (a0_2:ByteArray) (a0_3:ByteArray) (a0_4:Bool):Option (ByteArray):=if a0_4=true then(if 1+a0_3.size≤9223372036854775807 then(some ((⟨#[63]⟩:ByteArray)++a0_3)) else(none)) else(some (⟨#[]⟩:ByteArray))
theorem spec_l7query.e0 {p:Prop} (h:p:=by
  obtain rfl:=Option.some.inj H
  go_enter Tryz.func185,Tryz.ntmps185
  go_wp2_with(first|((with_reducible refine gate_dst (N:=1) rfl ?_);refine boxA #[.string a0_0,.int .i64 a0_1,.string a0_2,.string a0_3,.bool false] 92 ?_;intro gb318 hg wq1a hbox hb;have BK318:=Aside0.mk (hbox);have GW318:=geA hg;have GE318:=geA hg;replace HB:=beA hb;clear hb hbox hg;obtain⟨_,_,_,_,_⟩:=czA5 BK318;obtain⟨_,_,_,_,_⟩:=cfA5 BK318)|((with_reducible refine gate_dst (N:=1) rfl ?_);refine boxA #[.string a0_0,.int .i64 a0_1,.string a0_2,.string a0_3,.bool true] 92 ?_;intro gb318 hg wq0a hbox hb;have BK318:=Aside0.mk (hbox);have GW318:=geA hg;have GE318:=geA hg;replace HB:=beA hb;clear hb hbox hg;obtain⟨_,_,_,_,_⟩:=czA5 BK318;obtain⟨_,_,_,_,_⟩:=cfA5 BK318))
  go_ret
  exact⟨gq2,gBe⟩):p:=h
set_option maxHeartbeats 8000000 in
set_option maxRecDepth 100000 in
theorem spec_l7query.calls (a0_0:ByteArray) (a0_1:Int) (a0_2:ByteArray) (a0_3:ByteArray) (a0_4:Bool) (r:ByteArray) (w:World) (h:spec_l7query.f a0_0 a0_1 a0_2 a0_3 a0_4=some r) :
  Calls Tryz.prog 185 #[.agg #[.string a0_0,.int .i64 a0_1,.string a0_2,.string a0_3,.bool a0_4]] w fun e w'=>e = .returned (.string r)∧Below w.heap.size w w':=by
 have hu92:=Tryz.underlying92
 have HB:=Aside0.mk (Below.refl w.heap.size w)
 have H:=h
 clear h
 unfold spec_l7query.f at H
 replace H:=gB H
 rcases H with⟨rfl,H⟩|⟨rfl,H⟩
 ·replace H:=gN H
  obtain⟨c3,c3b1,c3b0,H⟩:=H
  try have c3b2:(9223372036854775807<1+a0_3.size)=False:=eq_false (Nat.not_lt.2 c3)
  exact spec_l7query.e0
 ·exact spec_l7query.e0

def spec_l7text.f (k:Nat) (a0_0:ByteArray) (a0_1:Int) (a0_2:ByteArray) (a0_3:ByteArray) (a0_4:Bool):Option (ByteArray):=if 7+a0_0.size≤9223372036854775807 then((spec_l7port.f k a0_0 a0_1 a0_2 a0_3 a0_4).bind fun t320=>(if((⟨#[104,116,116,112,58,47,47]⟩:ByteArray)++a0_0).size+t320.size≤9223372036854775807 then(if(((⟨#[104,116,116,112,58,47,47]⟩:ByteArray)++a0_0)++t320).size+a0_2.size≤9223372036854775807 then((spec_l7query.f a0_0 a0_1 a0_2 a0_3 a0_4).bind fun t321=>(if((((⟨#[104,116,116,112,58,47,47]⟩:ByteArray)++a0_0)++t320)++a0_2).size+t321.size≤9223372036854775807 then(some (((((⟨#[104,116,116,112,58,47,47]⟩:ByteArray)++a0_0)++t320)++a0_2)++t321)) else(none))) else(none)) else(none))) else(none)
def spec_l7text.T1 : Bool×List (List Nat×List Nat):=(true,[([],[]),([0],[0]),([1],[1]),([],[]),([3],[3]),([2,4],[2,4]),([],[]),([6],[6]),([5,7],[5,7]),([],[]),([9,4],[9]),([8,10],[8,10]),([11,10,0,1,2,3,4,5,6,7,8,9,10,11],[11])])
def spec_l7text.B1 : List Nat:=[0,1,3,0,8,31,0,64,255,0,536,2047,4095]
theorem spec_l7text.tab1 : rtab .any (opsOf Tryz.f144 1)=spec_l7text.T1:=by kernel_rfl
theorem spec_l7text.bits1 : waitsOk spec_l7text.T1.2 spec_l7text.B1=true:=by kernel_rfl
set_option maxHeartbeats 8000000 in
set_option maxRecDepth 100000 in
theorem spec_l7text.calls (k:Nat) (a0_0:ByteArray) (a0_1:Int) (a0_2:ByteArray) (a0_3:ByteArray) (a0_4:Bool) (r:ByteArray) (w:World) (h:spec_l7text.f k a0_0 a0_1 a0_2 a0_3 a0_4=some r) :
  Calls Tryz.prog 144 #[.agg #[.string a0_0,.int .i64 a0_1,.string a0_2,.string a0_3,.bool a0_4]] w fun e w'=>e = .returned (.string r)∧Below w.heap.size w w':=by
 have hu92:=Tryz.underlying92
 have HB:=Aside0.mk (Below.refl w.heap.size w)
 have H:=h
 clear h
 unfold spec_l7text.f at H
 replace H:=gI H
 rcases H with⟨c2,c2b1,c2b0,H⟩|⟨c2,-,-,H⟩
 ·try have c2b2:(9223372036854775807<7+a0_0.size)=False:=eq_false (Nat.not_lt.2 c2)
  replace H:=gD H
  obtain⟨t320,A3,H⟩:=H
  replace H:=gN H
  obtain⟨c4,c4b1,c4b0,H⟩:=H
  try have c4b2:(9223372036854775807<((⟨#[104,116,116,112,58,47,47]⟩:ByteArray)++a0_0).size+t320.size)=False:=eq_false (Nat.not_lt.2 c4)
  try have c4b3:(9223372036854775807<7+a0_0.size+t320.size)=False:=by have h_:=c4;simp only[ByteArray.size_append] at h_;exact eq_false (Nat.not_lt.2 h_)
  replace H:=gN H
  obtain⟨c5,c5b1,c5b0,H⟩:=H
  try have c5b2:(9223372036854775807<(((⟨#[104,116,116,112,58,47,47]⟩:ByteArray)++a0_0)++t320).size+a0_2.size)=False:=eq_false (Nat.not_lt.2 c5)
  try have c5b3:(9223372036854775807<7+a0_0.size+t320.size+a0_2.size)=False:=by have h_:=c5;simp only[ByteArray.size_append] at h_;exact eq_false (Nat.not_lt.2 h_)
  replace H:=gD H
  obtain⟨t321,A6,H⟩:=H
  replace H:=gN H
  obtain⟨c7,c7b1,c7b0,H⟩:=H
  try have c7b2:(9223372036854775807<((((⟨#[104,116,116,112,58,47,47]⟩:ByteArray)++a0_0)++t320)++a0_2).size+t321.size)=False:=eq_false (Nat.not_lt.2 c7)
  try have c7b3:(9223372036854775807<7+a0_0.size+t320.size+a0_2.size+t321.size)=False:=by have h_:=c7;simp only[ByteArray.size_append] at h_;exact eq_false (Nat.not_lt.2 h_)
  obtain rfl:=Option.some.inj H
  go_enter Tryz.func144,Tryz.ntmps144
  try go_wp2_with(((with_reducible refine gate_dst (N:=1) rfl ?_);refine boxA #[.string a0_0,.int .i64 a0_1,.string a0_2,.string a0_3,.bool a0_4] 92 ?_;intro gb319 hg wq0a hbox hb;have BK319:=Aside0.mk (hbox);have GE319:=geA hg;replace HB:=beA hb;clear hb hbox hg))
  replace BK319:=Aside0.mk (blk_drew BK319.out)
  replace HB:=Aside0.mk (below_drew1 HB.out)
  refine startF (n:=13) (S:=fun w'=>w'.cell? ⟨gb319,0,none⟩=some (.string a0_0)∧w'.cell? ⟨gb319,1,none⟩=some (.int .i64 a0_1)∧w'.cell? ⟨gb319,2,none⟩=some (.string a0_2)∧w'.cell? ⟨gb319,3,none⟩=some (.string a0_3)∧w'.cell? ⟨gb319,4,none⟩=some (.bool a0_4)) (ds:=[]) (czA5 BK319) (fun hHeld=>?_);refine with_tabW spec_l7text.tab1 spec_l7text.bits1 (fun HT_ HW_=>?_)
  generalize wq0a.drew=wq1a at BK319 HB hHeld ⊢
  repeat(first|refine takeF ?_ (hy:=Or.inl ⟨by rfl,gq7⟩)|refine pureF ?_)
  refine pureT 6 (some 9) ?_
  refine takeT_ 7 (some 10) (hy:=Or.inl ⟨by rfl,gq7⟩) ?_
  refine takeT_ 9 (some 12) (hy:=Or.inl ⟨by rfl,gq7⟩) ?_
  refine oneF (fun K hK=>?_)
  refine goes_ Tryz.func184 (by kernel_rfl) rfl #[.agg #[.string a0_0,.int .i64 a0_1,.string a0_2,.string a0_3,.bool a0_4]] (by rfl) rfl rfl gq0 ?_
  with_reducible refine(spec_l7port.calls k a0_0 a0_1 a0_2 a0_3 a0_4 t320 _ A3.out).mono ?_
  rintro e wq2a ⟨rfl,hb⟩
  refine⟨_,rfl,?_⟩
  replace BK319:=blA (g:=gb319) hb
  replace HB:=beA hb
  (try clear hb)
  refine hK.out _ _ (czA5 BK319) (fun hHeld=>?_)
  clear hK K
  refine normF ?_
  repeat(first|refine pureF ?_)
  refine oneF (fun K hK=>?_)
  refine goes_ Tryz.func185 (by kernel_rfl) rfl #[.agg #[.string a0_0,.int .i64 a0_1,.string a0_2,.string a0_3,.bool a0_4]] (by rfl) rfl rfl gq0 ?_
  with_reducible refine(spec_l7query.calls a0_0 a0_1 a0_2 a0_3 a0_4 t321 _ A6.out).mono ?_
  rintro e wq2a ⟨rfl,hb⟩
  refine⟨_,rfl,?_⟩
  replace BK319:=blA (g:=gb319) hb
  replace HB:=beA hb
  (try clear hb)
  refine hK.out _ _ (czA5 BK319) (fun hHeld=>?_)
  clear hK K
  refine normF ?_
  repeat(first|refine pureF ?_)
  refine done_ (done_of HT_.out (by kernel_rfl)) ?_
  try go_wp2
  go_ret
  exact⟨gq2,gBe⟩
 ·exact absurd H (by simp)


def spec_UrlOk.j0 : Nat→Bool→ByteArray→Int→ByteArray→ByteArray→Bool→Option (Bool)
 |0,_,_,_,_,_,_=>none
 |k+1,x39,x323000,x323001,x323002,x323003,x323004=>if x39=true then(some false) else(if(x323003.size:Int)>200 then(some false) else(if x323003.toList=([]:List UInt8) then((spec_l6upto.f k x323003 35).bind fun t325=>(if t325.toList=x323003.toList then((spec_l7text.f k x323000 x323001 x323002 x323003 x323004).bind fun t326=>(some (decide ((t326.size:Int)≤200)))) else(some false))) else((spec_l6visible.f k x323003).bind fun t327=>(if t327=true then((spec_l6upto.f k x323003 35).bind fun t328=>(if t328.toList=x323003.toList then((spec_l7text.f k x323000 x323001 x323002 x323003 x323004).bind fun t329=>(some (decide ((t329.size:Int)≤200)))) else(some false))) else(some false)))))
def spec_UrlOk.f (k:Nat) (a0_0:ByteArray) (a0_1:Int) (a0_2:ByteArray) (a0_3:ByteArray) (a0_4:Bool):Option (Bool):=(spec_l7host.f k a0_0).bind fun t323=>(if t323=true then(if a0_1<1 then(spec_UrlOk.j0 k true a0_0 a0_1 a0_2 a0_3 a0_4) else(if a0_1>65535 then(spec_UrlOk.j0 k true a0_0 a0_1 a0_2 a0_3 a0_4) else(if a0_2.toList=([]:List UInt8) then(spec_UrlOk.j0 k true a0_0 a0_1 a0_2 a0_3 a0_4) else((spec_CleanPath.f k a0_2).bind fun t324=>(if t324.toList=a0_2.toList then(if a0_4=true then(spec_UrlOk.j0 k false a0_0 a0_1 a0_2 a0_3 a0_4) else(spec_UrlOk.j0 k (a0_3.toList != ([]:List UInt8)) a0_0 a0_1 a0_2 a0_3 a0_4)) else(spec_UrlOk.j0 k true a0_0 a0_1 a0_2 a0_3 a0_4)))))) else(spec_UrlOk.j0 k true a0_0 a0_1 a0_2 a0_3 a0_4))
def spec_UrlOk.T1 : Bool×List (List Nat×List Nat):=(true,[([],[]),([0],[0]),([1],[1]),([2],[2]),([3,2],[3]),([4],[4]),([5,4],[4,5]),([6,4],[4,6]),([4,7],[4,7]),([8,4],[8]),([9],[9]),([10,9],[9,10]),([11,9],[9,11]),([9,12],[9,12]),([13,9],[13]),([14],[14]),([15,14],[14,15]),([16,14],[14,16]),([14,17],[14,17]),([18,14],[18]),([19],[19]),([20,19],[19,20]),([21,19,19],[19,21]),([19],[19]),([23,19],[19,23]),([22,24,19],[19,22,24]),([19,25],[19,25]),([26,22],[26]),([27],[27]),([28,27],[27,28]),([29,27],[27,29]),([30,27,27],[27,30]),([31],[31]),([32,31],[31,32]),([33,31],[31,33]),([31,34,27],[27,31,34]),([27,35],[27,35])])
def spec_UrlOk.B1 : List Nat:=[0,1,3,7,15,31,63,127,255,511,1023,2047,4095,8191,16383,32767,65535,131071,262143,524287,1048575,2097151,4194303,1048575,9437183,33554431,67108863,134217727,268435455,536870911,1073741823,2147483647,4294967295,8589934591,17179869183,34359738367,68719476735]
theorem spec_UrlOk.tab1 : rtab .any (opsOf Tryz.f143 1)=spec_UrlOk.T1:=by kernel_rfl
theorem spec_UrlOk.bits1 : waitsOk spec_UrlOk.T1.2 spec_UrlOk.B1=true:=by kernel_rfl
def spec_UrlOk.T3 : Bool×List (List Nat×List Nat):=(true,[([],[]),([0],[0]),([1],[1]),([2],[2]),([3],[3]),([4],[4]),([5,4],[4,5]),([6,4],[4,6]),([7,4,4],[4,7]),([8],[8]),([9,8],[8,9]),([10,8,8],[8,10]),([11,8],[8,11]),([8,12,4],[4,8,12]),([4,13],[4,13]),([14,11],[14]),([15],[15]),([16,15],[15,16]),([17,15,15],[15,17]),([15],[15]),([19,15],[15,19]),([18,20,15],[15,18,20]),([15,21],[15,21])])
def spec_UrlOk.B3 : List Nat:=[0,1,3,7,15,31,63,127,255,511,1023,2047,4095,8191,16383,32767,65535,131071,262143,65535,589823,2097151,4194303]
theorem spec_UrlOk.tab3 : rtab .any (opsOf Tryz.f143 3)=spec_UrlOk.T3:=by kernel_rfl
theorem spec_UrlOk.bits3 : waitsOk spec_UrlOk.T3.2 spec_UrlOk.B3=true:=by kernel_rfl
theorem spec_UrlOk.e0 {p:Prop} (h:p:=by
  have H':=Aside0.mk H
  clear H
  try go_wp2
  replace BK322:=Aside0.mk (blk_drew BK322.out)
  replace HB:=Aside0.mk (below_drew1 HB.out)
  refine startF (n:=37) (S:=fun w'=>w'.cell? ⟨gb322,0,none⟩=some (.string a0_0)∧w'.cell? ⟨gb322,1,none⟩=some (.int .i64 a0_1)∧w'.cell? ⟨gb322,2,none⟩=some (.string a0_2)∧w'.cell? ⟨gb322,3,none⟩=some (.string a0_3)∧w'.cell? ⟨gb322,4,none⟩=some (.bool a0_4)) (ds:=[]) (czA5 BK322) (fun hHeld=>?_);refine with_tabW spec_UrlOk.tab1 spec_UrlOk.bits1 (fun HT_ HW_=>?_)
  generalize w3.drew=wq0a at BK322 HB hHeld ⊢
  repeat(first|refine takeF ?_ (hy:=Or.inl ⟨by rfl,gq7⟩)|refine pureF ?_|(refine oneF (fun K hK=>?_);refine goes_ Tryz.func183 (by kernel_rfl) rfl #[.string a0_0] (by rfl) rfl rfl gq0 ?_;(with_reducible refine(spec_l7host.calls k a0_0 false _ A4.out).mono ?_);rintro e wq3a ⟨rfl,hb⟩;refine⟨_,rfl,?_⟩;replace BK322:=blA (g:=gb322) hb;replace HB:=beA hb;(try clear hb);refine hK.out _ _ (czA5 BK322) (fun hHeld=>?_);clear hK K;refine normF ?_)|(refine oneF (fun K hK=>?_);refine goes_ Tryz.func183 (by kernel_rfl) rfl #[.string a0_0] (by rfl) rfl rfl gq0 ?_;(with_reducible refine(spec_l7host.calls k a0_0 true _ A4.out).mono ?_);rintro e wq1a ⟨rfl,hb⟩;refine⟨_,rfl,?_⟩;replace BK322:=blA (g:=gb322) hb;replace HB:=beA hb;(try clear hb);refine hK.out _ _ (czA5 BK322) (fun hHeld=>?_);clear hK K;refine normF ?_))
  refine done_ (done_of HT_.out (by kernel_rfl)) ?_
  try go_wp2
  go_meet
  case rel=>exact⟨_,(true),gq4,H',⟨gq8⟩,⟨gBk⟩,⟨gBe⟩⟩):p:=h
theorem spec_UrlOk.e1 {p:Prop} (h:p:=by
  obtain rfl:=Option.some.inj H
  try go_wp2
  replace BK322:=Aside0.mk (blk_drew BK322.out)
  replace HB:=Aside0.mk (below_drew1 HB.out)
  refine startF (n:=23) (S:=fun w'=>w'.cell? ⟨gb322,0,none⟩=some (.string a0_0)∧w'.cell? ⟨gb322,1,none⟩=some (.int .i64 a0_1)∧w'.cell? ⟨gb322,2,none⟩=some (.string a0_2)∧w'.cell? ⟨gb322,3,none⟩=some (.string a0_3)∧w'.cell? ⟨gb322,4,none⟩=some (.bool a0_4)) (ds:=[]) (czA5 BK322) (fun hHeld=>?_);refine with_tabW spec_UrlOk.tab3 spec_UrlOk.bits3 (fun HT_ HW_=>?_)
  generalize wc.drew=wq4a at BK322 HB hHeld ⊢
  repeat(first|refine takeF ?_ (hy:=Or.inl ⟨by rfl,gq7⟩)|refine pureF ?_|(refine oneF (fun K hK=>?_);refine goes_ Tryz.func100 (by kernel_rfl) rfl #[.string a0_3] (by rfl) rfl rfl gq0 ?_;(with_reducible refine(spec_l6visible.calls kj1 a0_3 false _ A40.out).mono ?_);rintro e w' ⟨rfl,⟨nd,rfl⟩⟩;refine⟨_,rfl,?_⟩;refine hK.out _ _ (czA5 BK322) (fun hHeld=>?_);clear hK K;refine normF ?_))
  refine done_ (done_of HT_.out (by kernel_rfl)) ?_
  try go_wp2
  go_ret
  exact⟨gq2,gBe⟩):p:=h
set_option maxHeartbeats 8000000 in
set_option maxRecDepth 100000 in
theorem spec_UrlOk.calls (k:Nat) (a0_0:ByteArray) (a0_1:Int) (a0_2:ByteArray) (a0_3:ByteArray) (a0_4:Bool) (r:Bool) (w:World) (h:spec_UrlOk.f k a0_0 a0_1 a0_2 a0_3 a0_4=some r) :
  Calls Tryz.prog 143 #[.agg #[.string a0_0,.int .i64 a0_1,.string a0_2,.string a0_3,.bool a0_4]] w fun e w'=>e = .returned (.bool r)∧Below w.heap.size w w':=by
 have hu92:=Tryz.underlying92
 have HB:=Aside0.mk (Below.refl w.heap.size w)
 have H:=h
 clear h
 unfold spec_UrlOk.f at H
 have HC2:=Aside0.mk H
 clear H
 go_enter Tryz.func143,Tryz.ntmps143
 go_upto_region 1 with(first|((with_reducible refine gate_dst (N:=1) rfl ?_);refine boxA #[.string a0_0,.int .i64 a0_1,.string a0_2,.string a0_3,.bool a0_4] 92 ?_;intro gb322 hg w3 hbox hb;have BK322:=Aside0.mk (hbox);have GE322:=geA hg;replace HB:=beA hb;clear hb hbox hg))
 (try simp only[Act.put,List.setIfInBounds_toArray,List.set_cons_zero,List.set_cons_succ])
 go_cut [39] (fun v39 wc=>∃(kq:Nat) (x39_1:Bool),v39 = .bool x39_1∧Aside0 (spec_UrlOk.j0 kq x39_1 a0_0 a0_1 a0_2 a0_3 a0_4=some r)∧Aside0 (kq≤k)∧Aside0 (wc.heap[gb322]? = some (.cells #[.string a0_0,.int .i64 a0_1,.string a0_2,.string a0_3,.bool a0_4] 92 (0,0)))∧Aside0 (Below w.heap.size w wc))
 case first=>
  have H:=HC2.out
  clear HC2
  replace H:=gD H
  obtain⟨t323,A4,H⟩:=H
  replace H:=gB H
  rcases H with⟨rfl,H⟩|⟨rfl,H⟩
  ·replace H:=gI H
   rcases H with⟨-,c6b0,-,H⟩|⟨-,c6b0,-,H⟩
   ·(first|rw[c6b0]|(simp only[i64_w,i32_w];rw[c6b0])|skip)
    exact spec_UrlOk.e0
   ·(first|rw[c6b0]|(simp only[i64_w,i32_w];rw[c6b0])|skip)
    replace H:=gI H
    rcases H with⟨c9,-,-,H⟩|⟨c9,-,-,H⟩
    ·have c9b0:decide (65535<a0_1)=true:=decide_eq_true c9
     clear c9
     exact spec_UrlOk.e0
    ·have c9b0:decide (65535<a0_1)=false:=decide_eq_false c9
     clear c9
     replace H:=gI H
     rcases H with⟨c12,-,-,H⟩|⟨c12,-,-,H⟩
     ·have c12b0:(a0_2.toList==([]:List UInt8))=true:=beq_iff_eq.mpr c12
      have c12b1:(a0_2.toList != ([]:List UInt8))=false:=bne_eq_false_iff_eq.mpr c12
      clear c12
      exact spec_UrlOk.e0
     ·have c12b0:(a0_2.toList==([]:List UInt8))=false:=beq_eq_false_iff_ne.mpr c12
      have c12b1:(a0_2.toList != ([]:List UInt8))=true:=bne_iff_ne.mpr c12
      replace H:=gD H
      obtain⟨t324,A15,H⟩:=H
      replace H:=gI H
      rcases H with⟨c16,-,-,H⟩|⟨c16,-,-,H⟩
      ·have c16b0:(t324.toList==a0_2.toList)=true:=beq_iff_eq.mpr c16
       have c16b1:(t324.toList != a0_2.toList)=false:=bne_eq_false_iff_eq.mpr c16
       clear c16
       replace H:=gB H
       rcases H with⟨rfl,H⟩|⟨rfl,H⟩
       ·have H':=Aside0.mk H
        clear H
        try go_wp2
        replace BK322:=Aside0.mk (blk_drew BK322.out)
        replace HB:=Aside0.mk (below_drew1 HB.out)
        refine startF (n:=37) (S:=fun w'=>w'.cell? ⟨gb322,0,none⟩=some (.string a0_0)∧w'.cell? ⟨gb322,1,none⟩=some (.int .i64 a0_1)∧w'.cell? ⟨gb322,2,none⟩=some (.string a0_2)∧w'.cell? ⟨gb322,3,none⟩=some (.string a0_3)∧w'.cell? ⟨gb322,4,none⟩=some (.bool true)) (ds:=[]) (czA5 BK322) (fun hHeld=>?_);refine with_tabW spec_UrlOk.tab1 spec_UrlOk.bits1 (fun HT_ HW_=>?_)
        generalize w3.drew=wq0a at BK322 HB hHeld ⊢
        repeat(first|refine takeF ?_ (hy:=Or.inl ⟨by rfl,gq7⟩)|refine pureF ?_)
        refine oneF (fun K hK=>?_)
        refine goes_ Tryz.func183 (by kernel_rfl) rfl #[.string a0_0] (by rfl) rfl rfl gq0 ?_
        with_reducible refine(spec_l7host.calls k a0_0 true _ A4.out).mono ?_
        rintro e wq2a ⟨rfl,hb⟩
        refine⟨_,rfl,?_⟩
        replace BK322:=blA (g:=gb322) hb
        replace HB:=beA hb
        (try clear hb)
        refine hK.out _ _ (czA5 BK322) (fun hHeld=>?_)
        clear hK K
        refine normF ?_
        repeat(first|refine takeF ?_ (hy:=Or.inl ⟨by rfl,gq7⟩)|refine pureF ?_)
        refine pureT 23 (some 26) ?_
        refine takeT_ 24 (some 27) (hy:=Or.inl ⟨by rfl,gq7⟩) ?_
        refine oneF (fun K hK=>?_)
        refine goes_ Tryz.func142 (by kernel_rfl) rfl #[.string a0_2] (by rfl) rfl rfl gq0 ?_
        with_reducible refine(spec_CleanPath.calls k a0_2 t324 _ A15.out).mono ?_
        rintro e wq2a ⟨rfl,hb⟩
        refine⟨_,rfl,?_⟩
        replace BK322:=blA (g:=gb322) hb
        replace HB:=beA hb
        (try clear hb)
        refine hK.out _ _ (czA5 BK322) (fun hHeld=>?_)
        clear hK K
        refine normF ?_
        repeat(first|refine takeF ?_ (hy:=Or.inl ⟨by rfl,gq7⟩)|refine pureF ?_)
        refine done_ (done_of HT_.out (by kernel_rfl)) ?_
        try go_wp2
        go_meet
        case rel=>exact⟨_,(false),gq4,H',⟨gq8⟩,⟨gBk⟩,⟨gBe⟩⟩
       ·have H':=Aside0.mk H
        clear H
        try go_wp2
        replace BK322:=Aside0.mk (blk_drew BK322.out)
        replace HB:=Aside0.mk (below_drew1 HB.out)
        refine startF (n:=37) (S:=fun w'=>w'.cell? ⟨gb322,0,none⟩=some (.string a0_0)∧w'.cell? ⟨gb322,1,none⟩=some (.int .i64 a0_1)∧w'.cell? ⟨gb322,2,none⟩=some (.string a0_2)∧w'.cell? ⟨gb322,3,none⟩=some (.string a0_3)∧w'.cell? ⟨gb322,4,none⟩=some (.bool false)) (ds:=[]) (czA5 BK322) (fun hHeld=>?_);refine with_tabW spec_UrlOk.tab1 spec_UrlOk.bits1 (fun HT_ HW_=>?_)
        generalize w3.drew=wq0a at BK322 HB hHeld ⊢
        repeat(first|refine takeF ?_ (hy:=Or.inl ⟨by rfl,gq7⟩)|refine pureF ?_)
        refine oneF (fun K hK=>?_)
        refine goes_ Tryz.func183 (by kernel_rfl) rfl #[.string a0_0] (by rfl) rfl rfl gq0 ?_
        with_reducible refine(spec_l7host.calls k a0_0 true _ A4.out).mono ?_
        rintro e wq2a ⟨rfl,hb⟩
        refine⟨_,rfl,?_⟩
        replace BK322:=blA (g:=gb322) hb
        replace HB:=beA hb
        (try clear hb)
        refine hK.out _ _ (czA5 BK322) (fun hHeld=>?_)
        clear hK K
        refine normF ?_
        repeat(first|refine takeF ?_ (hy:=Or.inl ⟨by rfl,gq7⟩)|refine pureF ?_)
        refine pureT 23 (some 26) ?_
        refine takeT_ 24 (some 27) (hy:=Or.inl ⟨by rfl,gq7⟩) ?_
        refine oneF (fun K hK=>?_)
        refine goes_ Tryz.func142 (by kernel_rfl) rfl #[.string a0_2] (by rfl) rfl rfl gq0 ?_
        with_reducible refine(spec_CleanPath.calls k a0_2 t324 _ A15.out).mono ?_
        rintro e wq2a ⟨rfl,hb⟩
        refine⟨_,rfl,?_⟩
        replace BK322:=blA (g:=gb322) hb
        replace HB:=beA hb
        (try clear hb)
        refine hK.out _ _ (czA5 BK322) (fun hHeld=>?_)
        clear hK K
        refine normF ?_
        repeat(first|refine takeF ?_ (hy:=Or.inl ⟨by rfl,gq7⟩)|refine pureF ?_)
        refine done_ (done_of HT_.out (by kernel_rfl)) ?_
        try go_wp2
        go_meet
        case rel=>exact⟨_,((a0_3.toList != ([]:List UInt8))),(by first|(simp;generalize a0_3.toList=l_;cases l_ <;> rfl)|exact gq4),H',⟨gq8⟩,⟨gBk⟩,⟨gBe⟩⟩
      ·have c16b0:(t324.toList==a0_2.toList)=false:=beq_eq_false_iff_ne.mpr c16
       have c16b1:(t324.toList != a0_2.toList)=true:=bne_iff_ne.mpr c16
       have H':=Aside0.mk H
       clear H
       try go_wp2
       replace BK322:=Aside0.mk (blk_drew BK322.out)
       replace HB:=Aside0.mk (below_drew1 HB.out)
       refine startF (n:=37) (S:=fun w'=>w'.cell? ⟨gb322,0,none⟩=some (.string a0_0)∧w'.cell? ⟨gb322,1,none⟩=some (.int .i64 a0_1)∧w'.cell? ⟨gb322,2,none⟩=some (.string a0_2)∧w'.cell? ⟨gb322,3,none⟩=some (.string a0_3)∧w'.cell? ⟨gb322,4,none⟩=some (.bool a0_4)) (ds:=[]) (czA5 BK322) (fun hHeld=>?_);refine with_tabW spec_UrlOk.tab1 spec_UrlOk.bits1 (fun HT_ HW_=>?_)
       generalize w3.drew=wq0a at BK322 HB hHeld ⊢
       repeat(first|refine takeF ?_ (hy:=Or.inl ⟨by rfl,gq7⟩)|refine pureF ?_)
       refine oneF (fun K hK=>?_)
       refine goes_ Tryz.func183 (by kernel_rfl) rfl #[.string a0_0] (by rfl) rfl rfl gq0 ?_
       with_reducible refine(spec_l7host.calls k a0_0 true _ A4.out).mono ?_
       rintro e wq2a ⟨rfl,hb⟩
       refine⟨_,rfl,?_⟩
       replace BK322:=blA (g:=gb322) hb
       replace HB:=beA hb
       (try clear hb)
       refine hK.out _ _ (czA5 BK322) (fun hHeld=>?_)
       clear hK K
       refine normF ?_
       repeat(first|refine takeF ?_ (hy:=Or.inl ⟨by rfl,gq7⟩)|refine pureF ?_)
       refine pureT 23 (some 26) ?_
       refine takeT_ 24 (some 27) (hy:=Or.inl ⟨by rfl,gq7⟩) ?_
       refine oneF (fun K hK=>?_)
       refine goes_ Tryz.func142 (by kernel_rfl) rfl #[.string a0_2] (by rfl) rfl rfl gq0 ?_
       with_reducible refine(spec_CleanPath.calls k a0_2 t324 _ A15.out).mono ?_
       rintro e wq2a ⟨rfl,hb⟩
       refine⟨_,rfl,?_⟩
       replace BK322:=blA (g:=gb322) hb
       replace HB:=beA hb
       (try clear hb)
       refine hK.out _ _ (czA5 BK322) (fun hHeld=>?_)
       clear hK K
       refine normF ?_
       repeat(first|refine pureF ?_)
       refine done_ (done_of HT_.out (by kernel_rfl)) ?_
       try go_wp2
       go_meet
       case rel=>exact⟨_,(true),gq4,H',⟨gq8⟩,⟨gBk⟩,⟨gBe⟩⟩
  ·exact spec_UrlOk.e0
 case rest=>
  clear HC2
  obtain⟨kq,x39_1,rfl,HA,HJ1,BK322,HB⟩:=hcut
  cases kq with
  |zero=>exact absurd HA.out (by simp[spec_UrlOk.j0])
  |succ kj1=>
   have H:=HA.out
   clear HA
   simp only[spec_UrlOk.j0] at H
   replace H:=gB H
   rcases H with⟨rfl,H⟩|⟨rfl,H⟩
   ·obtain rfl:=Option.some.inj H
    go_wp2
    go_ret
    exact⟨gq2,gBe⟩
   ·replace H:=gI H
    rcases H with⟨c30,-,-,H⟩|⟨c30,-,-,H⟩
    ·have c30b0:decide (200<(a0_3.size:Int))=true:=decide_eq_true c30
     have c30b1:decide (200<a0_3.size)=true:=decide_eq_true (by omega)
     clear c30
     exact spec_UrlOk.e1
    ·have c30b0:decide (200<(a0_3.size:Int))=false:=decide_eq_false c30
     have c30b1:decide (200<a0_3.size)=false:=decide_eq_false (by omega)
     clear c30
     replace H:=gI H
     rcases H with⟨c32,-,-,H⟩|⟨c32,-,-,H⟩
     ·have c32b0:(a0_3.toList==([]:List UInt8))=true:=beq_iff_eq.mpr c32
      have c32b1:(a0_3.toList != ([]:List UInt8))=false:=bne_eq_false_iff_eq.mpr c32
      clear c32
      replace H:=gD H
      obtain⟨t325,A33,H⟩:=H
      replace H:=gI H
      rcases H with⟨c34,-,-,H⟩|⟨c34,-,-,H⟩
      ·have c34b0:(t325.toList==a0_3.toList)=true:=beq_iff_eq.mpr c34
       have c34b1:(t325.toList != a0_3.toList)=false:=bne_eq_false_iff_eq.mpr c34
       clear c34
       replace H:=gD H
       obtain⟨t326,A35,H⟩:=H
       obtain rfl:=Option.some.inj H
       try go_wp2
       replace BK322:=Aside0.mk (blk_drew BK322.out)
       replace HB:=Aside0.mk (below_drew1 HB.out)
       refine startF (n:=23) (S:=fun w'=>w'.cell? ⟨gb322,0,none⟩=some (.string a0_0)∧w'.cell? ⟨gb322,1,none⟩=some (.int .i64 a0_1)∧w'.cell? ⟨gb322,2,none⟩=some (.string a0_2)∧w'.cell? ⟨gb322,3,none⟩=some (.string a0_3)∧w'.cell? ⟨gb322,4,none⟩=some (.bool a0_4)) (ds:=[]) (czA5 BK322) (fun hHeld=>?_);refine with_tabW spec_UrlOk.tab3 spec_UrlOk.bits3 (fun HT_ HW_=>?_)
       generalize wc.drew=wq4a at BK322 HB hHeld ⊢
       repeat(first|refine takeF ?_ (hy:=Or.inl ⟨by rfl,gq7⟩)|refine pureF ?_)
       refine pureT 19 (some 59) ?_
       refine takeT_ 20 (some 60) (hy:=Or.inl ⟨by rfl,gq7⟩) ?_
       refine oneF (fun K hK=>?_)
       refine goes_ Tryz.func140 (by kernel_rfl) rfl #[.string a0_3,.int .u8 35] (by rfl) rfl rfl gq0 ?_
       with_reducible refine(spec_l6upto.calls kj1 a0_3 35 t325 _ A33.out).mono ?_
       rintro e w' ⟨rfl,⟨nd,rfl⟩⟩
       refine⟨_,rfl,?_⟩
       refine hK.out _ _ (czA5 BK322) (fun hHeld=>?_)
       clear hK K
       refine normF ?_
       repeat(first|refine pureF ?_)
       refine done_ (done_of HT_.out (by kernel_rfl)) ?_
       obtain⟨_,_,_,_,_⟩:=czA5 BK322
       obtain⟨_,_,_,_,_⟩:=cfA5 BK322
       try go_wp2_with(((with_reducible refine gate_callee (f:=144) rfl ?_);refine goesL_ (some 64) rfl rfl Tryz.func144 (by kernel_rfl) rfl #[.agg #[.string a0_0,.int .i64 a0_1,.string a0_2,.string a0_3,.bool a0_4]] rfl gq0 ?_;(with_reducible refine(spec_l7text.calls kj1 a0_0 a0_1 a0_2 a0_3 a0_4 t326 _ A35.out).mono ?_);rintro e wq5a ⟨rfl,hb⟩;refine⟨_,rfl,?_⟩;replace BK322:=blA (g:=gb322) hb;replace HB:=beA hb;(try clear hb);(try clear hb2);(try clear hk);(try clear hi)))
       go_ret
       exact⟨gq2,gBe⟩
      ·have c34b0:(t325.toList==a0_3.toList)=false:=beq_eq_false_iff_ne.mpr c34
       have c34b1:(t325.toList != a0_3.toList)=true:=bne_iff_ne.mpr c34
       obtain rfl:=Option.some.inj H
       try go_wp2
       replace BK322:=Aside0.mk (blk_drew BK322.out)
       replace HB:=Aside0.mk (below_drew1 HB.out)
       refine startF (n:=23) (S:=fun w'=>w'.cell? ⟨gb322,0,none⟩=some (.string a0_0)∧w'.cell? ⟨gb322,1,none⟩=some (.int .i64 a0_1)∧w'.cell? ⟨gb322,2,none⟩=some (.string a0_2)∧w'.cell? ⟨gb322,3,none⟩=some (.string a0_3)∧w'.cell? ⟨gb322,4,none⟩=some (.bool a0_4)) (ds:=[]) (czA5 BK322) (fun hHeld=>?_);refine with_tabW spec_UrlOk.tab3 spec_UrlOk.bits3 (fun HT_ HW_=>?_)
       generalize wc.drew=wq4a at BK322 HB hHeld ⊢
       repeat(first|refine takeF ?_ (hy:=Or.inl ⟨by rfl,gq7⟩)|refine pureF ?_)
       refine pureT 19 (some 59) ?_
       refine takeT_ 20 (some 60) (hy:=Or.inl ⟨by rfl,gq7⟩) ?_
       refine oneF (fun K hK=>?_)
       refine goes_ Tryz.func140 (by kernel_rfl) rfl #[.string a0_3,.int .u8 35] (by rfl) rfl rfl gq0 ?_
       with_reducible refine(spec_l6upto.calls kj1 a0_3 35 t325 _ A33.out).mono ?_
       rintro e w' ⟨rfl,⟨nd,rfl⟩⟩
       refine⟨_,rfl,?_⟩
       refine hK.out _ _ (czA5 BK322) (fun hHeld=>?_)
       clear hK K
       refine normF ?_
       repeat(first|refine pureF ?_)
       refine done_ (done_of HT_.out (by kernel_rfl)) ?_
       try go_wp2
       go_ret
       exact⟨gq2,gBe⟩
     ·have c32b0:(a0_3.toList==([]:List UInt8))=false:=beq_eq_false_iff_ne.mpr c32
      have c32b1:(a0_3.toList != ([]:List UInt8))=true:=bne_iff_ne.mpr c32
      replace H:=gD H
      obtain⟨t327,A40,H⟩:=H
      replace H:=gB H
      rcases H with⟨rfl,H⟩|⟨rfl,H⟩
      ·replace H:=gD H
       obtain⟨t328,A42,H⟩:=H
       replace H:=gI H
       rcases H with⟨c43,-,-,H⟩|⟨c43,-,-,H⟩
       ·have c43b0:(t328.toList==a0_3.toList)=true:=beq_iff_eq.mpr c43
        have c43b1:(t328.toList != a0_3.toList)=false:=bne_eq_false_iff_eq.mpr c43
        clear c43
        replace H:=gD H
        obtain⟨t329,A44,H⟩:=H
        obtain rfl:=Option.some.inj H
        try go_wp2
        replace BK322:=Aside0.mk (blk_drew BK322.out)
        replace HB:=Aside0.mk (below_drew1 HB.out)
        refine startF (n:=23) (S:=fun w'=>w'.cell? ⟨gb322,0,none⟩=some (.string a0_0)∧w'.cell? ⟨gb322,1,none⟩=some (.int .i64 a0_1)∧w'.cell? ⟨gb322,2,none⟩=some (.string a0_2)∧w'.cell? ⟨gb322,3,none⟩=some (.string a0_3)∧w'.cell? ⟨gb322,4,none⟩=some (.bool a0_4)) (ds:=[]) (czA5 BK322) (fun hHeld=>?_);refine with_tabW spec_UrlOk.tab3 spec_UrlOk.bits3 (fun HT_ HW_=>?_)
        generalize wc.drew=wq4a at BK322 HB hHeld ⊢
        repeat(first|refine takeF ?_ (hy:=Or.inl ⟨by rfl,gq7⟩)|refine pureF ?_)
        refine oneF (fun K hK=>?_)
        refine goes_ Tryz.func100 (by kernel_rfl) rfl #[.string a0_3] (by rfl) rfl rfl gq0 ?_
        with_reducible refine(spec_l6visible.calls kj1 a0_3 true _ A40.out).mono ?_
        rintro e w' ⟨rfl,⟨nd,rfl⟩⟩
        refine⟨_,rfl,?_⟩
        refine hK.out _ _ (czA5 BK322) (fun hHeld=>?_)
        clear hK K
        refine normF ?_
        repeat(first|refine takeF ?_ (hy:=Or.inl ⟨by rfl,gq7⟩)|refine pureF ?_)
        refine pureT 19 (some 59) ?_
        refine takeT_ 20 (some 60) (hy:=Or.inl ⟨by rfl,gq7⟩) ?_
        refine oneF (fun K hK=>?_)
        refine goes_ Tryz.func140 (by kernel_rfl) rfl #[.string a0_3,.int .u8 35] (by rfl) rfl rfl gq0 ?_
        with_reducible refine(spec_l6upto.calls kj1 a0_3 35 t328 _ A42.out).mono ?_
        rintro e w' ⟨rfl,⟨nd,rfl⟩⟩
        refine⟨_,rfl,?_⟩
        refine hK.out _ _ (czA5 BK322) (fun hHeld=>?_)
        clear hK K
        refine normF ?_
        repeat(first|refine pureF ?_)
        refine done_ (done_of HT_.out (by kernel_rfl)) ?_
        obtain⟨_,_,_,_,_⟩:=czA5 BK322
        obtain⟨_,_,_,_,_⟩:=cfA5 BK322
        try go_wp2_with(((with_reducible refine gate_callee (f:=144) rfl ?_);refine goesL_ (some 64) rfl rfl Tryz.func144 (by kernel_rfl) rfl #[.agg #[.string a0_0,.int .i64 a0_1,.string a0_2,.string a0_3,.bool a0_4]] rfl gq0 ?_;(with_reducible refine(spec_l7text.calls kj1 a0_0 a0_1 a0_2 a0_3 a0_4 t329 _ A44.out).mono ?_);rintro e wq6a ⟨rfl,hb⟩;refine⟨_,rfl,?_⟩;replace BK322:=blA (g:=gb322) hb;replace HB:=beA hb;(try clear hb);(try clear hb2);(try clear hk);(try clear hi)))
        go_ret
        exact⟨gq2,gBe⟩
       ·have c43b0:(t328.toList==a0_3.toList)=false:=beq_eq_false_iff_ne.mpr c43
        have c43b1:(t328.toList != a0_3.toList)=true:=bne_iff_ne.mpr c43
        obtain rfl:=Option.some.inj H
        try go_wp2
        replace BK322:=Aside0.mk (blk_drew BK322.out)
        replace HB:=Aside0.mk (below_drew1 HB.out)
        refine startF (n:=23) (S:=fun w'=>w'.cell? ⟨gb322,0,none⟩=some (.string a0_0)∧w'.cell? ⟨gb322,1,none⟩=some (.int .i64 a0_1)∧w'.cell? ⟨gb322,2,none⟩=some (.string a0_2)∧w'.cell? ⟨gb322,3,none⟩=some (.string a0_3)∧w'.cell? ⟨gb322,4,none⟩=some (.bool a0_4)) (ds:=[]) (czA5 BK322) (fun hHeld=>?_);refine with_tabW spec_UrlOk.tab3 spec_UrlOk.bits3 (fun HT_ HW_=>?_)
        generalize wc.drew=wq4a at BK322 HB hHeld ⊢
        repeat(first|refine takeF ?_ (hy:=Or.inl ⟨by rfl,gq7⟩)|refine pureF ?_)
        refine oneF (fun K hK=>?_)
        refine goes_ Tryz.func100 (by kernel_rfl) rfl #[.string a0_3] (by rfl) rfl rfl gq0 ?_
        with_reducible refine(spec_l6visible.calls kj1 a0_3 true _ A40.out).mono ?_
        rintro e w' ⟨rfl,⟨nd,rfl⟩⟩
        refine⟨_,rfl,?_⟩
        refine hK.out _ _ (czA5 BK322) (fun hHeld=>?_)
        clear hK K
        refine normF ?_
        repeat(first|refine takeF ?_ (hy:=Or.inl ⟨by rfl,gq7⟩)|refine pureF ?_)
        refine pureT 19 (some 59) ?_
        refine takeT_ 20 (some 60) (hy:=Or.inl ⟨by rfl,gq7⟩) ?_
        refine oneF (fun K hK=>?_)
        refine goes_ Tryz.func140 (by kernel_rfl) rfl #[.string a0_3,.int .u8 35] (by rfl) rfl rfl gq0 ?_
        with_reducible refine(spec_l6upto.calls kj1 a0_3 35 t328 _ A42.out).mono ?_
        rintro e w' ⟨rfl,⟨nd,rfl⟩⟩
        refine⟨_,rfl,?_⟩
        refine hK.out _ _ (czA5 BK322) (fun hHeld=>?_)
        clear hK K
        refine normF ?_
        repeat(first|refine pureF ?_)
        refine done_ (done_of HT_.out (by kernel_rfl)) ?_
        try go_wp2
        go_ret
        exact⟨gq2,gBe⟩
      ·exact spec_UrlOk.e1

end Go.Proofs.YtfhllanhldbkkaaGreatDoor.P
