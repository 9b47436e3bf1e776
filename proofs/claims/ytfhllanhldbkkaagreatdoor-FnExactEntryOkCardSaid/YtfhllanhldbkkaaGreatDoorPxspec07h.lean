import Derived.Test.YtfhllanhldbkkaaGreatDoorPx0
import Derived.Test.YtfhllanhldbkkaaGreatDoorPxspec01a
import Derived.Test.YtfhllanhldbkkaaGreatDoorPxspec05b
import Derived.Test.YtfhllanhldbkkaaGreatDoorPxspec07b
import Derived.Test.YtfhllanhldbkkaaGreatDoorPxspec07e
import Derived.Test.YtfhllanhldbkkaaGreatDoorWC
namespace Go.Proofs.YtfhllanhldbkkaaGreatDoor.P
open Go.RowKit Go.Proofs.YtfhllanhldbkkaaGreatDoorW.PrintWords Go.Proofs.YtfhllanhldbkkaaGreatDoorW.PrintLast Go.Proofs.YtfhllanhldbkkaaGreatDoorW.PrintMore
attribute [local go_sem] max2_int min2_int max_two min_two max_three min_three max_four min_four   -- for this text's walks alone
set_option linter.unusedVariables false
set_option linter.unusedSimpArgs false

mutual
def spec_ReadUrl.j0 : Nat→ByteArray→Bool→Option (ByteArray×Int×ByteArray×ByteArray×Bool×Bool)
 |0,_,_=>none
 |k+1,x0,x35=>if x35=true then(some ((⟨#[]⟩:ByteArray),0,(⟨#[]⟩:ByteArray),(⟨#[]⟩:ByteArray),false,false)) else(if 7≤(x0.size:Int) then((spec_l6upto.f k (x0.extract 7 x0.size) 63).bind fun t334=>((spec_l6upto.f k t334 47).bind fun t335=>((spec_l6upto.f k t335 58).bind fun t336=>((spec_Fold.f t336).bind fun t337=>(if(t336.size:Int)<(t335.size:Int) then(if 0≤(wrap64 ((t336.size:Int)+1)) then(if(wrap64 ((t336.size:Int)+1))≤(t335.size:Int) then((spec_ReadDec.f k (t335.extract ((wrap64 ((t336.size:Int)+1)):Int).toNat t335.size)).bind fun bt339=>(if bt339.2=true then(spec_ReadUrl.j1 k (x0.extract 7 x0.size) t334 t335 t337 bt339.1 (⟨#[47]⟩:ByteArray) (⟨#[]⟩:ByteArray) false) else(some ((⟨#[]⟩:ByteArray),0,(⟨#[]⟩:ByteArray),(⟨#[]⟩:ByteArray),false,false)))) else(none)) else(none)) else(spec_ReadUrl.j1 k (x0.extract 7 x0.size) t334 t335 t337 80 (⟨#[47]⟩:ByteArray) (⟨#[]⟩:ByteArray) false)))))) else(none))
def spec_ReadUrl.j1 : Nat→ByteArray→ByteArray→ByteArray→ByteArray→Int→ByteArray→ByteArray→Bool→Option (ByteArray×Int×ByteArray×ByteArray×Bool×Bool)
 |0,_,_,_,_,_,_,_,_=>none
 |k+1,x4,x5,x6,x339000,x339001,x339002,x339003,x339004=>if(x6.size:Int)<(x5.size:Int) then(if 0≤(x6.size:Int) then(if(x6.size:Int)≤(x5.size:Int) then((spec_CleanPath.f k (x5.extract ((x6.size:Int):Int).toNat x5.size)).bind fun t341=>(spec_ReadUrl.j2 k x4 x5 x339000 x339001 t341 x339003 x339004)) else(none)) else(none)) else(spec_ReadUrl.j2 k x4 x5 x339000 x339001 x339002 x339003 x339004)
def spec_ReadUrl.j2 : Nat→ByteArray→ByteArray→ByteArray→Int→ByteArray→ByteArray→Bool→Option (ByteArray×Int×ByteArray×ByteArray×Bool×Bool)
 |0,_,_,_,_,_,_,_=>none
 |k+1,x4,x5,x339000,x339001,x339002,x339003,x339004=>if(x5.size:Int)<(x4.size:Int) then(if 0≤(wrap64 ((x5.size:Int)+1)) then(if(wrap64 ((x5.size:Int)+1))≤(x4.size:Int) then((spec_UrlOk.f k x339000 x339001 x339002 (x4.extract ((wrap64 ((x5.size:Int)+1)):Int).toNat x4.size) true).bind fun t342=>(if t342=true then(some (x339000,x339001,x339002,x4.extract ((wrap64 ((x5.size:Int)+1)):Int).toNat x4.size,true,true)) else(some ((⟨#[]⟩:ByteArray),0,(⟨#[]⟩:ByteArray),(⟨#[]⟩:ByteArray),false,false)))) else(none)) else(none)) else((spec_UrlOk.f k x339000 x339001 x339002 x339003 x339004).bind fun t343=>(if t343=true then(some (x339000,x339001,x339002,x339003,x339004,true)) else(some ((⟨#[]⟩:ByteArray),0,(⟨#[]⟩:ByteArray),(⟨#[]⟩:ByteArray),false,false))))
end
def spec_ReadUrl.f (k:Nat) (a0:ByteArray):Option (ByteArray×Int×ByteArray×ByteArray×Bool×Bool):=if(a0.size:Int)>200 then(spec_ReadUrl.j0 k a0 true) else(if(a0.size:Int)<8 then(spec_ReadUrl.j0 k a0 true) else((spec_l6visible.f k a0).bind fun t331=>(if t331=true then((spec_l6upto.f k a0 35).bind fun t332=>(if t332.toList=a0.toList then(if 0≤7 then(if 7≤(a0.size:Int) then((spec_Fold.f (a0.extract 0 7)).bind fun t333=>(spec_ReadUrl.j0 k a0 (t333.toList != ([104,116,116,112,58,47,47]:List UInt8)))) else(none)) else(none)) else(spec_ReadUrl.j0 k a0 true))) else(spec_ReadUrl.j0 k a0 true))))
theorem spec_ReadUrl.e0 {p:Prop} (h:p:=by
  have H':=Aside0.mk H
  clear H
  go_wp2
  go_meet
  case rel=>exact⟨_,(true),gq4,H',⟨gq8⟩,⟨gBk⟩,⟨gBe⟩⟩):p:=h
theorem spec_ReadUrl.e1 {p:Prop} (h:p:=by
  have H':=Aside0.mk H
  clear H
  go_wp2_with(first|(go_at_call 100;(with_reducible refine(spec_l6visible.calls k a0 false _ A6.out).mono ?_);rintro e w' ⟨rfl,⟨nd,rfl⟩⟩)|(go_at_call 100;(with_reducible refine(spec_l6visible.calls k a0 true _ A6.out).mono ?_);rintro e w' ⟨rfl,⟨nd,rfl⟩⟩)|(go_at_call 140;(with_reducible refine(spec_l6upto.calls k a0 35 t332 _ A8.out).mono ?_);rintro e w' ⟨rfl,⟨nd,rfl⟩⟩))
  go_meet
  case rel=>exact⟨_,(true),gq4,H',⟨gq8⟩,⟨gBk⟩,⟨gBe⟩⟩):p:=h
theorem spec_ReadUrl.e2 {p:Prop} (h:p:=by
  go_wp2_with(first|((with_reducible refine gate_callee (f:=143) rfl ?_);refine goesL_ (some 91) rfl rfl Tryz.func143 (by kernel_rfl) rfl #[.agg #[.string t337,.int .i64 x339001_20,.string x339002_37,.string (⟨#[]⟩:ByteArray),.bool false]] rfl gq0 ?_;(with_reducible refine(spec_UrlOk.calls kj37 t337 x339001_20 x339002_37 (⟨#[]⟩:ByteArray) false false _ A61.out).mono ?_);rintro e wq7a ⟨rfl,hb⟩;refine⟨_,rfl,?_⟩;replace BK330:=blA (g:=gb330) hb;replace BK338:=blA (g:=gb338) hb;replace HB:=beA hb;(try clear hb);(try clear hb2);(try clear hk);(try clear hi);obtain⟨_,_,_,_,_⟩:=czA5 BK330;obtain⟨_,_,_,_,_⟩:=cfA5 BK330)|((with_reducible refine gate_callee (f:=143) rfl ?_);refine goesL_ (some 91) rfl rfl Tryz.func143 (by kernel_rfl) rfl #[.agg #[.string t337,.int .i64 x339001_20,.string x339002_37,.string (zp0.extract ((ji47):Int).toNat zp0.size),.bool true]] rfl (by(try simp only[List.map_toArray,List.map_cons,List.map_nil]);first|done|(simp only[hji47];rfl)|rfl|(simp only[List.length_drop,List.length_take];rfl)) ?_;(with_reducible refine(spec_UrlOk.calls kj37 t337 x339001_20 x339002_37 (zp0.extract ((ji47):Int).toNat zp0.size) true false _ A50.out).mono ?_);rintro e wq5a ⟨rfl,hb⟩;refine⟨_,rfl,?_⟩;replace BK330:=blA (g:=gb330) hb;replace BK338:=blA (g:=gb338) (o:=.cells #[.string t337,.int .i64 x339001_20,.string x339002_37,.string (zp0.extract ((ji47):Int).toNat zp0.size),.bool true] 92 (0,0)) hb;replace HB:=beA hb;(try clear hb);(try clear hb2);(try clear hk);(try clear hi);obtain⟨_,_,_,_,_⟩:=czA5 BK330;obtain⟨_,_,_,_,_⟩:=cfA5 BK330)|((with_reducible refine gate_callee (f:=141) rfl ?_);refine goesL_ (some 59) rfl rfl Tryz.func141 (by kernel_rfl) rfl #[.string (t335.extract ((ji27):Int).toNat t335.size)] rfl (by(try simp only[List.map_toArray,List.map_cons,List.map_nil]);first|done|(simp only[hji27];rfl)|rfl|(simp only[List.length_drop,List.length_take];rfl)) ?_;(with_reducible refine(spec_ReadDec.calls kj1 (t335.extract ((ji27):Int).toNat t335.size) t339 false _ A30.out).mono ?_);rintro e wq2a ⟨rfl,hb⟩;refine⟨_,rfl,?_⟩;replace BK330:=blA (g:=gb330) hb;replace BK338:=blA (g:=gb338) (o:=.cells #[.string t337,.int .i64 80,.string (⟨#[47]⟩:ByteArray),.string (⟨#[]⟩:ByteArray),.bool false] 92 (0,0)) hb;replace HB:=beA hb;(try clear hb);(try clear hb2);(try clear hk);(try clear hi);have hnb36:=NB330_338.out;have hnc36:=NB338_330.out;obtain⟨_,_,_,_,_⟩:=czA5 BK330;obtain⟨_,_,_,_,_⟩:=cfA5 BK330))
  refine rctA gb330 92 #[.string (⟨#[]⟩:ByteArray),.int .i64 0,.string (⟨#[]⟩:ByteArray),.string (⟨#[]⟩:ByteArray),.bool false] Tryz.underlying92 ?_
  first|exact⟨by first|rfl|(simp[errW_none,errW_some] <;> rfl)|(simp only[← hji27];first|rfl|(simp[errW_none,errW_some] <;> rfl))|(simp[*,errW_none,errW_some] <;> rfl),gBe⟩|exact⟨by first|rfl|(simp[errW_none,errW_some] <;> rfl)|(simp only[← hji47];first|rfl|(simp[errW_none,errW_some] <;> rfl))|(simp[*,errW_none,errW_some] <;> rfl),gBe⟩|exact⟨gq2,gBe⟩):p:=h
set_option maxHeartbeats 8000000 in
set_option maxRecDepth 100000 in
theorem spec_ReadUrl.calls (k:Nat) (a0:ByteArray) (r1:ByteArray) (r2:Int) (r3:ByteArray) (r4:ByteArray) (r5:Bool) (r6:Bool) (w:World) (h:spec_ReadUrl.f k a0=some (r1,r2,r3,r4,r5,r6)) :
  Calls Tryz.prog 95 #[.string a0] w fun e w'=>e = .returned (.tuple #[.agg #[.string r1,.int .i64 r2,.string r3,.string r4,.bool r5],.bool r6])∧Below w.heap.size w w':=by
 have hu92:=Tryz.underlying92
 have HB:=Aside0.mk (Below.refl w.heap.size w)
 have H:=h
 clear h
 unfold spec_ReadUrl.f at H
 have HC2:=Aside0.mk H
 clear H
 go_enter Tryz.func95,Tryz.ntmps95
 go_upto_region 1 with(first|((with_reducible refine gate_dst (N:=2) rfl ?_);refine boxG #[.string (⟨#[]⟩:ByteArray),.int .i64 0,.string (⟨#[]⟩:ByteArray),.string (⟨#[]⟩:ByteArray),.bool false] 92 ?_;intro gb330 hg w3 hbox hb;have BK330:=Aside0.mk (hbox);have GE330:=geA hg;replace HB:=beA hb;clear hb hbox hg))
 (try simp only[Act.put,List.setIfInBounds_toArray,List.set_cons_zero,List.set_cons_succ])
 go_cut [35] (fun v35 wc=>∃(kq:Nat) (x35_1:Bool),v35 = .bool x35_1∧Aside0 (spec_ReadUrl.j0 kq a0 x35_1=some (r1,r2,r3,r4,r5,r6))∧Aside0 (kq≤k)∧Aside0 (wc.heap[gb330]? = some (.cells #[.string (⟨#[]⟩:ByteArray),.int .i64 0,.string (⟨#[]⟩:ByteArray),.string (⟨#[]⟩:ByteArray),.bool false] 92 (0,0)))∧Aside0 (Below w.heap.size w wc))
 case first=>
  have H:=HC2.out
  clear HC2
  replace H:=gI H
  rcases H with⟨c4,-,-,H⟩|⟨c4,-,-,H⟩
  ·have c4b0:decide (200<(a0.size:Int))=true:=decide_eq_true c4
   have c4b1:decide (200<a0.size)=true:=decide_eq_true (by omega)
   clear c4
   (first|rw[c4b0]|rw[c4b1]|(simp only[i64_w,i32_w];rw[c4b0])|skip)
   exact spec_ReadUrl.e0
  ·have c4b0:decide (200<(a0.size:Int))=false:=decide_eq_false c4
   have c4b1:decide (200<a0.size)=false:=decide_eq_false (by omega)
   clear c4
   (first|rw[c4b0]|rw[c4b1]|(simp only[i64_w,i32_w];rw[c4b0])|skip)
   replace H:=gI H
   rcases H with⟨c5,c5b0,-,H⟩|⟨c5,c5b0,-,H⟩
   ·have c5b1:decide (a0.size<8)=true:=decide_eq_true (by omega)
    clear c5
    exact spec_ReadUrl.e0
   ·have c5b1:decide (a0.size<8)=false:=decide_eq_false (by omega)
    clear c5
    replace H:=gD H
    obtain⟨t331,A6,H⟩:=H
    replace H:=gB H
    rcases H with⟨rfl,H⟩|⟨rfl,H⟩
    ·replace H:=gD H
     obtain⟨t332,A8,H⟩:=H
     replace H:=gI H
     rcases H with⟨c9,-,-,H⟩|⟨c9,-,-,H⟩
     ·have c9b0:(t332.toList==a0.toList)=true:=beq_iff_eq.mpr c9
      have c9b1:(t332.toList != a0.toList)=false:=bne_eq_false_iff_eq.mpr c9
      clear c9
      replace H:=gN H
      obtain⟨-,c10b1,c10b0,H⟩:=H
      replace H:=gN H
      obtain⟨-,c11b1,c11b0,H⟩:=H
      replace H:=gD H
      obtain⟨t333,A12,H⟩:=H
      have H':=Aside0.mk H
      clear H
      go_wp2_with(first|(go_at_call 100;(with_reducible refine(spec_l6visible.calls k a0 true _ A6.out).mono ?_);rintro e w' ⟨rfl,⟨nd,rfl⟩⟩)|(go_at_call 140;(with_reducible refine(spec_l6upto.calls k a0 35 t332 _ A8.out).mono ?_);rintro e w' ⟨rfl,⟨nd,rfl⟩⟩)|(go_at_call 83;(with_reducible refine(spec_Fold.calls (a0.extract 0 7) t333 _ A12.out).mono ?_);rintro e wq0a ⟨rfl,hb⟩;replace BK330:=blA (g:=gb330) hb;replace HB:=beA hb;(try clear hb);(try clear hb2);(try clear hk);(try clear hi)))
      go_meet
      case rel=>exact⟨_,((t333.toList != ([104,116,116,112,58,47,47]:List UInt8))),gq4,H',⟨gq8⟩,⟨gBk⟩,⟨gBe⟩⟩
     ·have c9b0:(t332.toList==a0.toList)=false:=beq_eq_false_iff_ne.mpr c9
      have c9b1:(t332.toList != a0.toList)=true:=bne_iff_ne.mpr c9
      exact spec_ReadUrl.e1
    ·exact spec_ReadUrl.e1
 case rest=>
  clear HC2
  obtain⟨kq,x35_1,rfl,HA,HJ1,BK330,HB⟩:=hcut
  cases kq with
  |zero=>exact absurd HA.out (by simp[spec_ReadUrl.j0])
  |succ kj1=>
   have H:=HA.out
   clear HA
   simp only[spec_ReadUrl.j0] at H
   replace H:=gB H
   rcases H with⟨rfl,H⟩|⟨rfl,H⟩
   ·simp only[Option.some.injEq,Prod.mk.injEq] at H
    obtain⟨rfl,rfl,rfl,rfl,rfl,rfl⟩:=H
    obtain⟨_,_,_,_,_⟩:=czA5 BK330
    obtain⟨_,_,_,_,_⟩:=cfA5 BK330
    go_wp2
    refine rctA gb330 92 #[.string (⟨#[]⟩:ByteArray),.int .i64 0,.string (⟨#[]⟩:ByteArray),.string (⟨#[]⟩:ByteArray),.bool false] Tryz.underlying92 ?_
    exact⟨gq2,gBe⟩
   ·obtain⟨zp0,hzp0⟩:∃ z_:ByteArray,a0.extract 7 a0.size=z_:=⟨_,rfl⟩
    rw[hzp0] at H
    replace H:=gI H
    rcases H with⟨-,c16b1,c16b0,H⟩|⟨c16,-,-,H⟩
    ·replace H:=gD H
     obtain⟨t334,A17,H⟩:=H
     replace H:=gD H
     obtain⟨t335,A18,H⟩:=H
     replace H:=gD H
     obtain⟨t336,A19,H⟩:=H
     replace H:=gD H
     obtain⟨t337,A20,H⟩:=H
     have HC21:=Aside0.mk H
     clear H
     go_upto_if 52 with(first|((with_reducible refine gate_callee (f:=140) rfl ?_);refine goesL_ (some 40) rfl rfl Tryz.func140 (by kernel_rfl) rfl #[.string zp0,.int .u8 63] rfl gq0 ?_;(with_reducible refine(spec_l6upto.calls kj1 zp0 63 t334 _ A17.out).mono ?_);rintro e w' ⟨rfl,⟨nd,rfl⟩⟩;refine⟨_,rfl,?_⟩;(try(rw[drewN_self wc];generalize hq_:World.drewN wc _=wc;have n0_:Aside0 (wc.heap[gb330]? = some (.cells #[.string (⟨#[]⟩:ByteArray),.int .i64 0,.string (⟨#[]⟩:ByteArray),.string (⟨#[]⟩:ByteArray),.bool false] 92 (0,0))):=⟨by rw[← hq_];exact(by(with_reducible repeat(first|refine blk_drewN ?_ _|refine blk_drew ?_|refine blk_alloc ?_ _));exact BK330.out)⟩;have n1_:Aside0 (Below w.heap.size w wc):=⟨by rw[← hq_];exact gBe⟩;clear BK330 HB hq_;have BK330:=n0_;have HB:=n1_;clear n0_ n1_)))|((with_reducible refine gate_callee (f:=140) rfl ?_);refine goesL_ (some 42) rfl rfl Tryz.func140 (by kernel_rfl) rfl #[.string t334,.int .u8 47] rfl gq0 ?_;(with_reducible refine(spec_l6upto.calls kj1 t334 47 t335 _ A18.out).mono ?_);rintro e w' ⟨rfl,⟨nd,rfl⟩⟩;refine⟨_,rfl,?_⟩;(try(rw[drewN_self wc];generalize hq_:World.drewN wc _=wc;have n0_:Aside0 (wc.heap[gb330]? = some (.cells #[.string (⟨#[]⟩:ByteArray),.int .i64 0,.string (⟨#[]⟩:ByteArray),.string (⟨#[]⟩:ByteArray),.bool false] 92 (0,0))):=⟨by rw[← hq_];exact(by(with_reducible repeat(first|refine blk_drewN ?_ _|refine blk_drew ?_|refine blk_alloc ?_ _));exact BK330.out)⟩;have n1_:Aside0 (Below w.heap.size w wc):=⟨by rw[← hq_];exact gBe⟩;clear BK330 HB hq_;have BK330:=n0_;have HB:=n1_;clear n0_ n1_)))|((with_reducible refine gate_callee (f:=140) rfl ?_);refine goesL_ (some 44) rfl rfl Tryz.func140 (by kernel_rfl) rfl #[.string t335,.int .u8 58] rfl gq0 ?_;(with_reducible refine(spec_l6upto.calls kj1 t335 58 t336 _ A19.out).mono ?_);rintro e w' ⟨rfl,⟨nd,rfl⟩⟩;refine⟨_,rfl,?_⟩;(try(rw[drewN_self wc];generalize hq_:World.drewN wc _=wc;have n0_:Aside0 (wc.heap[gb330]? = some (.cells #[.string (⟨#[]⟩:ByteArray),.int .i64 0,.string (⟨#[]⟩:ByteArray),.string (⟨#[]⟩:ByteArray),.bool false] 92 (0,0))):=⟨by rw[← hq_];exact(by(with_reducible repeat(first|refine blk_drewN ?_ _|refine blk_drew ?_|refine blk_alloc ?_ _));exact BK330.out)⟩;have n1_:Aside0 (Below w.heap.size w wc):=⟨by rw[← hq_];exact gBe⟩;clear BK330 HB hq_;have BK330:=n0_;have HB:=n1_;clear n0_ n1_)))|((with_reducible refine gate_callee (f:=83) rfl ?_);refine goesL_ (some 46) rfl rfl Tryz.func83 (by kernel_rfl) rfl #[.string t336] rfl gq0 ?_;(with_reducible refine(spec_Fold.calls t336 t337 _ A20.out).mono ?_);rintro e w22 ⟨rfl,hb⟩;refine⟨_,rfl,?_⟩;have n0_:=blA (g:=gb330) hb;have n1_:=beA hb;clear BK330;clear HB;have BK330:=n0_;have HB:=n1_;clear n0_ n1_;(try clear hb);(try clear hb2);(try clear hk);(try clear hi))|((with_reducible refine gate_dst (N:=8) rfl ?_);refine boxG #[.string (⟨#[]⟩:ByteArray),.int .i64 0,.string (⟨#[]⟩:ByteArray),.string (⟨#[]⟩:ByteArray),.bool false] 92 ?_;intro gb338 hg w23 hbox hb;have n0_:=blA (g:=gb330) hb;have n1_:=beA hb;have n2_:=Aside0.mk (hbox);have n3_:=geA hg;have n4_:=geA hg;have n5_:=neA (g:=gb330) hg;have n6_:=neB n5_;clear BK330;clear HB;have BK330:=n0_;have HB:=n1_;have BK338:=n2_;have GW338:=n3_;have GE338:=n4_;have NB330_338:=n5_;have NB338_330:=n6_;clear n0_ n1_ n2_ n3_ n4_ n5_ n6_;clear hb hbox hg;have hnb24:=NB338_330.out;have hnc24:=NB330_338.out;obtain⟨_,_,_,_,_⟩:=czA5 BK338;obtain⟨_,_,_,_,_⟩:=cfA5 BK338))
     (try simp only[Act.put,List.setIfInBounds_toArray,List.set_cons_zero,List.set_cons_succ])
     go_cut [] (fun wc=>∃(kq:Nat) (x331000_20:ByteArray) (x331001_20:Int) (x331002_20:ByteArray) (x331003_20:ByteArray) (x331004_20:Bool) (x339001_20:Int),Aside0 (spec_ReadUrl.j1 kq zp0 t334 t335 t337 x339001_20 (⟨#[47]⟩:ByteArray) (⟨#[]⟩:ByteArray) false=some (r1,r2,r3,r4,r5,r6))∧Aside0 (kq≤kj1)∧Aside0 (wc.heap[gb330]? = some (.cells #[.string x331000_20,.int .i64 x331001_20,.string x331002_20,.string x331003_20,.bool x331004_20] 92 (0,0)))∧Aside0 (wc.heap[gb338]? = some (.cells #[.string t337,.int .i64 x339001_20,.string (⟨#[47]⟩:ByteArray),.string (⟨#[]⟩:ByteArray),.bool false] 92 (0,0)))∧Aside0 (Below w.heap.size w wc))
     case first=>
      have H:=HC21.out
      clear HC21
      replace H:=gI H
      rcases H with⟨c26,c26b0,-,H⟩|⟨c26,c26b0,-,H⟩
      ·have c26b1:decide (t336.size<t335.size)=true:=decide_eq_true (Int.ofNat_lt.mp c26)
       have c26n:(t336.size<t335.size)=True:=eq_true (Int.ofNat_lt.mp c26)
       have c26n:(t336.size<t335.size)=True:=eq_true (Int.ofNat_lt.mp c26)
       clear c26
       (first|rw[c26b0]|rw[c26b1]|(simp only[i64_w,i32_w];rw[c26b0])|skip)
       obtain⟨ji27,hji27⟩:∃ j_:Int,(wrap64 ((t336.size:Int)+1))=j_:=⟨_,rfl⟩
       replace H:(if 0≤(ji27) then(if(ji27)≤(t335.size:Int) then((spec_ReadDec.f kj1 (t335.extract ((ji27):Int).toNat t335.size)).bind fun bt339=>(if bt339.2=true then(spec_ReadUrl.j1 kj1 zp0 t334 t335 t337 bt339.1 (⟨#[47]⟩:ByteArray) (⟨#[]⟩:ByteArray) false) else(some ((⟨#[]⟩:ByteArray),0,(⟨#[]⟩:ByteArray),(⟨#[]⟩:ByteArray),false,false)))) else(none)) else(none))=some (r1,r2,r3,r4,r5,r6):=by first|(rw[hji27] at H;exact H)|(simp only[hji27] at H ⊢;exact H)
       have hji27w:(IntKind.i64.wrap ((t336.size:Int)+1))=ji27:=(i64_w _).trans hji27
       replace H:=gN H
       obtain⟨-,c28b1,c28b0,H⟩:=H
       replace H:=gN H
       obtain⟨-,c29b1,c29b0,H⟩:=H
       replace H:=gD H
       obtain⟨⟨t339,t340⟩,A30,H⟩:=H
       dsimp only at H
       replace H:=gB H
       rcases H with⟨rfl,H⟩|⟨rfl,H⟩
       ·have H':=Aside0.mk H
        clear H
        go_wp2_with(((with_reducible refine gate_callee (f:=141) rfl ?_);refine goesL_ (some 59) rfl rfl Tryz.func141 (by kernel_rfl) rfl #[.string (t335.extract ((ji27):Int).toNat t335.size)] rfl (by(try simp only[List.map_toArray,List.map_cons,List.map_nil]);first|done|(simp only[hji27];rfl)|rfl|(simp only[List.length_drop,List.length_take];rfl)) ?_;(with_reducible refine(spec_ReadDec.calls kj1 (t335.extract ((ji27):Int).toNat t335.size) t339 true _ A30.out).mono ?_);rintro e wq1a ⟨rfl,hb⟩;refine⟨_,rfl,?_⟩;replace BK330:=blA (g:=gb330) hb;replace BK338:=blA (g:=gb338) (o:=.cells #[.string t337,.int .i64 80,.string (⟨#[47]⟩:ByteArray),.string (⟨#[]⟩:ByteArray),.bool false] 92 (0,0)) hb;replace HB:=beA hb;(try clear hb);(try clear hb2);(try clear hk);(try clear hi);have hnb33:=NB338_330.out;have hnc33:=NB330_338.out;obtain⟨_,_,_,_,_⟩:=czA5 BK338;obtain⟨_,_,_,_,_⟩:=cfA5 BK338))
        go_meet
        case rel=>exact⟨_,((⟨#[]⟩:ByteArray)),(0),((⟨#[]⟩:ByteArray)),((⟨#[]⟩:ByteArray)),(false),(t339),H',⟨gq53⟩,⟨gBk⟩,⟨gBk⟩,⟨gBe⟩⟩
       ·simp only[Option.some.injEq,Prod.mk.injEq] at H
        obtain⟨rfl,rfl,rfl,rfl,rfl,rfl⟩:=H
        exact spec_ReadUrl.e2
      ·have c26b1:decide (t336.size<t335.size)=false:=decide_eq_false (fun h=>c26 (Int.ofNat_lt.mpr h))
       have c26n:(t336.size<t335.size)=False:=eq_false (fun h=>c26 (Int.ofNat_lt.mpr h))
       have c26n:(t336.size<t335.size)=False:=eq_false (fun h=>c26 (Int.ofNat_lt.mpr h))
       clear c26
       (first|rw[c26b0]|rw[c26b1]|(simp only[i64_w,i32_w];rw[c26b0])|skip)
       have H':=Aside0.mk H
       clear H
       go_wp2
       go_meet
       case rel=>exact⟨_,((⟨#[]⟩:ByteArray)),(0),((⟨#[]⟩:ByteArray)),((⟨#[]⟩:ByteArray)),(false),(80),H',⟨gq53⟩,⟨gBk⟩,⟨gBk⟩,⟨gBe⟩⟩
     case rest=>
      clear HC21
      try clear c16
      try clear c16b0
      try clear c16b1
      obtain⟨kq,x331000_20,x331001_20,x331002_20,x331003_20,x331004_20,x339001_20,HA,HJ20,BK330,BK338,HB⟩:=hcut
      cases kq with
      |zero=>exact absurd HA.out (by simp[spec_ReadUrl.j1])
      |succ kj20=>
       have H:=HA.out
       clear HA
       simp only[spec_ReadUrl.j1] at H
       have HC38:=Aside0.mk H
       clear H
       go_upto_if 71 with(fail)
       go_cut [] (fun wc=>∃(kq:Nat) (x339002_37:ByteArray),Aside0 (spec_ReadUrl.j2 kq zp0 t334 t337 x339001_20 x339002_37 (⟨#[]⟩:ByteArray) false=some (r1,r2,r3,r4,r5,r6))∧Aside0 (kq≤kj20)∧Aside0 (wc.heap[gb330]? = some (.cells #[.string x331000_20,.int .i64 x331001_20,.string x331002_20,.string x331003_20,.bool x331004_20] 92 (0,0)))∧Aside0 (wc.heap[gb338]? = some (.cells #[.string t337,.int .i64 x339001_20,.string x339002_37,.string (⟨#[]⟩:ByteArray),.bool false] 92 (0,0)))∧Aside0 (Below w.heap.size w wc))
       case first=>
        have H:=HC38.out
        clear HC38
        replace H:=gI H
        rcases H with⟨c39,c39b0,-,H⟩|⟨c39,c39b0,-,H⟩
        ·have c39b1:decide (t335.size<t334.size)=true:=decide_eq_true (Int.ofNat_lt.mp c39)
         have c39n:(t335.size<t334.size)=True:=eq_true (Int.ofNat_lt.mp c39)
         have c39n:(t335.size<t334.size)=True:=eq_true (Int.ofNat_lt.mp c39)
         clear c39
         (first|rw[c39b0]|rw[c39b1]|(simp only[i64_w,i32_w];rw[c39b0])|skip)
         replace H:=gN H
         obtain⟨-,c40b1,c40b0,H⟩:=H
         replace H:=gN H
         obtain⟨-,c41b1,c41b0,H⟩:=H
         replace H:=gD H
         obtain⟨t341,A42,H⟩:=H
         have H':=Aside0.mk H
         clear H
         go_wp2_with(((with_reducible refine gate_callee (f:=142) rfl ?_);refine goesL_ (some 76) rfl rfl Tryz.func142 (by kernel_rfl) rfl #[.string (t334.extract ((t335.size:Int):Int).toNat t334.size)] rfl gq0 ?_;(with_reducible refine(spec_CleanPath.calls kj20 (t334.extract ((t335.size:Int):Int).toNat t334.size) t341 _ A42.out).mono ?_);rintro e wq3a ⟨rfl,hb⟩;refine⟨_,rfl,?_⟩;replace BK330:=blA (g:=gb330) hb;replace BK338:=blA (g:=gb338) hb;replace HB:=beA hb;(try clear hb);(try clear hb2);(try clear hk);(try clear hi);have hnb44:=NB338_330.out;have hnc44:=NB330_338.out;obtain⟨_,_,_,_,_⟩:=czA5 BK338;obtain⟨_,_,_,_,_⟩:=cfA5 BK338))
         go_meet
         case rel=>exact⟨_,(t341),H',⟨by have:=HJ1.out;have:=HJ20.out;first|omega|exact Nat.le_refl _⟩,⟨gBk⟩,⟨gBk⟩,⟨gBe⟩⟩
        ·have c39b1:decide (t335.size<t334.size)=false:=decide_eq_false (fun h=>c39 (Int.ofNat_lt.mpr h))
         have c39n:(t335.size<t334.size)=False:=eq_false (fun h=>c39 (Int.ofNat_lt.mpr h))
         have c39n:(t335.size<t334.size)=False:=eq_false (fun h=>c39 (Int.ofNat_lt.mpr h))
         clear c39
         (first|rw[c39b0]|rw[c39b1]|(simp only[i64_w,i32_w];rw[c39b0])|skip)
         have H':=Aside0.mk H
         clear H
         go_wp2
         go_meet
         case rel=>exact⟨_,((⟨#[47]⟩:ByteArray)),H',⟨by have:=HJ1.out;have:=HJ20.out;first|omega|exact Nat.le_refl _⟩,⟨gBk⟩,⟨gBk⟩,⟨gBe⟩⟩
       case rest=>
        clear HC38
        try clear c16
        try clear c16b0
        try clear c16b1
        obtain⟨kq,x339002_37,HA,HJ37,BK330,BK338,HB⟩:=hcut
        cases kq with
        |zero=>exact absurd HA.out (by simp[spec_ReadUrl.j2])
        |succ kj37=>
         have H:=HA.out
         clear HA
         simp only[spec_ReadUrl.j2] at H
         replace H:=gI H
         rcases H with⟨c46,c46b0,-,H⟩|⟨c46,c46b0,-,H⟩
         ·have c46b1:decide (t334.size<zp0.size)=true:=decide_eq_true (Int.ofNat_lt.mp c46)
          have c46n:(t334.size<zp0.size)=True:=eq_true (Int.ofNat_lt.mp c46)
          have c46n:(t334.size<zp0.size)=True:=eq_true (Int.ofNat_lt.mp c46)
          clear c46
          obtain⟨ji47,hji47⟩:∃ j_:Int,(wrap64 ((t334.size:Int)+1))=j_:=⟨_,rfl⟩
          replace H:(if 0≤(ji47) then(if(ji47)≤(zp0.size:Int) then((spec_UrlOk.f kj37 t337 x339001_20 x339002_37 (zp0.extract ((ji47):Int).toNat zp0.size) true).bind fun t342=>(if t342=true then(some (t337,x339001_20,x339002_37,zp0.extract ((ji47):Int).toNat zp0.size,true,true)) else(some ((⟨#[]⟩:ByteArray),0,(⟨#[]⟩:ByteArray),(⟨#[]⟩:ByteArray),false,false)))) else(none)) else(none))=some (r1,r2,r3,r4,r5,r6):=by first|(rw[hji47] at H;exact H)|(simp only[hji47] at H ⊢;exact H)
          have hji47w:(IntKind.i64.wrap ((t334.size:Int)+1))=ji47:=(i64_w _).trans hji47
          replace H:=gN H
          obtain⟨-,c48b1,c48b0,H⟩:=H
          replace H:=gN H
          obtain⟨-,c49b1,c49b0,H⟩:=H
          replace H:=gD H
          obtain⟨t342,A50,H⟩:=H
          replace H:=gB H
          rcases H with⟨rfl,H⟩|⟨rfl,H⟩
          ·simp only[Option.some.injEq,Prod.mk.injEq] at H
           obtain⟨rfl,rfl,rfl,rfl,rfl,rfl⟩:=H
           have hnb52:=NB338_330.out
           have hnc52:=NB330_338.out
           obtain⟨_,_,_,_,_⟩:=czA5 BK338
           obtain⟨_,_,_,_,_⟩:=cfA5 BK338
           go_wp2_with(((with_reducible refine gate_callee (f:=143) rfl ?_);refine goesL_ (some 91) rfl rfl Tryz.func143 (by kernel_rfl) rfl #[.agg #[.string t337,.int .i64 x339001_20,.string x339002_37,.string (zp0.extract ((ji47):Int).toNat zp0.size),.bool true]] rfl (by(try simp only[List.map_toArray,List.map_cons,List.map_nil]);first|done|(simp only[hji47];rfl)|rfl|(simp only[List.length_drop,List.length_take];rfl)) ?_;(with_reducible refine(spec_UrlOk.calls kj37 t337 x339001_20 x339002_37 (zp0.extract ((ji47):Int).toNat zp0.size) true true _ A50.out).mono ?_);rintro e wq4a ⟨rfl,hb⟩;refine⟨_,rfl,?_⟩;replace BK330:=blA (g:=gb330) hb;replace BK338:=blA (g:=gb338) (o:=.cells #[.string t337,.int .i64 x339001_20,.string x339002_37,.string (zp0.extract ((ji47):Int).toNat zp0.size),.bool true] 92 (0,0)) hb;replace HB:=beA hb;(try clear hb);(try clear hb2);(try clear hk);(try clear hi);obtain⟨_,_,_⟩:=czA3 BK338;have hczq4b_3:wq4a.cell? ⟨gb338,3,none⟩=some (.string (zp0.extract ((ji47):Int).toNat zp0.size)):=(blk_cell BK338.out 3).trans rfl;have hczq4b_4:=cz4 BK338;obtain⟨_,_,_,_,_⟩:=cfA5 BK338;obtain⟨_,_,_,_,_⟩:=czA5 BK330;obtain⟨_,_,_,_,_⟩:=cfA5 BK330))
           refine rctA gb330 92 #[.string t337,.int .i64 x339001_20,.string x339002_37,.string (zp0.extract ((ji47):Int).toNat zp0.size),.bool true] Tryz.underlying92 ?_
           exact⟨by first|rfl|(simp[errW_none,errW_some] <;> rfl)|(simp only[← hji47];first|rfl|(simp[errW_none,errW_some] <;> rfl))|(simp[*,errW_none,errW_some] <;> rfl),gBe⟩
          ·simp only[Option.some.injEq,Prod.mk.injEq] at H
           obtain⟨rfl,rfl,rfl,rfl,rfl,rfl⟩:=H
           have hnb57:=NB338_330.out
           have hnc57:=NB330_338.out
           obtain⟨_,_,_,_,_⟩:=czA5 BK338
           obtain⟨_,_,_,_,_⟩:=cfA5 BK338
           exact spec_ReadUrl.e2
         ·have c46b1:decide (t334.size<zp0.size)=false:=decide_eq_false (fun h=>c46 (Int.ofNat_lt.mpr h))
          have c46n:(t334.size<zp0.size)=False:=eq_false (fun h=>c46 (Int.ofNat_lt.mpr h))
          have c46n:(t334.size<zp0.size)=False:=eq_false (fun h=>c46 (Int.ofNat_lt.mpr h))
          clear c46
          replace H:=gD H
          obtain⟨t343,A61,H⟩:=H
          replace H:=gB H
          rcases H with⟨rfl,H⟩|⟨rfl,H⟩
          ·simp only[Option.some.injEq,Prod.mk.injEq] at H
           obtain⟨rfl,rfl,rfl,rfl,rfl,rfl⟩:=H
           have hnb63:=NB338_330.out
           have hnc63:=NB330_338.out
           obtain⟨_,_,_,_,_⟩:=czA5 BK338
           obtain⟨_,_,_,_,_⟩:=cfA5 BK338
           go_wp2_with(((with_reducible refine gate_callee (f:=143) rfl ?_);refine goesL_ (some 91) rfl rfl Tryz.func143 (by kernel_rfl) rfl #[.agg #[.string t337,.int .i64 x339001_20,.string x339002_37,.string (⟨#[]⟩:ByteArray),.bool false]] rfl gq0 ?_;(with_reducible refine(spec_UrlOk.calls kj37 t337 x339001_20 x339002_37 (⟨#[]⟩:ByteArray) false true _ A61.out).mono ?_);rintro e wq6a ⟨rfl,hb⟩;refine⟨_,rfl,?_⟩;replace BK330:=blA (g:=gb330) hb;replace BK338:=blA (g:=gb338) hb;replace HB:=beA hb;(try clear hb);(try clear hb2);(try clear hk);(try clear hi);obtain⟨_,_,_,_,_⟩:=czA5 BK338;obtain⟨_,_,_,_,_⟩:=cfA5 BK338;obtain⟨_,_,_,_,_⟩:=czA5 BK330;obtain⟨_,_,_,_,_⟩:=cfA5 BK330))
           refine rctA gb330 92 #[.string t337,.int .i64 x339001_20,.string x339002_37,.string (⟨#[]⟩:ByteArray),.bool false] Tryz.underlying92 ?_
           exact⟨gq2,gBe⟩
          ·simp only[Option.some.injEq,Prod.mk.injEq] at H
           obtain⟨rfl,rfl,rfl,rfl,rfl,rfl⟩:=H
           have hnb68:=NB338_330.out
           have hnc68:=NB330_338.out
           obtain⟨_,_,_,_,_⟩:=czA5 BK338
           obtain⟨_,_,_,_,_⟩:=cfA5 BK338
           exact spec_ReadUrl.e2
    ·exact absurd H (by simp)


def spec_UrlText.f (k:Nat) (a0_0:ByteArray) (a0_1:Int) (a0_2:ByteArray) (a0_3:ByteArray) (a0_4:Bool):Option (ByteArray):=(spec_UrlOk.f k a0_0 a0_1 a0_2 a0_3 a0_4).bind fun t352=>(if t352=true then((spec_l7text.f k a0_0 a0_1 a0_2 a0_3 a0_4).bind fun t353=>(some t353)) else(some (⟨#[]⟩:ByteArray)))
theorem spec_UrlText.e0 {p:Prop} (h:p:=by
  obtain rfl:=Option.some.inj H
  go_enter Tryz.func96,Tryz.ntmps96
  go_wp2_with(first|((with_reducible refine gate_dst (N:=1) rfl ?_);refine boxA #[.string a0_0,.int .i64 a0_1,.string a0_2,.string a0_3,.bool a0_4] 92 ?_;intro gb351 hg wq0a hbox hb;have BK351:=Aside0.mk (hbox);have GW351:=geA hg;have GE351:=geA hg;replace HB:=beA hb;clear hb hbox hg;obtain⟨_,_,_,_,_⟩:=czA5 BK351;obtain⟨_,_,_,_,_⟩:=cfA5 BK351)|((with_reducible refine gate_callee (f:=143) rfl ?_);refine goesL_ (some 4) rfl rfl Tryz.func143 (by kernel_rfl) rfl #[.agg #[.string a0_0,.int .i64 a0_1,.string a0_2,.string a0_3,.bool a0_4]] rfl gq0 ?_;(with_reducible refine(spec_UrlOk.calls k a0_0 a0_1 a0_2 a0_3 a0_4 false _ A2.out).mono ?_);rintro e wq3a ⟨rfl,hb⟩;refine⟨_,rfl,?_⟩;replace BK351:=blA (g:=gb351) hb;replace HB:=beA hb;(try clear hb);(try clear hb2);(try clear hk);(try clear hi))|((with_reducible refine gate_callee (f:=143) rfl ?_);refine goesL_ (some 4) rfl rfl Tryz.func143 (by kernel_rfl) rfl #[.agg #[.string a0_0,.int .i64 a0_1,.string a0_2,.string a0_3,.bool a0_4]] rfl gq0 ?_;(with_reducible refine(spec_UrlOk.calls k a0_0 a0_1 a0_2 a0_3 a0_4 true _ A2.out).mono ?_);rintro e wq1a ⟨rfl,hb⟩;refine⟨_,rfl,?_⟩;replace BK351:=blA (g:=gb351) hb;replace HB:=beA hb;(try clear hb);(try clear hb2);(try clear hk);(try clear hi);obtain⟨_,_,_,_,_⟩:=czA5 BK351;obtain⟨_,_,_,_,_⟩:=cfA5 BK351)|((with_reducible refine gate_callee (f:=144) rfl ?_);refine goesL_ (some 7) rfl rfl Tryz.func144 (by kernel_rfl) rfl #[.agg #[.string a0_0,.int .i64 a0_1,.string a0_2,.string a0_3,.bool a0_4]] rfl gq0 ?_;(with_reducible refine(spec_l7text.calls k a0_0 a0_1 a0_2 a0_3 a0_4 t353 _ A4.out).mono ?_);rintro e wq2a ⟨rfl,hb⟩;refine⟨_,rfl,?_⟩;replace BK351:=blA (g:=gb351) hb;replace HB:=beA hb;(try clear hb);(try clear hb2);(try clear hk);(try clear hi)))
  go_ret
  exact⟨gq2,gBe⟩):p:=h
set_option maxHeartbeats 8000000 in
set_option maxRecDepth 100000 in
theorem spec_UrlText.calls (k:Nat) (a0_0:ByteArray) (a0_1:Int) (a0_2:ByteArray) (a0_3:ByteArray) (a0_4:Bool) (r:ByteArray) (w:World) (h:spec_UrlText.f k a0_0 a0_1 a0_2 a0_3 a0_4=some r) :
  Calls Tryz.prog 96 #[.agg #[.string a0_0,.int .i64 a0_1,.string a0_2,.string a0_3,.bool a0_4]] w fun e w'=>e = .returned (.string r)∧Below w.heap.size w w':=by
 have hu92:=Tryz.underlying92
 have HB:=Aside0.mk (Below.refl w.heap.size w)
 have H:=h
 clear h
 unfold spec_UrlText.f at H
 replace H:=gD H
 obtain⟨t352,A2,H⟩:=H
 replace H:=gB H
 rcases H with⟨rfl,H⟩|⟨rfl,H⟩
 ·replace H:=gD H
  obtain⟨t353,A4,H⟩:=H
  exact spec_UrlText.e0
 ·exact spec_UrlText.e0

def spec_Canon.f (k:Nat) (a0:ByteArray):Option (ByteArray×Bool):=(spec_ReadUrl.f k a0).bind fun bt354=>(if bt354.2.2.2.2.2=true then((spec_UrlText.f k bt354.1 bt354.2.1 bt354.2.2.1 bt354.2.2.2.1 bt354.2.2.2.2.1).bind fun t361=>(some (t361,true))) else(some ((⟨#[]⟩:ByteArray),false)))
theorem spec_Canon.e0 {p:Prop} (h:p:=by
  go_enter Tryz.func57,Tryz.ntmps57
  go_wp2_with(first|((with_reducible refine gate_callee (f:=95) rfl ?_);refine goesL_ (some 8) rfl rfl Tryz.func95 (by kernel_rfl) rfl #[.string a0] rfl gq0 ?_;(with_reducible refine(spec_ReadUrl.calls k a0 t354 t355 t356 t357 t358 false _ A2.out).mono ?_);rintro e wq3a ⟨rfl,hb⟩;refine⟨_,rfl,?_⟩;replace HB:=beA hb;(try clear hb);(try clear hb2);(try clear hk);(try clear hi))|((with_reducible refine gate_callee (f:=95) rfl ?_);refine goesL_ (some 8) rfl rfl Tryz.func95 (by kernel_rfl) rfl #[.string a0] rfl gq0 ?_;(with_reducible refine(spec_ReadUrl.calls k a0 t354 t355 t356 t357 t358 true _ A2.out).mono ?_);rintro e wq0a ⟨rfl,hb⟩;refine⟨_,rfl,?_⟩;replace HB:=beA hb;(try clear hb);(try clear hb2);(try clear hk);(try clear hi))|((with_reducible refine gate_dst (N:=4) rfl ?_);refine boxA #[.string (⟨#[]⟩:ByteArray),.int .i64 0,.string (⟨#[]⟩:ByteArray),.string (⟨#[]⟩:ByteArray),.bool false] 92 ?_;intro gb360 hg wq1a hbox hb;have BK360:=Aside0.mk (hbox);have GW360:=geA hg;have GE360:=geA hg;replace HB:=beA hb;clear hb hbox hg;obtain⟨_,_,_,_,_⟩:=czA5 BK360;obtain⟨_,_,_,_,_⟩:=cfA5 BK360)|((with_reducible refine gate_callee (f:=96) rfl ?_);refine goesL_ (some 14) rfl rfl Tryz.func96 (by kernel_rfl) rfl #[.agg #[.string t354,.int .i64 t355,.string t356,.string t357,.bool t358]] rfl gq0 ?_;(with_reducible refine(spec_UrlText.calls k t354 t355 t356 t357 t358 t361 _ A4.out).mono ?_);rintro e wq2a ⟨rfl,hb⟩;refine⟨_,rfl,?_⟩;replace BK360:=blA (g:=gb360) (o:=.cells #[.string t354,.int .i64 t355,.string t356,.string t357,.bool t358] 92 (0,0)) hb;replace HB:=beA hb;(try clear hb);(try clear hb2);(try clear hk);(try clear hi)))
  go_ret2
  exact⟨gq2,gBe⟩):p:=h
set_option maxHeartbeats 8000000 in
set_option maxRecDepth 100000 in
theorem spec_Canon.calls (k:Nat) (a0:ByteArray) (r1:ByteArray) (r2:Bool) (w:World) (h:spec_Canon.f k a0=some (r1,r2)) :
  Calls Tryz.prog 57 #[.string a0] w fun e w'=>e = .returned (.tuple #[.string r1,.bool r2])∧Below w.heap.size w w':=by
 have hu92:=Tryz.underlying92
 have HB:=Aside0.mk (Below.refl w.heap.size w)
 have H:=h
 clear h
 unfold spec_Canon.f at H
 replace H:=gD H
 obtain⟨⟨t354,t355,t356,t357,t358,t359⟩,A2,H⟩:=H
 dsimp only at H
 replace H:=gB H
 rcases H with⟨rfl,H⟩|⟨rfl,H⟩
 ·replace H:=gD H
  obtain⟨t361,A4,H⟩:=H
  simp only[Option.some.injEq,Prod.mk.injEq] at H
  obtain⟨rfl,rfl⟩:=H
  exact spec_Canon.e0
 ·simp only[Option.some.injEq,Prod.mk.injEq] at H
  obtain⟨rfl,rfl⟩:=H
  exact spec_Canon.e0


def spec_l8canon.f (k:Nat) (a0:ByteArray):Option (Bool):=(spec_Canon.f k a0).bind fun bt362=>(if bt362.2=true then(some (bt362.1.toList==a0.toList)) else(some false))
theorem spec_l8canon.e0 {p:Prop} (h:p:=by
  obtain rfl:=Option.some.inj H
  go_enter Tryz.func30,Tryz.ntmps30
  go_wp2_with(first|((with_reducible refine gate_callee (f:=57) rfl ?_);refine goesL_ (some 7) rfl rfl Tryz.func57 (by kernel_rfl) rfl #[.string a0] rfl gq0 ?_;(with_reducible refine(spec_Canon.calls k a0 t362 false _ A2.out).mono ?_);rintro e wq1a ⟨rfl,hb⟩;refine⟨_,rfl,?_⟩;replace HB:=beA hb;(try clear hb);(try clear hb2);(try clear hk);(try clear hi))|((with_reducible refine gate_callee (f:=57) rfl ?_);refine goesL_ (some 7) rfl rfl Tryz.func57 (by kernel_rfl) rfl #[.string a0] rfl gq0 ?_;(with_reducible refine(spec_Canon.calls k a0 t362 true _ A2.out).mono ?_);rintro e wq0a ⟨rfl,hb⟩;refine⟨_,rfl,?_⟩;replace HB:=beA hb;(try clear hb);(try clear hb2);(try clear hk);(try clear hi)))
  go_ret
  exact⟨gq2,gBe⟩):p:=h
set_option maxHeartbeats 8000000 in
set_option maxRecDepth 100000 in
theorem spec_l8canon.calls (k:Nat) (a0:ByteArray) (r:Bool) (w:World) (h:spec_l8canon.f k a0=some r) :
  Calls Tryz.prog 30 #[.string a0] w fun e w'=>e = .returned (.bool r)∧Below w.heap.size w w':=by
 have HB:=Aside0.mk (Below.refl w.heap.size w)
 have H:=h
 clear h
 unfold spec_l8canon.f at H
 replace H:=gD H
 obtain⟨⟨t362,t363⟩,A2,H⟩:=H
 dsimp only at H
 replace H:=gB H
 rcases H with⟨rfl,H⟩|⟨rfl,H⟩
 ·exact spec_l8canon.e0
 ·exact spec_l8canon.e0


def spec_EntryOk.f (k:Nat) (a0_0:ByteArray) (a0_1:Int) (a0_2:Int) (l0_3:List (S72)) (a0_4:ByteArray) (a0_5:ByteArray) (a0_6:Int) (a0_7:ByteArray) (a0_8:Bool) (l0_9:List (S72)) (a0_10:ByteArray):Option (Bool):=(spec_l8canon.f k a0_0).bind fun t440=>(if t440=true then((spec_l2time.f a0_1).bind fun t441=>(if t441=true then((spec_l2time.f a0_2).bind fun t442=>(if t442=true then(if a0_1≤a0_2 then((spec_FieldsOk.f k l0_3).bind fun t443=>(if t443=true then((spec_MsgOk.f k a0_4 a0_5 a0_6 a0_7 a0_8 l0_9 a0_10).bind fun t444=>(if t444=true then(if a0_4.toList=([]:List UInt8) then(some (!a0_8)) else(some false)) else(some false))) else(some false))) else(some false)) else(some false))) else(some false))) else(some false))
theorem spec_EntryOk.e0 {p:Prop} (h:p:=by
  obtain rfl:=Option.some.inj H
  go_enter Tryz.func11,Tryz.ntmps11
  go_wp2_with(first|((with_reducible refine gate_dst (N:=1) rfl ?_);refine boxA #[.string a0_0,.int .i64 a0_1,.int .i64 a0_2,.slice A0_3 l0_3.length c0_3,.string a0_4,.string a0_5,.int .i64 a0_6,.string a0_7,.bool a0_8,.slice A0_9 l0_9.length c0_9,.string a0_10] 33 ?_;intro gb439 hg wq0a hbox hb;have BK439:=Aside0.mk (hbox);have GW439:=geA hg;have GE439:=geA hg;replace HB:=beA hb;clear hb hbox hg;obtain⟨_,_,_,_,_,_,_,_,_,_,_⟩:=czA11 BK439;obtain⟨_,_,_,_,_,_,_,_,_,_,_⟩:=cfA11 BK439)|((with_reducible refine gate_callee (f:=30) rfl ?_);refine goesL_ (some 5) rfl rfl Tryz.func30 (by kernel_rfl) rfl #[.string a0_0] rfl gq0 ?_;(with_reducible refine(spec_l8canon.calls k a0_0 false _ A2.out).mono ?_);rintro e wq6a ⟨rfl,hb⟩;refine⟨_,rfl,?_⟩;replace BK439:=blA (g:=gb439) hb;replace HB:=beA hb;(try clear hb);(try clear hb2);(try clear hk);(try clear hi))|((with_reducible refine gate_callee (f:=30) rfl ?_);refine goesL_ (some 5) rfl rfl Tryz.func30 (by kernel_rfl) rfl #[.string a0_0] rfl gq0 ?_;(with_reducible refine(spec_l8canon.calls k a0_0 true _ A2.out).mono ?_);rintro e wq1a ⟨rfl,hb⟩;refine⟨_,rfl,?_⟩;replace BK439:=blA (g:=gb439) hb;replace HB:=beA hb;(try clear hb);(try clear hb2);(try clear hk);(try clear hi);obtain⟨_,_,_,_,_,_,_,_,_,_,_⟩:=czA11 BK439;obtain⟨_,_,_,_,_,_,_,_,_,_,_⟩:=cfA11 BK439)|(go_at_call 31;(with_reducible refine(spec_l2time.calls a0_1 false _ A4.out).mono ?_);rintro e w' ⟨rfl,⟨nd,rfl⟩⟩)|(go_at_call 31;(with_reducible refine(spec_l2time.calls a0_1 true _ A4.out).mono ?_);rintro e w' ⟨rfl,⟨nd,rfl⟩⟩)|(go_at_call 31;(with_reducible refine(spec_l2time.calls a0_2 false _ A6.out).mono ?_);rintro e w' ⟨rfl,⟨nd,rfl⟩⟩)|(go_at_call 31;(with_reducible refine(spec_l2time.calls a0_2 true _ A6.out).mono ?_);rintro e w' ⟨rfl,⟨nd,rfl⟩⟩)|(go_at_call 32;(with_reducible refine(spec_FieldsOk.calls k _ _ l0_3 false _ ?side1 ?side2 A9.out).mono ?_);(case side1=>repeat(first|exact(Kd.C_below HR0_3.out gBe)|(with_reducible refine Kd.C_alloc ?_ _)|(with_reducible refine Kd.C_drewN ?_ _)|(with_reducible refine Kd.C_drew ?_)));(case side2=>exact HC0_3.out);rintro e wq5a ⟨rfl,hb⟩;replace BK439:=blA (g:=gb439) hb;replace HB:=beA hb;(try clear hb);(try clear hb2);(try clear hk);(try clear hi))|(go_at_call 32;(with_reducible refine(spec_FieldsOk.calls k _ _ l0_3 true _ ?side1 ?side2 A9.out).mono ?_);(case side1=>repeat(first|exact(Kd.C_below HR0_3.out gBe)|(with_reducible refine Kd.C_alloc ?_ _)|(with_reducible refine Kd.C_drewN ?_ _)|(with_reducible refine Kd.C_drew ?_)));(case side2=>exact HC0_3.out);rintro e wq2a ⟨rfl,hb⟩;replace BK439:=blA (g:=gb439) hb;replace HB:=beA hb;(try clear hb);(try clear hb2);(try clear hk);(try clear hi);obtain⟨_,_,_,_,_,_,_,_,_,_,_⟩:=czA11 BK439;obtain⟨_,_,_,_,_,_,_,_,_,_,_⟩:=cfA11 BK439)|(go_at_call 33;(with_reducible refine(spec_MsgOk.calls k a0_4 a0_5 a0_6 a0_7 a0_8 _ _ l0_9 a0_10 false _ ?side1 ?side2 A11.out).mono ?_);(case side1=>repeat(first|exact(Kd.C_below HR0_9.out HB.out)|(with_reducible refine Kd.C_alloc ?_ _)|(with_reducible refine Kd.C_drewN ?_ _)|(with_reducible refine Kd.C_drew ?_)));(case side2=>exact HC0_9.out);rintro e wq4a ⟨rfl,hb⟩;replace BK439:=blA (g:=gb439) hb;replace HB:=beA hb;(try clear hb);(try clear hb2);(try clear hk);(try clear hi))|(go_at_call 33;(with_reducible refine(spec_MsgOk.calls k a0_4 a0_5 a0_6 a0_7 a0_8 _ _ l0_9 a0_10 true _ ?side1 ?side2 A11.out).mono ?_);(case side1=>repeat(first|exact(Kd.C_below HR0_9.out HB.out)|(with_reducible refine Kd.C_alloc ?_ _)|(with_reducible refine Kd.C_drewN ?_ _)|(with_reducible refine Kd.C_drew ?_)));(case side2=>exact HC0_9.out);rintro e wq3a ⟨rfl,hb⟩;replace BK439:=blA (g:=gb439) hb;replace HB:=beA hb;(try clear hb);(try clear hb2);(try clear hk);(try clear hi);obtain⟨_,_,_,_,_,_,_,_,_,_,_⟩:=czA11 BK439;obtain⟨_,_,_,_,_,_,_,_,_,_,_⟩:=cfA11 BK439))
  go_ret
  exact⟨gq2,gBe⟩):p:=h
set_option maxHeartbeats 8000000 in
set_option maxRecDepth 100000 in
theorem spec_EntryOk.calls (k:Nat) (a0_0:ByteArray) (a0_1:Int) (a0_2:Int) (A0_3:Option Addr) (c0_3:Nat) (l0_3:List (S72)) (a0_4:ByteArray) (a0_5:ByteArray) (a0_6:Int) (a0_7:ByteArray) (a0_8:Bool) (A0_9:Option Addr) (c0_9:Nat) (l0_9:List (S72)) (a0_10:ByteArray) (r:Bool) (w:World) (hr0_3:Kd.C k72 w A0_3 l0_3.length l0_3) (hc0_3:l0_3.length≤c0_3) (hr0_9:Kd.C k72 w A0_9 l0_9.length l0_9) (hc0_9:l0_9.length≤c0_9) (h:spec_EntryOk.f k a0_0 a0_1 a0_2 l0_3 a0_4 a0_5 a0_6 a0_7 a0_8 l0_9 a0_10=some r) :
  Calls Tryz.prog 11 #[.agg #[.string a0_0,.int .i64 a0_1,.int .i64 a0_2,.slice A0_3 l0_3.length c0_3,.string a0_4,.string a0_5,.int .i64 a0_6,.string a0_7,.bool a0_8,.slice A0_9 l0_9.length c0_9,.string a0_10]] w fun e w'=>e = .returned (.bool r)∧Below w.heap.size w w':=by
 have hu33:=Tryz.underlying33
 have hu31:=Tryz.underlying31
 have HR0_3:=Aside0.mk hr0_3
 have HC0_3:=Aside0.mk hc0_3
 clear hr0_3 hc0_3
 have HR0_9:=Aside0.mk hr0_9
 have HC0_9:=Aside0.mk hc0_9
 clear hr0_9 hc0_9
 have HB:=Aside0.mk (Below.refl w.heap.size w)
 have H:=h
 clear h
 unfold spec_EntryOk.f at H
 replace H:=gD H
 obtain⟨t440,A2,H⟩:=H
 replace H:=gB H
 rcases H with⟨rfl,H⟩|⟨rfl,H⟩
 ·replace H:=gD H
  obtain⟨t441,A4,H⟩:=H
  replace H:=gB H
  rcases H with⟨rfl,H⟩|⟨rfl,H⟩
  ·replace H:=gD H
   obtain⟨t442,A6,H⟩:=H
   replace H:=gB H
   rcases H with⟨rfl,H⟩|⟨rfl,H⟩
   ·replace H:=gI H
    rcases H with⟨-,c8b0,-,H⟩|⟨-,c8b0,-,H⟩
    ·replace H:=gD H
     obtain⟨t443,A9,H⟩:=H
     replace H:=gB H
     rcases H with⟨rfl,H⟩|⟨rfl,H⟩
     ·replace H:=gD H
      obtain⟨t444,A11,H⟩:=H
      replace H:=gB H
      rcases H with⟨rfl,H⟩|⟨rfl,H⟩
      ·replace H:=gI H
       rcases H with⟨c13,-,-,H⟩|⟨c13,-,-,H⟩
       ·have c13b0:(a0_4.toList==([]:List UInt8))=true:=beq_iff_eq.mpr c13
        have c13b1:(a0_4.toList != ([]:List UInt8))=false:=bne_eq_false_iff_eq.mpr c13
        clear c13
        exact spec_EntryOk.e0
       ·have c13b0:(a0_4.toList==([]:List UInt8))=false:=beq_eq_false_iff_ne.mpr c13
        have c13b1:(a0_4.toList != ([]:List UInt8))=true:=bne_iff_ne.mpr c13
        exact spec_EntryOk.e0
      ·exact spec_EntryOk.e0
     ·exact spec_EntryOk.e0
    ·exact spec_EntryOk.e0
   ·exact spec_EntryOk.e0
  ·exact spec_EntryOk.e0
 ·exact spec_EntryOk.e0

end Go.Proofs.YtfhllanhldbkkaaGreatDoor.P
