import Derived.Test.YtonmpnghlopnoaaGreatDoorPx0
import Derived.Test.YtonmpnghlopnoaaGreatDoorWC
import Derived.Test.YtonmpnghlopnoaaGreatDoorPxliba
import Derived.Lib.AtoiAll
import Derived.Lib.AtoiErrMem
import Derived.Test.YtonmpnghlopnoaaGreatDoorShelf
namespace Go.Proofs.YtonmpnghlopnoaaGreatDoor.P
open Go.RowKit Go.Proofs.YtonmpnghlopnoaaGreatDoorW.PrintWords Go.Proofs.YtonmpnghlopnoaaGreatDoorW.PrintLast Go.Proofs.YtonmpnghlopnoaaGreatDoorW.PrintMore
attribute [local go_sem] max2_int min2_int max_two min_two max_three min_three max_four min_four   -- for this text's walks alone
set_option linter.unusedVariables false
set_option linter.unusedSimpArgs false

def impl_within.f (a0:Int) (a1:Int) (a2:Int):Option (Bool):=if a1≤a0 then(some (decide (a0≤a2))) else(some false)
set_option maxHeartbeats 8000000 in
set_option maxRecDepth 100000 in
theorem impl_within.calls (a0 a1 a2:Int) (r:Bool) (w:World) (h:impl_within.f a0 a1 a2=some r) :
  Calls Tryz.prog 69 #[.int .i64 a0,.int .i64 a1,.int .i64 a2] w fun e w'=>e = .returned (.bool r)∧Drawn0 w w':=by
 have H:=h;clear h;unfold impl_within.f at H;replace H:=gI H;rcases H with⟨-,c4b0,-,H⟩|⟨-,c4b0,-,H⟩
 ·obtain rfl:=Option.some.inj H;go_enter Tryz.func69,Tryz.ntmps69;go_wp2;go_ret;exact⟨gq3,gq5⟩
 ·obtain rfl:=Option.some.inj H;go_enter Tryz.func69,Tryz.ntmps69;go_wp2;go_ret;exact⟨gq3,gq5⟩

def impl_CurOk.f (a0_0:ByteArray) (a0_1:Int):Option (Bool):=(impl_within.f a0_1 0 (a0_0.size:Int)).bind fun t274=>(some t274)
set_option maxHeartbeats 8000000 in
set_option maxRecDepth 100000 in
theorem impl_CurOk.calls (a0_0:ByteArray) (a0_1:Int) (r:Bool) (w:World) (h:impl_CurOk.f a0_0 a0_1=some r) :
  Calls Tryz.prog 33 #[.agg #[.string a0_0,.int .i64 a0_1]] w fun e w'=>e = .returned (.bool r)∧Below w.heap.size w w':=by
 have hu35:=Tryz.underlying35;have HB:=Aside0.mk (Below.refl w.heap.size w);have H:=h;clear h;unfold impl_CurOk.f at H;replace H:=gD H;obtain⟨t274,A2,H⟩:=H;obtain rfl:=Option.some.inj H;go_enter Tryz.func33,Tryz.ntmps33;go_wp2_with(first|((with_reducible refine gate_dst (N:=1) rfl ?_);refine boxA #[.string a0_0,.int .i64 a0_1] 35 ?_;intro gb273 hg w3 hbox hb;have BK273:=Aside0.mk (hbox);have GE273:=geA hg;replace HB:=beA hb;clear hb hbox hg;obtain⟨_,_⟩:=czA2 BK273;obtain⟨_,_⟩:=cfA2 BK273)|((with_reducible refine gate_callee (f:=69) rfl ?_);refine goesL_ (some 8) rfl rfl Tryz.func69 (by kernel_rfl) rfl #[.int .i64 a0_1,.int .i64 0,.int .i64 (a0_0.size:Int)] rfl gq0 ?_;(with_reducible refine(impl_within.calls a0_1 0 (a0_0.size:Int) t274 _ A2.out).mono ?_);rintro e w' ⟨rfl,⟨nd,rfl⟩⟩;refine⟨_,rfl,?_⟩));go_ret;exact⟨gq1,gBe⟩


def impl_TakeLine.j0 : Nat→ByteArray→Int→Bool→ByteArray→Int→Option (ByteArray×ByteArray×Int×Int)
 |0,_,_,_,_,_=>none
 |k+1,x5,x6,x18,x279000,x279001=>if x18=true then(some ((⟨#[]⟩:ByteArray),(⟨#[]⟩:ByteArray),0,1)) else(if 0≤x6 then(if x6<(x5.size:Int) then(if(bt x5 x6)=13 then(if 0≤(wrap64 (x6+1)) then(if(wrap64 (x6+1))<(x5.size:Int) then(if(bt x5 (wrap64 (x6+1)))=10 then(if x6≤(x5.size:Int) then(some (x5.extract 0 (x6:Int).toNat,x279000,wrap64 ((wrap64 (x279001+x6))+2),0)) else(none)) else(some ((⟨#[]⟩:ByteArray),(⟨#[]⟩:ByteArray),0,2))) else(none)) else(none)) else(some ((⟨#[]⟩:ByteArray),(⟨#[]⟩:ByteArray),0,2))) else(none)) else(none))
def impl_TakeLine.f (k:Nat) (a0_0:ByteArray) (a0_1:Int):Option (ByteArray×ByteArray×Int×Int):=(impl_CurOk.f a0_0 a0_1).bind fun t280=>(if t280=true then(if 0≤a0_1 then(if a0_1≤(a0_0.size:Int) then((strings_IndexAny.f (a0_0.extract (a0_1:Int).toNat a0_0.size) (⟨#[13,10]⟩:ByteArray)).bind fun t281=>(if t281<0 then(impl_TakeLine.j0 k (a0_0.extract (a0_1:Int).toNat a0_0.size) t281 true a0_0 a0_1) else(if 0≤t281 then(if t281<((a0_0.extract (a0_1:Int).toNat a0_0.size).size:Int) then(if(bt (a0_0.extract (a0_1:Int).toNat a0_0.size) t281)=13 then(impl_TakeLine.j0 k (a0_0.extract (a0_1:Int).toNat a0_0.size) t281 (t281==(wrap64 (((a0_0.extract (a0_1:Int).toNat a0_0.size).size:Int)-1))) a0_0 a0_1) else(impl_TakeLine.j0 k (a0_0.extract (a0_1:Int).toNat a0_0.size) t281 false a0_0 a0_1)) else(none)) else(none)))) else(none)) else(none)) else(some ((⟨#[]⟩:ByteArray),(⟨#[]⟩:ByteArray),0,2)))
theorem impl_TakeLine.mono_l : ∀ k,(∀ y0 y1 y2 y3 y4,LeO (impl_TakeLine.j0 k y0 y1 y2 y3 y4) (impl_TakeLine.j0 (k+1) y0 y1 y2 y3 y4))
 |0=>fun _ _ _ _ _ r h=>by simp[impl_TakeLine.j0] at h
 |k+1=>by
  have ih0:=impl_TakeLine.mono_l k
  ·intro y0 y1 y2 y3 y4
   unfold impl_TakeLine.j0
   repeat' first|(with_reducible first|exact ih0 ..|exact LeO.refl ..|exact LeO.none ..|refine LeO.ite ?_ ?_|refine LeO.bind ?_ (fun _=>?_))|exact ih0 ..
theorem impl_TakeLine.mono : ∀ a0 a1 k,LeO (impl_TakeLine.f k a0 a1) (impl_TakeLine.f (k+1) a0 a1):=by
 intro a0 a1 k
 have ih0:=impl_TakeLine.mono_l k
 unfold impl_TakeLine.f
 repeat' first|(with_reducible first|exact ih0 ..|exact LeO.refl ..|exact LeO.none ..|refine LeO.ite ?_ ?_|refine LeO.bind ?_ (fun _=>?_))|exact ih0 ..
def impl_TakeLine.T8 : Bool×List (List Nat×List Nat):=(true,[([],[]),([],[]),([0,1],[0,1]),([],[]),([3],[3]),([],[]),([5],[5]),([],[]),([6,7],[6,7]),([8],[8]),([4,9],[4,9]),([2,0,1,2],[2]),([10,11,0,1,2,3,4,5,6,7,8,9,10,11],[10]),([12,0,1,2,3,4,5,6,7,8,9,10,11,12],[])])
def impl_TakeLine.B8 : List Nat:=[0,0,3,0,8,0,32,0,224,480,1016,7,4095,8191]
theorem impl_TakeLine.tab8 : rtab .any (opsOf Tryz.f19 8)=impl_TakeLine.T8:=by kernel_rfl
theorem impl_TakeLine.bits8 : waitsOk impl_TakeLine.T8.2 impl_TakeLine.B8=true:=by kernel_rfl
set_option maxHeartbeats 8000000 in
set_option maxRecDepth 100000 in
theorem impl_TakeLine.calls (k:Nat) (a0_0:ByteArray) (a0_1:Int) (r1 r2:ByteArray) (r3 r4:Int) (w:World) (h:impl_TakeLine.f k a0_0 a0_1=some (r1,r2,r3,r4)) :
  Calls Tryz.prog 19 #[.agg #[.string a0_0,.int .i64 a0_1]] w fun e w'=>e = .returned (.tuple #[.string r1,.agg #[.string r2,.int .i64 r3],.int .i64 r4])∧Below w.heap.size w w':=by
 have hu35:=Tryz.underlying35;have HB:=Aside0.mk (Below.refl w.heap.size w);have H:=h;clear h;unfold impl_TakeLine.f at H;obtain⟨zp0,hzp0⟩:∃ z_:ByteArray,a0_0.extract (a0_1:Int).toNat a0_0.size=z_:=⟨_,rfl⟩;rw[hzp0] at H;replace H:=gD H;obtain⟨t280,A2,H⟩:=H;replace H:=gB H;rcases H with⟨rfl,H⟩|⟨rfl,H⟩
 ·replace H:=gN H;obtain⟨-,c4b1,c4b0,H⟩:=H;replace H:=gN H;obtain⟨-,c5b1,c5b0,H⟩:=H;replace H:=gD H;obtain⟨t281,A6,H⟩:=H;have HC7:=Aside0.mk H;clear H;go_enter Tryz.func19,Tryz.ntmps19;go_upto_region 5 with(first|((with_reducible refine gate_dst (N:=1) rfl ?_);refine boxG #[.string a0_0,.int .i64 a0_1] 35 ?_;intro gb278 hg w8 hbox hb;have BK278:=Aside0.mk (hbox);have GW278:=geA hg;have GE278:=geA hg;replace HB:=beA hb;clear hb hbox hg)|((with_reducible refine gate_dst (N:=3) rfl ?_);refine boxG #[.string (⟨#[]⟩:ByteArray),.int .i64 0] 35 ?_;intro gb279 hg w9 hbox hb;have BK279:=Aside0.mk (hbox);have GW279:=geA hg;have GE279:=geA hg;have NB278_279:=neA (g:=gb278) hg;have NB279_278:=neB NB278_279;replace BK278:=blA (g:=gb278) hb;replace HB:=beA hb;clear hb hbox hg;have hnb10:=NB278_279.out;have hnc10:=NB279_278.out;obtain⟨_,_⟩:=czA2 BK278;obtain⟨_,_⟩:=cfA2 BK278)|((with_reducible refine gate_callee (f:=33) rfl ?_);refine goesL_ (some 8) rfl rfl Tryz.func33 (by kernel_rfl) rfl #[.agg #[.string a0_0,.int .i64 a0_1]] rfl gq0 ?_;(with_reducible refine(impl_CurOk.calls a0_0 a0_1 true _ A2.out).mono ?_);rintro e w12 ⟨rfl,hb⟩;refine⟨_,rfl,?_⟩;replace BK278:=blA (g:=gb278) hb;replace BK279:=blA (g:=gb279) hb;replace HB:=beA hb;(try clear hb);obtain⟨_,_⟩:=czA2 BK278;obtain⟨_,_⟩:=cfA2 BK278)|((with_reducible refine gate_callee (f:=34) rfl ?_);refine goesL_ (some 17) rfl rfl Tryz.func34 (by kernel_rfl) rfl #[.string zp0,.string (⟨#[13,10]⟩:ByteArray)] rfl gq0 ?_;(with_reducible refine(strings_IndexAny.calls zp0 (⟨#[13,10]⟩:ByteArray) t281 _ A6.out).mono ?_);rintro e w14 ⟨rfl,hb⟩;refine⟨_,rfl,?_⟩;replace BK278:=blA (g:=gb278) hb;replace BK279:=blA (g:=gb279) hb;replace HB:=beA hb;(try clear hb)));(try simp only[Act.put,List.setIfInBounds_toArray,List.set_cons_zero,List.set_cons_succ])
  go_cut [18] (fun v18 wc=>∃(kq:Nat) (x18_6:Bool),v18 = .bool x18_6∧Aside0 (impl_TakeLine.j0 kq zp0 t281 x18_6 a0_0 a0_1=some (r1,r2,r3,r4))∧Aside0 (kq≤k)∧Aside0 (wc.heap[gb278]? = some (.cells #[.string a0_0,.int .i64 a0_1] 35 (0,0)))∧Aside0 (wc.heap[gb279]? = some (.cells #[.string (⟨#[]⟩:ByteArray),.int .i64 0] 35 (0,0)))∧Aside0 (Below w.heap.size w wc))
  case first=>
   have H:=HC7.out;clear HC7;replace H:=gI H;rcases H with⟨-,c15b0,-,H⟩|⟨-,c15b0,-,H⟩
   ·(first|rw[c15b0]|(simp only[i64_w,i32_w];rw[c15b0])|skip)
    have H':=Aside0.mk H;clear H;go_wp2;go_meet
    case rel=>exact⟨_,(true),gq3,H',⟨gq9⟩,⟨gBk⟩,⟨gBk⟩,⟨gBe⟩⟩
   ·(first|rw[c15b0]|(simp only[i64_w,i32_w];rw[c15b0])|skip)
    replace H:=gN H;obtain⟨-,c16b0,-,H⟩:=H;replace H:=gN H;obtain⟨-,c17b0,-,H⟩:=H;replace H:=gI H;rcases H with⟨c19,-,-,H⟩|⟨c19,-,-,H⟩
    ·obtain⟨c19b0,c19b1⟩:=gEt c19;clear c19;have H':=Aside0.mk H;clear H;have p18:0≤(t281:Int):=of_decide_eq_true gq4;have q18:t281<(zp0.size:Int):=of_decide_eq_true gq4;have hx18:=bt_at zp0 t281;replace p18:=eq_true p18;replace q18:=eq_true q18;go_wp2;go_meet
     case rel=>exact⟨_,((t281==(wrap64 ((zp0.size:Int)-1)))),gq3,H',⟨gq9⟩,⟨gBk⟩,⟨gBk⟩,⟨gBe⟩⟩
    ·obtain⟨c19b0,c19b1⟩:=gEf c19;have H':=Aside0.mk H;clear H;have p18:0≤(t281:Int):=of_decide_eq_true gq4;have q18:t281<(zp0.size:Int):=of_decide_eq_true gq4;have hx18:=bt_at zp0 t281;replace p18:=eq_true p18;replace q18:=eq_true q18;go_wp2;go_meet
     case rel=>exact⟨_,(false),gq3,H',⟨gq9⟩,⟨gBk⟩,⟨gBk⟩,⟨gBe⟩⟩
  case rest=>
   clear HC7;try clear c4b0
   try clear c4b1
   try clear c5b0
   try clear c5b1
   obtain⟨kq,x18_6,rfl,HA,HJ6,BK278,BK279,HB⟩:=hcut;cases kq with
   |zero=>exact absurd HA.out (by simp[impl_TakeLine.j0])
   |succ kj6=>
    have H:=HA.out;clear HA;simp only[impl_TakeLine.j0] at H;replace H:=gB H;rcases H with⟨rfl,H⟩|⟨rfl,H⟩
    ·simp only[Option.some.injEq,Prod.mk.injEq] at H;obtain⟨rfl,rfl,rfl,rfl⟩:=H;have hnb21:=NB279_278.out;have hnc21:=NB278_279.out;obtain⟨_,_⟩:=czA2 BK279;obtain⟨_,_⟩:=cfA2 BK279;go_wp2;refine bodyPost_ret (results_list (rs:=[.tmp 2,.cell 3 35,.tmp 4]) rfl (by simp) (.tmp (.cell gb279 35 #[.string (⟨#[]⟩:ByteArray),.int .i64 0] (0,0) _ rfl gq8 Tryz.underlying35 rfl (by kernel_rfl) (.tmp .nil)))) rfl ?_;exact⟨gq1,gBe⟩
    ·replace H:=gN H;obtain⟨-,c23b0,-,H⟩:=H;replace H:=gN H;obtain⟨-,c24b0,-,H⟩:=H;replace H:=gI H;rcases H with⟨c26,-,-,H⟩|⟨c26,-,-,H⟩
     ·obtain⟨c26b0,c26b1⟩:=gEt c26;clear c26;obtain⟨ji27,hji27⟩:∃ j_:Int,(wrap64 (t281+1))=j_:=⟨_,rfl⟩;replace H:(if 0≤(ji27) then(if(ji27)<(zp0.size:Int) then(if(bt zp0 (ji27))=10 then(if t281≤(zp0.size:Int) then(some (zp0.extract 0 (t281:Int).toNat,a0_0,wrap64 ((wrap64 (a0_1+t281))+2),0)) else(none)) else(some ((⟨#[]⟩:ByteArray),(⟨#[]⟩:ByteArray),0,2))) else(none)) else(none))=some (r1,r2,r3,r4):=by first|(rw[hji27] at H;exact H)|(simp only[hji27] at H ⊢;exact H)
      have hji27w:(IntKind.i64.wrap (t281+1))=ji27:=(i64_w _).trans hji27;replace H:=gN H;obtain⟨-,c28b0,-,H⟩:=H;replace H:=gN H;obtain⟨-,c29b0,-,H⟩:=H;replace H:=gI H;rcases H with⟨c31,-,-,H⟩|⟨c31,-,-,H⟩
      ·obtain⟨c31b0,c31b1⟩:=gEt c31;clear c31;have c32b0:=eq_true (of_decide_eq_true gq4:0≤t281);replace H:=gN H;obtain⟨-,c33b1,c33b0,H⟩:=H;simp only[Option.some.injEq,Prod.mk.injEq] at H;obtain⟨rfl,rfl,rfl,rfl⟩:=H;have p25:0≤(t281:Int):=of_decide_eq_true gq4;have q25:t281<(zp0.size:Int):=of_decide_eq_true gq4;have hx25:=bt_at zp0 t281;replace p25:=eq_true p25;replace q25:=eq_true q25;have p30:0≤((ji27):Int):=of_decide_eq_true gq4;have q30:(ji27)<(zp0.size:Int):=of_decide_eq_true gq4;have hx30:=bt_at zp0 (ji27);replace p30:=eq_true p30;replace q30:=eq_true q30;try go_wp2
       replace BK278:=Aside0.mk (blk_drew BK278.out);replace BK279:=Aside0.mk (blk_drew BK279.out);replace HB:=Aside0.mk (below_drew1 HB.out);refine start_ (n:=14) (S:=fun w'=>w'.cell? ⟨gb278,0,none⟩=some (.string a0_0)∧w'.cell? ⟨gb278,1,none⟩=some (.int .i64 a0_1)) (ds:=[]) #[false,false,false,false,false,false,false,false,false,false,false,false,false,false] (by kernel_rfl) rfl rfl ⟨(blk_cell BK278.out 0).trans rfl,(blk_cell BK278.out 1).trans rfl⟩ (fun hHeld=>?_);refine with_tabW impl_TakeLine.tab8 impl_TakeLine.bits8 (fun HT_ HW_=>?_);generalize wc.drew=w34 at BK278 BK279 HB hHeld ⊢;refine pureT 0 (some 47) ?_;refine pureT 1 (some 48) ?_;refine pureT 2 (some 49) ?_;refine pureT 3 (some 50) ?_;refine pureT 5 (some 52) ?_;refine pureT 7 (some 54) ?_;refine pureT 11 (some 2) ?_;refine takeT_ 4 (some 51) (hy:=Or.inl ⟨by rfl,gq10⟩) ?_;refine takeT_ 6 (some 53) (hy:=Or.inl ⟨by rfl,gq10⟩) ?_;refine pureT 8 (some 55) ?_;refine pureT 9 (some 56) ?_;refine pureT 10 (some 57) ?_;refine one_ (i:=12) (N:=none) #[true,true,true,true,true,true,true,true,true,true,true,true,true,false] rfl rfl (one_of HT_.out (by kernel_rfl)) (by decide) (fun K hK=>?_);have _:=cz0 BK279;have _:=blk_frozen BK279.out 0;have hns35_0:=NB278_279.out;have hms35_0:=NB279_278.out;have hs36:=cz1 BK279;have hfs36:=blk_frozen BK279.out 1;have hns36_0:=NB278_279.out;have hms36_0:=NB279_278.out;refine skip_ (w1:=?_) (by rfl) rfl ?_ ?_;rotate_left
       ·go_simp
        rfl
       refine hK.out _ _ ⟨((cell_far (p:=⟨gb279,_,none⟩) NB278_279.out _).trans (((cell_far (p:=⟨gb279,_,none⟩) NB278_279.out _).trans (hHeld.1)))),((cell_far (p:=⟨gb279,_,none⟩) NB278_279.out _).trans (((cell_far (p:=⟨gb279,_,none⟩) NB278_279.out _).trans (hHeld.2))))⟩ (fun hHeld=>?_);clear hK K;refine pureT 13 (some 4) ?_;refine done_ (done_of HT_.out (by kernel_rfl)) ?_;try go_wp2
       refine bodyPost_ret (results_list (rs:=[.tmp 2,.cell 3 35,.tmp 4]) rfl (by simp) (.tmp (.cell gb279 35 #[.string a0_0,.int .i64 (wrap64 ((wrap64 (a0_1+t281))+2))] (0,0) _ rfl (by(with_reducible repeat(first|refine blk_drewN ?_ _|refine blk_drew ?_|refine blk_alloc ?_ _));refine blk_put (cs:=#[.string a0_0,.int .i64 0]) ?_ 1 _ rfl;(with_reducible repeat(first|refine blk_drewN ?_ _|refine blk_drew ?_|refine blk_alloc ?_ _));refine blk_put (cs:=#[.string (⟨#[]⟩:ByteArray),.int .i64 0]) ?_ 0 _ rfl;(with_reducible repeat(first|refine blk_drewN ?_ _|refine blk_drew ?_|refine blk_alloc ?_ _));exact BK279.out) Tryz.underlying35 rfl (by kernel_rfl) (.tmp .nil)))) rfl ?_;exact⟨by first|rfl|(simp[errW_none,errW_some] <;> rfl)|(simp only[← hji27];first|rfl|(simp[errW_none,errW_some] <;> rfl))|(simp[*,errW_none,errW_some] <;> rfl),gBe⟩
      ·obtain⟨c31b0,c31b1⟩:=gEf c31;simp only[Option.some.injEq,Prod.mk.injEq] at H;obtain⟨rfl,rfl,rfl,rfl⟩:=H;have p25:0≤(t281:Int):=of_decide_eq_true gq4;have q25:t281<(zp0.size:Int):=of_decide_eq_true gq4;have hx25:=bt_at zp0 t281;replace p25:=eq_true p25;replace q25:=eq_true q25;have p30:0≤((ji27):Int):=of_decide_eq_true gq4;have q30:(ji27)<(zp0.size:Int):=of_decide_eq_true gq4;have hx30:=bt_at zp0 (ji27);replace p30:=eq_true p30;replace q30:=eq_true q30;have hnb37:=NB279_278.out;have hnc37:=NB278_279.out;obtain⟨_,_⟩:=czA2 BK279;obtain⟨_,_⟩:=cfA2 BK279;go_wp2;refine bodyPost_ret (results_list (rs:=[.tmp 2,.cell 3 35,.tmp 4]) rfl (by simp) (.tmp (.cell gb279 35 #[.string (⟨#[]⟩:ByteArray),.int .i64 0] (0,0) _ rfl gq8 Tryz.underlying35 rfl (by kernel_rfl) (.tmp .nil)))) rfl ?_;exact⟨by first|rfl|(simp[errW_none,errW_some] <;> rfl)|(simp only[← hji27];first|rfl|(simp[errW_none,errW_some] <;> rfl))|(simp[*,errW_none,errW_some] <;> rfl),gBe⟩
     ·obtain⟨c26b0,c26b1⟩:=gEf c26;simp only[Option.some.injEq,Prod.mk.injEq] at H;obtain⟨rfl,rfl,rfl,rfl⟩:=H;have p25:0≤(t281:Int):=of_decide_eq_true gq4;have q25:t281<(zp0.size:Int):=of_decide_eq_true gq4;have hx25:=bt_at zp0 t281;replace p25:=eq_true p25;replace q25:=eq_true q25;have hnb39:=NB279_278.out;have hnc39:=NB278_279.out;obtain⟨_,_⟩:=czA2 BK279;obtain⟨_,_⟩:=cfA2 BK279;go_wp2;refine bodyPost_ret (results_list (rs:=[.tmp 2,.cell 3 35,.tmp 4]) rfl (by simp) (.tmp (.cell gb279 35 #[.string (⟨#[]⟩:ByteArray),.int .i64 0] (0,0) _ rfl gq8 Tryz.underlying35 rfl (by kernel_rfl) (.tmp .nil)))) rfl ?_;exact⟨gq1,gBe⟩
 ·simp only[Option.some.injEq,Prod.mk.injEq] at H;obtain⟨rfl,rfl,rfl,rfl⟩:=H;go_enter Tryz.func19,Tryz.ntmps19;go_wp2_with(first|((with_reducible refine gate_dst (N:=1) rfl ?_);refine boxG #[.string a0_0,.int .i64 a0_1] 35 ?_;intro gb278 hg w41 hbox hb;have BK278:=Aside0.mk (hbox);have GW278:=geA hg;have GE278:=geA hg;replace HB:=beA hb;clear hb hbox hg)|((with_reducible refine gate_dst (N:=3) rfl ?_);refine boxG #[.string (⟨#[]⟩:ByteArray),.int .i64 0] 35 ?_;intro gb279 hg w42 hbox hb;have BK279:=Aside0.mk (hbox);have GW279:=geA hg;have GE279:=geA hg;have NB278_279:=neA (g:=gb278) hg;have NB279_278:=neB NB278_279;replace BK278:=blA (g:=gb278) hb;replace HB:=beA hb;clear hb hbox hg;have hnb43:=NB278_279.out;have hnc43:=NB279_278.out;obtain⟨_,_⟩:=czA2 BK278;obtain⟨_,_⟩:=cfA2 BK278)|((with_reducible refine gate_callee (f:=33) rfl ?_);refine goesL_ (some 8) rfl rfl Tryz.func33 (by kernel_rfl) rfl #[.agg #[.string a0_0,.int .i64 a0_1]] rfl gq0 ?_;(with_reducible refine(impl_CurOk.calls a0_0 a0_1 false _ A2.out).mono ?_);rintro e w45 ⟨rfl,hb⟩;refine⟨_,rfl,?_⟩;replace BK278:=blA (g:=gb278) hb;replace BK279:=blA (g:=gb279) hb;replace HB:=beA hb;(try clear hb);obtain⟨_,_⟩:=czA2 BK279;obtain⟨_,_⟩:=cfA2 BK279));refine bodyPost_ret (results_list (rs:=[.tmp 2,.cell 3 35,.tmp 4]) rfl (by simp) (.tmp (.cell gb279 35 #[.string (⟨#[]⟩:ByteArray),.int .i64 0] (0,0) _ rfl gq8 Tryz.underlying35 rfl (by kernel_rfl) (.tmp .nil)))) rfl ?_;exact⟨gq1,gBe⟩


def impl_isDigit.f (a0:Int):Option (Bool):=if a0≥48 then(some (decide (a0≤57))) else(some false)
set_option maxHeartbeats 8000000 in
set_option maxRecDepth 100000 in
theorem impl_isDigit.calls (a0:Int) (r:Bool) (w:World) (h:impl_isDigit.f a0=some r) :
  Calls Tryz.prog 37 #[.int .u8 a0] w fun e w'=>e = .returned (.bool r)∧Drawn0 w w':=by
 have H:=h;clear h;unfold impl_isDigit.f at H;replace H:=gI H;rcases H with⟨c2,-,-,H⟩|⟨c2,-,-,H⟩
 ·have c2b0:decide (48≤a0)=true:=decide_eq_true c2;clear c2;obtain rfl:=Option.some.inj H;go_enter Tryz.func37,Tryz.ntmps37;go_wp2;go_ret;exact⟨gq3,gq5⟩
 ·have c2b0:decide (48≤a0)=false:=decide_eq_false c2;clear c2;obtain rfl:=Option.some.inj H;go_enter Tryz.func37,Tryz.ntmps37;go_wp2;go_ret;exact⟨gq3,gq5⟩

def impl_all__impl_isDigit.l0 : Nat→ByteArray→Int→Option (Bool)
 |0,_,_=>none
 |k+1,x0,x5=>if x5<(x0.size:Int) then(if 0≤x5 then((impl_isDigit.f (bt x0 x5)).bind fun t297=>(if t297=true then(impl_all__impl_isDigit.l0 k x0 (wrap64 (x5+1))) else(some false))) else(none)) else(some true)
def impl_all__impl_isDigit.f (k:Nat) (a0:ByteArray)  : Option (Bool):=impl_all__impl_isDigit.l0 k a0 0
theorem impl_all__impl_isDigit.mono_l : ∀ k,(∀ y0 y1,LeO (impl_all__impl_isDigit.l0 k y0 y1) (impl_all__impl_isDigit.l0 (k+1) y0 y1))
 |0=>fun _ _ r h=>by simp[impl_all__impl_isDigit.l0] at h
 |k+1=>by
  have ih0:=impl_all__impl_isDigit.mono_l k
  ·intro y0 y1
   unfold impl_all__impl_isDigit.l0
   repeat' first|(with_reducible first|exact ih0 ..|exact LeO.refl ..|exact LeO.none ..|refine LeO.ite ?_ ?_|refine LeO.bind ?_ (fun _=>?_))|exact ih0 ..
theorem impl_all__impl_isDigit.mono : ∀ a0 k,LeO (impl_all__impl_isDigit.f k a0) (impl_all__impl_isDigit.f (k+1) a0):=by
 intro a0 k
 have ih0:=impl_all__impl_isDigit.mono_l k
 unfold impl_all__impl_isDigit.f
 repeat' first|(with_reducible first|exact ih0 ..|exact LeO.refl ..|exact LeO.none ..|refine LeO.ite ?_ ?_|refine LeO.bind ?_ (fun _=>?_))|exact ih0 ..
set_option maxHeartbeats 8000000 in
set_option maxRecDepth 100000 in
theorem impl_all__impl_isDigit.calls (k:Nat) (a0:ByteArray)  (r:Bool) (w:World) (h:impl_all__impl_isDigit.f k a0=some r) :
  Calls Tryz.prog 36 #[.string a0,.func (.func 37) #[] #[]] w fun e w'=>e = .returned (.bool r)∧Drawn0 w w':=by
 have H:=h;clear h;unfold impl_all__impl_isDigit.f at H;have H':=Aside0.mk H;clear H;go_enter Tryz.func36,Tryz.ntmps36;go_wp2;go_loopg [5] k (fun kq v5 w'=>∃(x5_1:Int),v5 = .int .i64 x5_1∧Aside0 (impl_all__impl_isDigit.l0 kq a0 x5_1=some r)∧Aside0 (kq≤k)∧Drawn0 w w')
 case atStart=>exact⟨(0),gq3,H',⟨Nat.le_refl _⟩,gq5⟩
 case round=>
  clear H';obtain⟨x5_1,rfl,HA,HK1,⟨m1,rfl⟩⟩:=hrel;cases gk with
  |zero=>exact absurd HA.out (by simp[impl_all__impl_isDigit.l0])
  |succ k1=>
   have H:=HA.out;clear HA;simp only[impl_all__impl_isDigit.l0] at H;replace H:=gI H;rcases H with⟨-,c3b0,-,H⟩|⟨-,c3b0,-,H⟩
   ·replace H:=gN H;obtain⟨-,c4b0,-,H⟩:=H;replace H:=gD H;obtain⟨t297,A6,H⟩:=H;replace H:=gB H;rcases H with⟨rfl,H⟩|⟨rfl,H⟩
    ·have H':=Aside0.mk H;clear H;have p5:0≤(x5_1:Int):=of_decide_eq_true gq4;have q5:x5_1<(a0.size:Int):=of_decide_eq_true gq4;have hx5:=bt_at a0 x5_1;replace p5:=eq_true p5;replace q5:=eq_true q5;go_wp2_with(first|(go_at_call 37;(with_reducible refine(impl_isDigit.calls (bt a0 x5_1) true _ A6.out).mono ?_);rintro e w' ⟨rfl,⟨nd,rfl⟩⟩));go_roundg k1
     case measure=>have:=HK1.out;omega
     case rel=>exact⟨(wrap64 (x5_1+1)),gq3,H',⟨by have:=HK1.out;omega⟩,gq5⟩
    ·obtain rfl:=Option.some.inj H;have p5:0≤(x5_1:Int):=of_decide_eq_true gq4;have q5:x5_1<(a0.size:Int):=of_decide_eq_true gq4;have hx5:=bt_at a0 x5_1;replace p5:=eq_true p5;replace q5:=eq_true q5;go_wp2_with(first|(go_at_call 37;(with_reducible refine(impl_isDigit.calls (bt a0 x5_1) false _ A6.out).mono ?_);rintro e w' ⟨rfl,⟨nd,rfl⟩⟩));go_ret;exact⟨gq3,gq5⟩
   ·obtain rfl:=Option.some.inj H;go_wp2;go_ret;exact⟨gq3,gq5⟩

def impl_isPlain.f (a0:Int):Option (Bool):=if a0=9 then(some true) else(if a0≥32 then(some (a0 != 127)) else(some false))
set_option maxHeartbeats 8000000 in
set_option maxRecDepth 100000 in
theorem impl_isPlain.calls (a0:Int) (r:Bool) (w:World) (h:impl_isPlain.f a0=some r) :
  Calls Tryz.prog 77 #[.int .u8 a0] w fun e w'=>e = .returned (.bool r)∧Drawn0 w w':=by
 have H:=h;clear h;unfold impl_isPlain.f at H;replace H:=gI H;rcases H with⟨c2,-,-,H⟩|⟨c2,-,-,H⟩
 ·obtain⟨c2b0,c2b1⟩:=gEt c2;clear c2;obtain rfl:=Option.some.inj H;go_enter Tryz.func77,Tryz.ntmps77;go_wp2;go_ret;exact⟨gq3,gq5⟩
 ·obtain⟨c2b0,c2b1⟩:=gEf c2;replace H:=gI H;rcases H with⟨c3,-,-,H⟩|⟨c3,-,-,H⟩
  ·have c3b0:decide (32≤a0)=true:=decide_eq_true c3;clear c3;obtain rfl:=Option.some.inj H;go_enter Tryz.func77,Tryz.ntmps77;go_wp2;go_ret;exact⟨gq3,gq5⟩
  ·have c3b0:decide (32≤a0)=false:=decide_eq_false c3;clear c3;obtain rfl:=Option.some.inj H;go_enter Tryz.func77,Tryz.ntmps77;go_wp2;go_ret;exact⟨gq3,gq5⟩

def impl_all__impl_isPlain.l0 : Nat→ByteArray→Int→Option (Bool)
 |0,_,_=>none
 |k+1,x0,x5=>if x5<(x0.size:Int) then(if 0≤x5 then((impl_isPlain.f (bt x0 x5)).bind fun t316=>(if t316=true then(impl_all__impl_isPlain.l0 k x0 (wrap64 (x5+1))) else(some false))) else(none)) else(some true)
def impl_all__impl_isPlain.f (k:Nat) (a0:ByteArray)  : Option (Bool):=impl_all__impl_isPlain.l0 k a0 0
theorem impl_all__impl_isPlain.mono_l : ∀ k,(∀ y0 y1,LeO (impl_all__impl_isPlain.l0 k y0 y1) (impl_all__impl_isPlain.l0 (k+1) y0 y1))
 |0=>fun _ _ r h=>by simp[impl_all__impl_isPlain.l0] at h
 |k+1=>by
  have ih0:=impl_all__impl_isPlain.mono_l k
  ·intro y0 y1
   unfold impl_all__impl_isPlain.l0
   repeat' first|(with_reducible first|exact ih0 ..|exact LeO.refl ..|exact LeO.none ..|refine LeO.ite ?_ ?_|refine LeO.bind ?_ (fun _=>?_))|exact ih0 ..
theorem impl_all__impl_isPlain.mono : ∀ a0 k,LeO (impl_all__impl_isPlain.f k a0) (impl_all__impl_isPlain.f (k+1) a0):=by
 intro a0 k
 have ih0:=impl_all__impl_isPlain.mono_l k
 unfold impl_all__impl_isPlain.f
 repeat' first|(with_reducible first|exact ih0 ..|exact LeO.refl ..|exact LeO.none ..|refine LeO.ite ?_ ?_|refine LeO.bind ?_ (fun _=>?_))|exact ih0 ..
set_option maxHeartbeats 8000000 in
set_option maxRecDepth 100000 in
theorem impl_all__impl_isPlain.calls (k:Nat) (a0:ByteArray)  (r:Bool) (w:World) (h:impl_all__impl_isPlain.f k a0=some r) :
  Calls Tryz.prog 36 #[.string a0,.func (.func 77) #[] #[]] w fun e w'=>e = .returned (.bool r)∧Drawn0 w w':=by
 have H:=h;clear h;unfold impl_all__impl_isPlain.f at H;have H':=Aside0.mk H;clear H;go_enter Tryz.func36,Tryz.ntmps36;go_wp2;go_loopg [5] k (fun kq v5 w'=>∃(x5_1:Int),v5 = .int .i64 x5_1∧Aside0 (impl_all__impl_isPlain.l0 kq a0 x5_1=some r)∧Aside0 (kq≤k)∧Drawn0 w w')
 case atStart=>exact⟨(0),gq3,H',⟨Nat.le_refl _⟩,gq5⟩
 case round=>
  clear H';obtain⟨x5_1,rfl,HA,HK1,⟨m1,rfl⟩⟩:=hrel;cases gk with
  |zero=>exact absurd HA.out (by simp[impl_all__impl_isPlain.l0])
  |succ k1=>
   have H:=HA.out;clear HA;simp only[impl_all__impl_isPlain.l0] at H;replace H:=gI H;rcases H with⟨-,c3b0,-,H⟩|⟨-,c3b0,-,H⟩
   ·replace H:=gN H;obtain⟨-,c4b0,-,H⟩:=H;replace H:=gD H;obtain⟨t316,A6,H⟩:=H;replace H:=gB H;rcases H with⟨rfl,H⟩|⟨rfl,H⟩
    ·have H':=Aside0.mk H;clear H;have p5:0≤(x5_1:Int):=of_decide_eq_true gq4;have q5:x5_1<(a0.size:Int):=of_decide_eq_true gq4;have hx5:=bt_at a0 x5_1;replace p5:=eq_true p5;replace q5:=eq_true q5;go_wp2_with(first|(go_at_call 77;(with_reducible refine(impl_isPlain.calls (bt a0 x5_1) true _ A6.out).mono ?_);rintro e w' ⟨rfl,⟨nd,rfl⟩⟩));go_roundg k1
     case measure=>have:=HK1.out;omega
     case rel=>exact⟨(wrap64 (x5_1+1)),gq3,H',⟨by have:=HK1.out;omega⟩,gq5⟩
    ·obtain rfl:=Option.some.inj H;have p5:0≤(x5_1:Int):=of_decide_eq_true gq4;have q5:x5_1<(a0.size:Int):=of_decide_eq_true gq4;have hx5:=bt_at a0 x5_1;replace p5:=eq_true p5;replace q5:=eq_true q5;go_wp2_with(first|(go_at_call 77;(with_reducible refine(impl_isPlain.calls (bt a0 x5_1) false _ A6.out).mono ?_);rintro e w' ⟨rfl,⟨nd,rfl⟩⟩));go_ret;exact⟨gq3,gq5⟩
   ·obtain rfl:=Option.some.inj H;go_wp2;go_ret;exact⟨gq3,gq5⟩

def impl_isLower.f (a0:Int):Option (Bool):=if a0≥97 then(some (decide (a0≤122))) else(some false)
set_option maxHeartbeats 8000000 in
set_option maxRecDepth 100000 in
theorem impl_isLower.calls (a0:Int) (r:Bool) (w:World) (h:impl_isLower.f a0=some r) :
  Calls Tryz.prog 144 #[.int .u8 a0] w fun e w'=>e = .returned (.bool r)∧Drawn0 w w':=by
 have H:=h;clear h;unfold impl_isLower.f at H;replace H:=gI H;rcases H with⟨c2,-,-,H⟩|⟨c2,-,-,H⟩
 ·have c2b0:decide (97≤a0)=true:=decide_eq_true c2;clear c2;obtain rfl:=Option.some.inj H;go_enter Tryz.func144,Tryz.ntmps144;go_wp2;go_ret;exact⟨gq3,gq5⟩
 ·have c2b0:decide (97≤a0)=false:=decide_eq_false c2;clear c2;obtain rfl:=Option.some.inj H;go_enter Tryz.func144,Tryz.ntmps144;go_wp2;go_ret;exact⟨gq3,gq5⟩

def impl_isUpper.f (a0:Int):Option (Bool):=if a0≥65 then(some (decide (a0≤90))) else(some false)
set_option maxHeartbeats 8000000 in
set_option maxRecDepth 100000 in
theorem impl_isUpper.calls (a0:Int) (r:Bool) (w:World) (h:impl_isUpper.f a0=some r) :
  Calls Tryz.prog 100 #[.int .u8 a0] w fun e w'=>e = .returned (.bool r)∧Drawn0 w w':=by
 have H:=h;clear h;unfold impl_isUpper.f at H;replace H:=gI H;rcases H with⟨c2,-,-,H⟩|⟨c2,-,-,H⟩
 ·have c2b0:decide (65≤a0)=true:=decide_eq_true c2;clear c2;obtain rfl:=Option.some.inj H;go_enter Tryz.func100,Tryz.ntmps100;go_wp2;go_ret;exact⟨gq3,gq5⟩
 ·have c2b0:decide (65≤a0)=false:=decide_eq_false c2;clear c2;obtain rfl:=Option.some.inj H;go_enter Tryz.func100,Tryz.ntmps100;go_wp2;go_ret;exact⟨gq3,gq5⟩


def impl_isTokenByte.f (a0:Int):Option (Bool):=(impl_isLower.f a0).bind fun t347=>(if t347=true then(some true) else((impl_isUpper.f a0).bind fun t348=>(if t348=true then(some true) else((impl_isDigit.f a0).bind fun t349=>(if t349=true then(some true) else(if a0=96 then(some true) else((strings_IndexByte.f (⟨#[33,35,36,37,38,39,42,43,45,46,94,95,124,126]⟩:ByteArray) a0).bind fun t350=>(some (decide (t350≥0))))))))))
set_option maxHeartbeats 8000000 in
set_option maxRecDepth 100000 in
theorem impl_isTokenByte.calls (a0:Int) (r:Bool) (w:World) (h:impl_isTokenByte.f a0=some r) :
  Calls Tryz.prog 116 #[.int .u8 a0] w fun e w'=>e = .returned (.bool r)∧Drawn0 w w':=by
 have H:=h;clear h;unfold impl_isTokenByte.f at H;replace H:=gD H;obtain⟨t347,A2,H⟩:=H;replace H:=gB H;rcases H with⟨rfl,H⟩|⟨rfl,H⟩
 ·obtain rfl:=Option.some.inj H;go_enter Tryz.func116,Tryz.ntmps116;go_wp2_with(first|((with_reducible refine gate_callee (f:=144) rfl ?_);refine goesL_ (some 4) rfl rfl Tryz.func144 (by kernel_rfl) rfl #[.int .u8 a0] rfl gq0 ?_;(with_reducible refine(impl_isLower.calls a0 true _ A2.out).mono ?_);rintro e w' ⟨rfl,⟨nd,rfl⟩⟩;refine⟨_,rfl,?_⟩));go_ret;exact⟨gq3,gq5⟩
 ·replace H:=gD H;obtain⟨t348,A4,H⟩:=H;replace H:=gB H;rcases H with⟨rfl,H⟩|⟨rfl,H⟩
  ·obtain rfl:=Option.some.inj H;go_enter Tryz.func116,Tryz.ntmps116;go_wp2_with(first|((with_reducible refine gate_callee (f:=144) rfl ?_);refine goesL_ (some 4) rfl rfl Tryz.func144 (by kernel_rfl) rfl #[.int .u8 a0] rfl gq0 ?_;(with_reducible refine(impl_isLower.calls a0 false _ A2.out).mono ?_);rintro e w' ⟨rfl,⟨nd,rfl⟩⟩;refine⟨_,rfl,?_⟩)|(go_at_call 100;(with_reducible refine(impl_isUpper.calls a0 true _ A4.out).mono ?_);rintro e w' ⟨rfl,⟨nd,rfl⟩⟩));go_ret;exact⟨gq3,gq5⟩
  ·replace H:=gD H;obtain⟨t349,A6,H⟩:=H;replace H:=gB H;rcases H with⟨rfl,H⟩|⟨rfl,H⟩
   ·obtain rfl:=Option.some.inj H;go_enter Tryz.func116,Tryz.ntmps116;go_wp2_with(first|((with_reducible refine gate_callee (f:=144) rfl ?_);refine goesL_ (some 4) rfl rfl Tryz.func144 (by kernel_rfl) rfl #[.int .u8 a0] rfl gq0 ?_;(with_reducible refine(impl_isLower.calls a0 false _ A2.out).mono ?_);rintro e w' ⟨rfl,⟨nd,rfl⟩⟩;refine⟨_,rfl,?_⟩)|(go_at_call 100;(with_reducible refine(impl_isUpper.calls a0 false _ A4.out).mono ?_);rintro e w' ⟨rfl,⟨nd,rfl⟩⟩)|(go_at_call 37;(with_reducible refine(impl_isDigit.calls a0 true _ A6.out).mono ?_);rintro e w' ⟨rfl,⟨nd,rfl⟩⟩));go_ret;exact⟨gq3,gq5⟩
   ·replace H:=gI H;rcases H with⟨c8,-,-,H⟩|⟨c8,-,-,H⟩
    ·obtain⟨c8b0,c8b1⟩:=gEt c8;clear c8;obtain rfl:=Option.some.inj H;go_enter Tryz.func116,Tryz.ntmps116;go_wp2_with(first|((with_reducible refine gate_callee (f:=144) rfl ?_);refine goesL_ (some 4) rfl rfl Tryz.func144 (by kernel_rfl) rfl #[.int .u8 a0] rfl gq0 ?_;(with_reducible refine(impl_isLower.calls a0 false _ A2.out).mono ?_);rintro e w' ⟨rfl,⟨nd,rfl⟩⟩;refine⟨_,rfl,?_⟩)|(go_at_call 100;(with_reducible refine(impl_isUpper.calls a0 false _ A4.out).mono ?_);rintro e w' ⟨rfl,⟨nd,rfl⟩⟩)|(go_at_call 37;(with_reducible refine(impl_isDigit.calls a0 false _ A6.out).mono ?_);rintro e w' ⟨rfl,⟨nd,rfl⟩⟩));go_ret;exact⟨gq3,gq5⟩
    ·obtain⟨c8b0,c8b1⟩:=gEf c8;replace H:=gD H;obtain⟨t350,A9,H⟩:=H;obtain rfl:=Option.some.inj H;go_enter Tryz.func116,Tryz.ntmps116;go_wp2_with(first|((with_reducible refine gate_callee (f:=144) rfl ?_);refine goesL_ (some 4) rfl rfl Tryz.func144 (by kernel_rfl) rfl #[.int .u8 a0] rfl gq0 ?_;(with_reducible refine(impl_isLower.calls a0 false _ A2.out).mono ?_);rintro e w' ⟨rfl,⟨nd,rfl⟩⟩;refine⟨_,rfl,?_⟩)|(go_at_call 100;(with_reducible refine(impl_isUpper.calls a0 false _ A4.out).mono ?_);rintro e w' ⟨rfl,⟨nd,rfl⟩⟩)|(go_at_call 37;(with_reducible refine(impl_isDigit.calls a0 false _ A6.out).mono ?_);rintro e w' ⟨rfl,⟨nd,rfl⟩⟩)|(go_at_call 103;(with_reducible refine(strings_IndexByte.calls (⟨#[33,35,36,37,38,39,42,43,45,46,94,95,124,126]⟩:ByteArray) a0 t350 _ A9.out).mono ?_);rintro e w' ⟨rfl,⟨nd,rfl⟩⟩));go_ret;exact⟨gq3,gq5⟩

def impl_all__impl_isTokenByte.l0 : Nat→ByteArray→Int→Option (Bool)
 |0,_,_=>none
 |k+1,x0,x5=>if x5<(x0.size:Int) then(if 0≤x5 then((impl_isTokenByte.f (bt x0 x5)).bind fun t351=>(if t351=true then(impl_all__impl_isTokenByte.l0 k x0 (wrap64 (x5+1))) else(some false))) else(none)) else(some true)
def impl_all__impl_isTokenByte.f (k:Nat) (a0:ByteArray)  : Option (Bool):=impl_all__impl_isTokenByte.l0 k a0 0
theorem impl_all__impl_isTokenByte.mono_l : ∀ k,(∀ y0 y1,LeO (impl_all__impl_isTokenByte.l0 k y0 y1) (impl_all__impl_isTokenByte.l0 (k+1) y0 y1))
 |0=>fun _ _ r h=>by simp[impl_all__impl_isTokenByte.l0] at h
 |k+1=>by
  have ih0:=impl_all__impl_isTokenByte.mono_l k
  ·intro y0 y1
   unfold impl_all__impl_isTokenByte.l0
   repeat' first|(with_reducible first|exact ih0 ..|exact LeO.refl ..|exact LeO.none ..|refine LeO.ite ?_ ?_|refine LeO.bind ?_ (fun _=>?_))|exact ih0 ..
theorem impl_all__impl_isTokenByte.mono : ∀ a0 k,LeO (impl_all__impl_isTokenByte.f k a0) (impl_all__impl_isTokenByte.f (k+1) a0):=by
 intro a0 k
 have ih0:=impl_all__impl_isTokenByte.mono_l k
 unfold impl_all__impl_isTokenByte.f
 repeat' first|(with_reducible first|exact ih0 ..|exact LeO.refl ..|exact LeO.none ..|refine LeO.ite ?_ ?_|refine LeO.bind ?_ (fun _=>?_))|exact ih0 ..
set_option maxHeartbeats 8000000 in
set_option maxRecDepth 100000 in
theorem impl_all__impl_isTokenByte.calls (k:Nat) (a0:ByteArray)  (r:Bool) (w:World) (h:impl_all__impl_isTokenByte.f k a0=some r) :
  Calls Tryz.prog 36 #[.string a0,.func (.func 116) #[] #[]] w fun e w'=>e = .returned (.bool r)∧Drawn0 w w':=by
 have H:=h;clear h;unfold impl_all__impl_isTokenByte.f at H;have H':=Aside0.mk H;clear H;go_enter Tryz.func36,Tryz.ntmps36;go_wp2;go_loopg [5] k (fun kq v5 w'=>∃(x5_1:Int),v5 = .int .i64 x5_1∧Aside0 (impl_all__impl_isTokenByte.l0 kq a0 x5_1=some r)∧Aside0 (kq≤k)∧Drawn0 w w')
 case atStart=>exact⟨(0),gq3,H',⟨Nat.le_refl _⟩,gq5⟩
 case round=>
  clear H';obtain⟨x5_1,rfl,HA,HK1,⟨m1,rfl⟩⟩:=hrel;cases gk with
  |zero=>exact absurd HA.out (by simp[impl_all__impl_isTokenByte.l0])
  |succ k1=>
   have H:=HA.out;clear HA;simp only[impl_all__impl_isTokenByte.l0] at H;replace H:=gI H;rcases H with⟨-,c3b0,-,H⟩|⟨-,c3b0,-,H⟩
   ·replace H:=gN H;obtain⟨-,c4b0,-,H⟩:=H;replace H:=gD H;obtain⟨t351,A6,H⟩:=H;replace H:=gB H;rcases H with⟨rfl,H⟩|⟨rfl,H⟩
    ·have H':=Aside0.mk H;clear H;have p5:0≤(x5_1:Int):=of_decide_eq_true gq4;have q5:x5_1<(a0.size:Int):=of_decide_eq_true gq4;have hx5:=bt_at a0 x5_1;replace p5:=eq_true p5;replace q5:=eq_true q5;go_wp2_with(first|(go_at_call 116;(with_reducible refine(impl_isTokenByte.calls (bt a0 x5_1) true _ A6.out).mono ?_);rintro e w' ⟨rfl,⟨nd,rfl⟩⟩));go_roundg k1
     case measure=>have:=HK1.out;omega
     case rel=>exact⟨(wrap64 (x5_1+1)),gq3,H',⟨by have:=HK1.out;omega⟩,gq5⟩
    ·obtain rfl:=Option.some.inj H;have p5:0≤(x5_1:Int):=of_decide_eq_true gq4;have q5:x5_1<(a0.size:Int):=of_decide_eq_true gq4;have hx5:=bt_at a0 x5_1;replace p5:=eq_true p5;replace q5:=eq_true q5;go_wp2_with(first|(go_at_call 116;(with_reducible refine(impl_isTokenByte.calls (bt a0 x5_1) false _ A6.out).mono ?_);rintro e w' ⟨rfl,⟨nd,rfl⟩⟩));go_ret;exact⟨gq3,gq5⟩
   ·obtain rfl:=Option.some.inj H;go_wp2;go_ret;exact⟨gq3,gq5⟩

def impl_Token.f (k:Nat) (a0:ByteArray):Option (Bool):=(impl_within.f (a0.size:Int) 1 4000).bind fun t352=>(if t352=true then((impl_all__impl_isTokenByte.f k a0).bind fun t353=>(some t353)) else(some false))
theorem impl_Token.mono : ∀ a0 k,LeO (impl_Token.f k a0) (impl_Token.f (k+1) a0):=by
 intro a0 k
 unfold impl_Token.f
 repeat' first|(with_reducible first|exact impl_all__impl_isTokenByte.mono ..|exact LeO.refl ..|exact LeO.none ..|refine LeO.ite ?_ ?_|refine LeO.bind ?_ (fun _=>?_))
set_option maxHeartbeats 8000000 in
set_option maxRecDepth 100000 in
theorem impl_Token.calls (k:Nat) (a0:ByteArray) (r:Bool) (w:World) (h:impl_Token.f k a0=some r) :
  Calls Tryz.prog 79 #[.string a0] w fun e w'=>e = .returned (.bool r)∧Drawn0 w w':=by
 have H:=h;clear h;unfold impl_Token.f at H;replace H:=gD H;obtain⟨t352,A2,H⟩:=H;replace H:=gB H;rcases H with⟨rfl,H⟩|⟨rfl,H⟩
 ·replace H:=gD H;obtain⟨t353,A4,H⟩:=H;obtain rfl:=Option.some.inj H;go_enter Tryz.func79,Tryz.ntmps79;go_wp2_with(first|((with_reducible refine gate_callee (f:=69) rfl ?_);refine goesL_ (some 5) rfl rfl Tryz.func69 (by kernel_rfl) rfl #[.int .i64 (a0.size:Int),.int .i64 1,.int .i64 4000] rfl gq0 ?_;(with_reducible refine(impl_within.calls (a0.size:Int) 1 4000 true _ A2.out).mono ?_);rintro e w' ⟨rfl,⟨nd,rfl⟩⟩;refine⟨_,rfl,?_⟩)|(go_at_call 36;(with_reducible refine(impl_all__impl_isTokenByte.calls k a0  t353 _ A4.out).mono ?_);rintro e w' ⟨rfl,⟨nd,rfl⟩⟩));go_ret;exact⟨gq3,gq5⟩
 ·obtain rfl:=Option.some.inj H;go_enter Tryz.func79,Tryz.ntmps79;go_wp2_with(first|((with_reducible refine gate_callee (f:=69) rfl ?_);refine goesL_ (some 5) rfl rfl Tryz.func69 (by kernel_rfl) rfl #[.int .i64 (a0.size:Int),.int .i64 1,.int .i64 4000] rfl gq0 ?_;(with_reducible refine(impl_within.calls (a0.size:Int) 1 4000 false _ A2.out).mono ?_);rintro e w' ⟨rfl,⟨nd,rfl⟩⟩;refine⟨_,rfl,?_⟩));go_ret;exact⟨gq3,gq5⟩

def impl_isSpace.f (a0:Int):Option (Bool):=if a0=32 then(some true) else(some (a0==9))
set_option maxHeartbeats 8000000 in
set_option maxRecDepth 100000 in
theorem impl_isSpace.calls (a0:Int) (r:Bool) (w:World) (h:impl_isSpace.f a0=some r) :
  Calls Tryz.prog 82 #[.int .u8 a0] w fun e w'=>e = .returned (.bool r)∧Drawn0 w w':=by
 have H:=h;clear h;unfold impl_isSpace.f at H;replace H:=gI H;rcases H with⟨c2,-,-,H⟩|⟨c2,-,-,H⟩
 ·obtain⟨c2b0,c2b1⟩:=gEt c2;clear c2;obtain rfl:=Option.some.inj H;go_enter Tryz.func82,Tryz.ntmps82;go_wp2;go_ret;exact⟨gq3,gq5⟩
 ·obtain⟨c2b0,c2b1⟩:=gEf c2;obtain rfl:=Option.some.inj H;go_enter Tryz.func82,Tryz.ntmps82;go_wp2;go_ret;exact⟨gq3,gq5⟩


mutual
def impl_Trim.j1 : Nat→ByteArray→Option (ByteArray)
 |0,_=>none
 |k+1,x0=>impl_Trim.l1 k x0
def impl_Trim.l1 : Nat→ByteArray→Option (ByteArray)
 |0,_=>none
 |k+1,x0=>if x0.toList=([]:List UInt8) then(some x0) else(if 0≤(wrap64 ((x0.size:Int)-1)) then(if(wrap64 ((x0.size:Int)-1))<(x0.size:Int) then((impl_isSpace.f (bt x0 (wrap64 ((x0.size:Int)-1)))).bind fun t423=>(if t423=true then(if(wrap64 ((x0.size:Int)-1))≤(x0.size:Int) then(impl_Trim.l1 k (x0.extract 0 ((wrap64 ((x0.size:Int)-1)):Int).toNat)) else(none)) else(some x0))) else(none)) else(none))
def impl_Trim.l0 : Nat→ByteArray→Option (ByteArray)
 |0,_=>none
 |k+1,x0=>if x0.toList=([]:List UInt8) then(impl_Trim.j1 k x0) else(if 0<(x0.size:Int) then((impl_isSpace.f (bt x0 0)).bind fun t422=>(if t422=true then(if 1≤(x0.size:Int) then(impl_Trim.l0 k (x0.extract 1 x0.size)) else(none)) else(impl_Trim.j1 k x0))) else(none))
end
def impl_Trim.f (k:Nat) (a0:ByteArray):Option (ByteArray):=impl_Trim.l0 k a0
theorem impl_Trim.mono_l : ∀ k,(∀ y0,LeO (impl_Trim.j1 k y0) (impl_Trim.j1 (k+1) y0))∧(∀ y0,LeO (impl_Trim.l1 k y0) (impl_Trim.l1 (k+1) y0))∧(∀ y0,LeO (impl_Trim.l0 k y0) (impl_Trim.l0 (k+1) y0))
 |0=>⟨fun _ r h=>by simp[impl_Trim.j1] at h,fun _ r h=>by simp[impl_Trim.l1] at h,fun _ r h=>by simp[impl_Trim.l0] at h⟩
 |k+1=>by
  obtain⟨ih0,ih1,ih2⟩:=impl_Trim.mono_l k
  refine⟨?_,?_,?_⟩
  ·intro y0
   unfold impl_Trim.j1
   repeat' first|(with_reducible first|exact ih0 ..|exact ih1 ..|exact ih2 ..|exact LeO.refl ..|exact LeO.none ..|refine LeO.ite ?_ ?_|refine LeO.bind ?_ (fun _=>?_))|exact ih0 ..|exact ih1 ..|exact ih2 ..
  ·intro y0
   unfold impl_Trim.l1
   repeat' first|(with_reducible first|exact ih0 ..|exact ih1 ..|exact ih2 ..|exact LeO.refl ..|exact LeO.none ..|refine LeO.ite ?_ ?_|refine LeO.bind ?_ (fun _=>?_))|exact ih0 ..|exact ih1 ..|exact ih2 ..
  ·intro y0
   unfold impl_Trim.l0
   repeat' first|(with_reducible first|exact ih0 ..|exact ih1 ..|exact ih2 ..|exact LeO.refl ..|exact LeO.none ..|refine LeO.ite ?_ ?_|refine LeO.bind ?_ (fun _=>?_))|exact ih0 ..|exact ih1 ..|exact ih2 ..
theorem impl_Trim.mono : ∀ a0 k,LeO (impl_Trim.f k a0) (impl_Trim.f (k+1) a0):=by
 intro a0 k
 obtain⟨ih0,ih1,ih2⟩:=impl_Trim.mono_l k
 unfold impl_Trim.f
 repeat' first|(with_reducible first|exact ih0 ..|exact ih1 ..|exact ih2 ..|exact LeO.refl ..|exact LeO.none ..|refine LeO.ite ?_ ?_|refine LeO.bind ?_ (fun _=>?_))|exact ih0 ..|exact ih1 ..|exact ih2 ..
set_option maxHeartbeats 8000000 in
set_option maxRecDepth 100000 in
theorem impl_Trim.calls (k:Nat) (a0 r:ByteArray) (w:World) (h:impl_Trim.f k a0=some r) :
  Calls Tryz.prog 45 #[.string a0] w fun e w'=>e = .returned (.string r)∧Drawn0 w w':=by
 have H:=h;clear h;unfold impl_Trim.f at H;have HC2:=Aside0.mk H;clear H;go_enter Tryz.func45,Tryz.ntmps45;go_upto_block 0 with(fail);go_cut [0] (fun v0 wc=>∃(kq:Nat) (x0_1:ByteArray),v0 = .string x0_1∧Aside0 (impl_Trim.j1 kq x0_1=some r)∧Aside0 (kq≤k)∧Drawn0 w wc)
 case first=>
  have H:=HC2.out;clear HC2;have H':=Aside0.mk H;clear H;go_wp2;go_loopg [0] k (fun kq v0 w'=>∃(x0_1:ByteArray),v0 = .string x0_1∧Aside0 (impl_Trim.l0 kq x0_1=some r)∧Aside0 (kq≤k)∧Drawn0 w w')
  case atStart=>exact⟨(a0),gq3,H',⟨Nat.le_refl _⟩,gq5⟩
  case round=>
   clear H';obtain⟨x0_1,rfl,HA,HK1,⟨m1,rfl⟩⟩:=hrel;cases gk with
   |zero=>exact absurd HA.out (by simp[impl_Trim.l0])
   |succ k1=>
    have H:=HA.out;clear HA;simp only[impl_Trim.l0] at H;replace H:=gI H;rcases H with⟨c3,-,-,H⟩|⟨c3,-,-,H⟩
    ·have c3b0:(x0_1.toList==([]:List UInt8))=true:=beq_iff_eq.mpr c3;have c3b4:x0_1.toList.isEmpty=true:=List.isEmpty_iff.mpr c3;have c3b1:(x0_1.toList != ([]:List UInt8))=false:=bne_eq_false_iff_eq.mpr c3;clear c3;(first|rw[c3b0]|rw[c3b4]|(simp only[i64_w,i32_w];rw[c3b0])|skip)
     have H':=Aside0.mk H;clear H;go_wp2;go_meet
     case rel=>exact⟨_,(x0_1),gq3,H',⟨gq17⟩,gq5⟩
    ·have c3b0:(x0_1.toList==([]:List UInt8))=false:=beq_eq_false_iff_ne.mpr c3;have c3b4:x0_1.toList.isEmpty=false:=Bool.eq_false_iff.mpr (fun h_=>c3 (List.isEmpty_iff.mp h_));have c3b1:(x0_1.toList != ([]:List UInt8))=true:=bne_iff_ne.mpr c3;(first|rw[c3b0]|rw[c3b4]|(simp only[i64_w,i32_w];rw[c3b0])|skip)
     replace H:=gN H;obtain⟨c4,c4b0,-,H⟩:=H;have c4b1:decide (0<x0_1.size)=true:=decide_eq_true (by omega);clear c4;replace H:=gD H;obtain⟨t422,A6,H⟩:=H;replace H:=gB H;rcases H with⟨rfl,H⟩|⟨rfl,H⟩
     ·replace H:=gN H;obtain⟨-,c8b1,c8b0,H⟩:=H;have H':=Aside0.mk H;clear H;have p5:0≤(0:Int):=(by omega);have q5:0<x0_1.size:=(by have:(0:Int)<(x0_1.size:Int):=of_decide_eq_true gq4;omega);have hx5:∀ h:0<x0_1.size,((x0_1[0]'h).toNat:Int)=bt x0_1 0:=bt_at x0_1 0;clear p5;have qi5:(0<(x0_1.size:Int))=True:=eq_true (of_decide_eq_true gq4);replace q5:=eq_true q5;go_wp2_with(first|(go_at_call 82;(with_reducible refine(impl_isSpace.calls (bt x0_1 0) true _ A6.out).mono ?_);rintro e w' ⟨rfl,⟨nd,rfl⟩⟩));go_roundg k1
      case measure=>have:=HK1.out;omega
      case rel=>exact⟨(x0_1.extract 1 x0_1.size),gq3,H',⟨by have:=HK1.out;omega⟩,gq5⟩
     ·have H':=Aside0.mk H;clear H;have p5:0≤(0:Int):=(by omega);have q5:0<x0_1.size:=(by have:(0:Int)<(x0_1.size:Int):=of_decide_eq_true gq4;omega);have hx5:∀ h:0<x0_1.size,((x0_1[0]'h).toNat:Int)=bt x0_1 0:=bt_at x0_1 0;clear p5;have qi5:(0<(x0_1.size:Int))=True:=eq_true (of_decide_eq_true gq4);replace q5:=eq_true q5;go_wp2_with(first|(go_at_call 82;(with_reducible refine(impl_isSpace.calls (bt x0_1 0) false _ A6.out).mono ?_);rintro e w' ⟨rfl,⟨nd,rfl⟩⟩));go_meet
      case rel=>exact⟨_,(x0_1),gq3,H',⟨gq17⟩,gq5⟩
 case rest=>
  clear HC2;obtain⟨kq,x0_1,rfl,HA,HJ1,⟨mc1,rfl⟩⟩:=hcut;cases kq with
  |zero=>exact absurd HA.out (by simp[impl_Trim.j1])
  |succ kj1=>
   have H:=HA.out;clear HA;simp only[impl_Trim.j1] at H;have H':=Aside0.mk H;clear H;go_wp2;go_loopg [0] kj1 (fun kq v0 w'=>∃(x0_2:ByteArray),v0 = .string x0_2∧Aside0 (impl_Trim.l1 kq x0_2=some r)∧Aside0 (kq≤kj1)∧Drawn0 w w')
   case atStart=>exact⟨(x0_1),gq3,H',⟨Nat.le_refl _⟩,gq5⟩
   case round=>
    clear H';obtain⟨x0_2,rfl,HA,HK2,⟨m2,rfl⟩⟩:=hrel;cases gk with
    |zero=>exact absurd HA.out (by simp[impl_Trim.l1])
    |succ k2=>
     have H:=HA.out;clear HA;simp only[impl_Trim.l1] at H;replace H:=gI H;rcases H with⟨c9,-,-,H⟩|⟨c9,-,-,H⟩
     ·obtain⟨c9b0,c9b1⟩:=gEt c9;clear c9;obtain rfl:=Option.some.inj H;go_wp2;go_ret;exact⟨gq3,gq5⟩
     ·obtain⟨c9b0,c9b1⟩:=gEf c9;obtain⟨ji10,hji10⟩:∃ j_:Int,(wrap64 ((x0_2.size:Int)-1))=j_:=⟨_,rfl⟩;replace H:(if 0≤(ji10) then(if(ji10)<(x0_2.size:Int) then((impl_isSpace.f (bt x0_2 (ji10))).bind fun t423=>(if t423=true then(if(ji10)≤(x0_2.size:Int) then(impl_Trim.l1 k2 (x0_2.extract 0 ((ji10):Int).toNat)) else(none)) else(some x0_2))) else(none)) else(none))=some r:=by first|(rw[hji10] at H;exact H)|(simp only[hji10] at H ⊢;exact H)
      have hji10w:(IntKind.i64.wrap ((x0_2.size:Int)-1))=ji10:=(i64_w _).trans hji10;replace H:=gI H;rcases H with⟨-,c11b0,-,H⟩|⟨c11,-,-,H⟩
      ·replace H:=gN H;obtain⟨-,c12b0,-,H⟩:=H;replace H:=gD H;obtain⟨t423,A14,H⟩:=H;replace H:=gB H;rcases H with⟨rfl,H⟩|⟨rfl,H⟩
       ·have c16b0:=eq_true (of_decide_eq_true gq4:0≤(ji10));replace H:=gN H;obtain⟨-,c17b1,c17b0,H⟩:=H;have H':=Aside0.mk H;clear H;have p13:0≤((ji10):Int):=of_decide_eq_true gq4;have q13:(ji10)<(x0_2.size:Int):=of_decide_eq_true gq4;have hx13:=bt_at x0_2 (ji10);replace p13:=eq_true p13;replace q13:=eq_true q13;go_wp2_with(first|(go_at_call 82;(with_reducible refine(impl_isSpace.calls (bt x0_2 (ji10)) true _ A14.out).mono ?_);rintro e w' ⟨rfl,⟨nd,rfl⟩⟩));go_roundg k2
        case measure=>have:=HJ1.out;have:=HK2.out;omega
        case rel=>exact⟨(x0_2.extract 0 ((ji10):Int).toNat),(by first|rfl|(simp;done)|(simp only[← hji10] <;> (first|rfl|simp))|(simp[*];done)),H',⟨gq61⟩,gq5⟩
       ·obtain rfl:=Option.some.inj H;have p13:0≤((ji10):Int):=of_decide_eq_true gq4;have q13:(ji10)<(x0_2.size:Int):=of_decide_eq_true gq4;have hx13:=bt_at x0_2 (ji10);replace p13:=eq_true p13;replace q13:=eq_true q13;go_wp2_with(first|(go_at_call 82;(with_reducible refine(impl_isSpace.calls (bt x0_2 (ji10)) false _ A14.out).mono ?_);rintro e w' ⟨rfl,⟨nd,rfl⟩⟩));go_ret;exact⟨by first|rfl|(simp;done)|(simp only[← hji10] <;> (first|rfl|simp))|(simp[*];done),gq5⟩
      ·exact absurd H (by simp)

theorem isUpper_low (c:Int):impl_isUpper.f c=some (decide (65≤c∧c≤90)):=by
 unfold impl_isUpper.f
 by_cases h:c≥65
 ·rw[if_pos h];congr 1;simp[h]
 ·rw[if_neg h];congr 1;simp;omega
def impl_Fold.f (a0:ByteArray):Option (ByteArray):=if a0.size≤9223372036854775807 then some (foldS a0) else none
set_option maxHeartbeats 8000000 in
set_option maxRecDepth 100000 in
theorem impl_Fold.calls (a0 r:ByteArray) (w:World) (h:impl_Fold.f a0=some r) :
  Calls Tryz.prog 61 #[.string a0] w fun e w'=>e = .returned (.string r)∧Below w.heap.size w w':=by
 unfold impl_Fold.f at h;by_cases hs:a0.size≤9223372036854775807
 case neg=>rw[if_neg hs] at h;cases h
 rw[if_pos hs] at h;obtain rfl:=Option.some.inj h;clear h;have kb:=fun W=>print_bytes (P:=Tryz.prog) 9 87 5 Tryz.underlying9 Tryz.underlying87 Tryz.underlying5 a0 W;have hrow0:BRow (Lib.bytesWorld w 5 a0) w.heap.size 5 (lowTo a0 0):=by rw[lowTo_zero];exact BRow.new w 5 a0
 have hbel0:Below w.heap.size w (Lib.bytesWorld w 5 a0):=bytes_below (Below.refl _ _) (Nat.le_refl _) 5 a0;go_enter Tryz.func61,Tryz.ntmps61;go_wp2;clear kb;go_loopw [10] (fun i wr=>∃ k:Nat,k≤a0.size∧i = .int .i64 k∧BRow wr w.heap.size 5 (lowTo a0 k)∧Below w.heap.size w wr) (fun i _=>a0.size-(intOf i).toNat)
 case atStart=>exact⟨0,Nat.zero_le _,rfl,hrow0,hbel0⟩
 case round=>
  obtain⟨k,hk,rfl,hrow,hbel⟩:=hrel;clear hrow0 hbel0;by_cases hlt:k<a0.size
  ·have hcell:=hrow.cell k (by rw[lowTo_length];exact hlt);rw[lowTo_at a0 k hlt] at hcell;have hfree:=hrow.free k (by rw[lowTo_length];exact hlt);have hr:=bt_range a0 (k:Int);have hl:=isUpper_low (bt a0 k);have Hrow:=Aside0.mk hrow;have Hbel:=Aside0.mk hbel;clear hrow hbel;by_cases hup:65≤bt a0 (k:Int)∧bt a0 (k:Int)≤90
   ·rw[decide_eq_true hup] at hl;go_wp2_with(go_at_call 100;refine(impl_isUpper.calls _ _ _ hl).mono ?_;rintro e w' ⟨rfl,⟨nd,rfl⟩⟩);have hlow:low (bt a0 (k:Int))=bt a0 (k:Int)+32:=by unfold low;rw[if_pos hup]
    exact⟨⟨k+1,by omega,by go_num,by rw[← lowTo_succ a0 k hlt,hlow];exact(Hrow.out.drewN nd).set k (by rw[lowTo_length];exact hlt) _,(below_drewN1 Hbel.out nd).setCell (Nat.le_refl _) _⟩,by simp[intOf];omega⟩
   ·rw[decide_eq_false hup] at hl;go_wp2_with(go_at_call 100;refine(impl_isUpper.calls _ _ _ hl).mono ?_;rintro e w' ⟨rfl,⟨nd,rfl⟩⟩);have hlow:low (bt a0 (k:Int))=bt a0 (k:Int):=by unfold low;rw[if_neg hup]
    exact⟨⟨k+1,by omega,by go_num,by rw[← lowTo_keep a0 k hlt hlow];exact Hrow.out.drewN nd,below_drewN1 Hbel.out nd⟩,by simp[intOf];omega⟩
  ·obtain rfl:k=a0.size:=by omega
   have kc:=fun c=>BRow.str (P:=Tryz.prog) (src:=87) (dst:=9) hrow Tryz.underlying87 Tryz.underlying5 Tryz.underlying9 a0.size c (lowTo_length a0 _);rw[lowTo_all] at kc;have Hbel:=Aside0.mk hbel;clear hrow hbel;go_wp2;go_ret;exact⟨rfl,Hbel.out⟩

def impl_SameFold.f (a0:ByteArray) (a1:ByteArray):Option (Bool):=(impl_Fold.f a0).bind fun t950=>((impl_Fold.f a1).bind fun t951=>(some (t950.toList==t951.toList)))
set_option maxHeartbeats 8000000 in
set_option maxRecDepth 100000 in
theorem impl_SameFold.calls (a0 a1:ByteArray) (r:Bool) (w:World) (h:impl_SameFold.f a0 a1=some r) :
  Calls Tryz.prog 146 #[.string a0,.string a1] w fun e w'=>e = .returned (.bool r)∧Below w.heap.size w w':=by
 have HB:=Aside0.mk (Below.refl w.heap.size w);have H:=h;clear h;unfold impl_SameFold.f at H;replace H:=gD H;obtain⟨t950,A3,H⟩:=H;replace H:=gD H;obtain⟨t951,A4,H⟩:=H;obtain rfl:=Option.some.inj H;go_enter Tryz.func146,Tryz.ntmps146;go_wp2_with(first|((with_reducible refine gate_callee (f:=61) rfl ?_);refine goesL_ (some 6) rfl rfl Tryz.func61 (by kernel_rfl) rfl #[.string a0] rfl gq0 ?_;(with_reducible refine(impl_Fold.calls a0 t950 _ A3.out).mono ?_);rintro e w5 ⟨rfl,hb⟩;refine⟨_,rfl,?_⟩;replace HB:=beA hb;(try clear hb))|((with_reducible refine gate_callee (f:=61) rfl ?_);refine goesL_ (some 8) rfl rfl Tryz.func61 (by kernel_rfl) rfl #[.string a1] rfl gq0 ?_;(with_reducible refine(impl_Fold.calls a1 t951 _ A4.out).mono ?_);rintro e w6 ⟨rfl,hb⟩;refine⟨_,rfl,?_⟩;replace HB:=beA hb;(try clear hb)));go_ret;exact⟨gq1,gBe⟩


set_option maxHeartbeats 8000000 in
set_option maxRecDepth 100000 in
theorem elements_add (k:Nat) (el t:ByteArray) (B:Nat) (v:Value) (xs:List ByteArray) (w w0:World) (base:Nat) (ht:impl_Trim.f k el=some t)
  (hbox:w.heap[B]? = some (.cells #[v] 64 (0,0))) (hR:Kd.R Kd.string 9 w base (fun k_=>k_≠B) v xs) (hbel:Below base w0 w) (hbase:base≤B) (hlen:xs.length<8796093022208) :
  Calls Tryz.prog 147 #[.string el,.pointer (some ⟨B,0,none⟩)] w fun e w'=>∃ v',e = .returned (.tuple #[])∧w'.heap[B]? = some (.cells #[v'] 64 (0,0))∧
   Kd.R Kd.string 9 w' base (fun k_=>k_≠B) v' (addS xs t)∧Below base w0 w':=by
 obtain⟨A0,c0,rfl⟩:=R_slice hR
 have hBlt:=blk_lt hbox
 have A:=Aside0.mk ht
 have Hbox:=Aside0.mk hbox
 have HR:=Aside0.mk hR
 have HB:=Aside0.mk hbel
 clear ht hR hbel
 by_cases he:t.toList=([]:List UInt8)
 ·have c1:(t.toList==([]:List UInt8))=true:=beq_iff_eq.mpr he
  have c2:(t.toList != ([]:List UInt8))=false:=bne_eq_false_iff_eq.mpr he
  rw[show addS xs t=xs from if_pos he]
  clear he hbox
  go_enter Tryz.func147,Tryz.ntmps147
  go_wp2_with(go_at_call 45;refine(impl_Trim.calls k el t _ A.out).mono ?_;rintro e w' ⟨rfl,⟨nd,rfl⟩⟩)
  first|go_end0|((try simp only[Exit.inBlock,Exit.then]);refine bodyPost_ret (results_none rfl _ _ _) rfl ?_)
  exact⟨_,rfl,Hbox.out,by(with_reducible repeat(first|apply Kd.R_alloc|apply Kd.R_drewN|apply Kd.R_drew));exact HR.out,gBe⟩
 ·have c1:(t.toList==([]:List UInt8))=false:=beq_eq_false_iff_ne.mpr he
  have c2:(t.toList != ([]:List UInt8))=true:=bne_iff_ne.mpr he
  rw[show addS xs t=xs ++ [t] from if_neg he]
  clear he
  have hcell:w.cell? ⟨B,0,none⟩=some (.slice A0 xs.length c0):=by rw[cell_of_row w B 0 _ _ _ hbox];rfl
  clear hbox
  go_enter Tryz.func147,Tryz.ntmps147
  go_wp2_with(first|(go_at_call 45;refine(impl_Trim.calls k el t _ A.out).mono ?_;rintro e w' ⟨rfl,⟨nd,rfl⟩⟩)|((with_reducible refine gate_builtin (b:=.append) (xs:=#[.tmp 7,.tmp 9]) rfl ?_);(try(refine gate_guard (by rfl) ?_;dsimp only));at_builtin;refine Kd.R_append Kd.string (w0:=w0) base rfl (.tmp 7) (.tmp 9) 64 9 (.string ⟨#[]⟩) 16 rfl Tryz.underlying64 info9 rfl (by decide) (by omega) (.slice A0 xs.length c0) xs t [.string t] (fun k_=>k_≠B) (fun _=>False) rfl rfl ?aP (fun _ hk=>hk.elim) ?aF ?aO ?aB ?aS ?aL ?_;(case aP=>exact rfl);(case aF=>intro k_ hk e_;subst e_;simp at hk;omega);(case aO=>exact(by(with_reducible repeat(first|apply Kd.R_alloc|apply Kd.R_drewN|apply Kd.R_drew));exact HR.out));(case aB=>exact gBe);(case aS=>simp;omega);(case aL=>omega);intro v1 w1 ho hb hg hat;obtain⟨⟨A1_,c1_,rfl⟩,hb1,hcell1,hfree1⟩:=box_after Hbox.out HR.out nd hg ho;have Hb1:=Aside0.mk hb1;have Ho:=Aside0.mk ho;have Hb:=Aside0.mk hb;clear hb1 ho hb hg hat))
  first|go_end0|((try simp only[Exit.inBlock,Exit.then]);refine bodyPost_ret (results_none rfl _ _ _) rfl ?_)
  have Ho2:=Ho.out
  rw[List.length_append,List.length_singleton] at Ho2
  exact⟨_,rfl,heap_setCell_at Hb1.out,Kd.R_far (p:=⟨B,0,none⟩) Ho2 (fun _ hk=>hk) _,Hb.out.setCell hbase _⟩


def impl_Elements.l0 : Nat→ByteArray→List ByteArray→Int→Bool→Int→Option (List ByteArray)
 |0,_,_,_,_,_=>none
 |k+1,x0,out,x5,x6,x7=>
  if x7<(x0.size:Int) then(if 0≤x7 then(
   if bt x0 x7=34 then impl_Elements.l0 k x0 out x5 (!x6) (wrap64 (x7+1))
   else if x6=true∧bt x0 x7=92 then impl_Elements.l0 k x0 out x5 x6 (wrap64 (wrap64 (x7+1)+1))
   else if x6=false∧bt x0 x7=44 then(if 0≤x5 then(if x5≤x7 then(if out.length<8796093022208 then(impl_Trim.f k (x0.extract (x5:Int).toNat (x7:Int).toNat)).bind fun t=>impl_Elements.l0 k x0 (addS out t) (wrap64 (x7+1)) x6 (wrap64 (x7+1)) else none) else none) else none)
   else impl_Elements.l0 k x0 out x5 x6 (wrap64 (x7+1))) else none)
  else(if 0≤x5 then(if x5≤(x0.size:Int) then(if out.length<8796093022208 then(impl_Trim.f k (x0.extract (x5:Int).toNat x0.size)).bind fun t=>some (addS out t) else none) else none) else none)
def impl_Elements.f (k:Nat) (a0:ByteArray):Option (List ByteArray):=if(a0.size:Int)>4000 then some [] else impl_Elements.l0 k a0 [] 0 false 0
theorem impl_Elements.mono_l : ∀ k,(∀ y0 y1 y2 y3 y4,LeO (impl_Elements.l0 k y0 y1 y2 y3 y4) (impl_Elements.l0 (k+1) y0 y1 y2 y3 y4))
 |0=>fun _ _ _ _ _ r h=>by simp[impl_Elements.l0] at h
 |k+1=>by
  have ih0:=impl_Elements.mono_l k
  intro y0 y1 y2 y3 y4
  unfold impl_Elements.l0
  repeat' first|(with_reducible first|exact ih0 ..|exact impl_Trim.mono ..|exact LeO.refl ..|exact LeO.none ..|refine LeO.ite ?_ ?_|refine LeO.bind ?_ (fun _=>?_))
theorem impl_Elements.mono : ∀ a0 k,LeO (impl_Elements.f k a0) (impl_Elements.f (k+1) a0):=by
 intro a0 k
 unfold impl_Elements.f
 exact LeO.ite (LeO.refl _) (impl_Elements.mono_l k _ _ _ _ _)
set_option maxHeartbeats 8000000 in
set_option maxRecDepth 100000 in
theorem impl_Elements.calls (k:Nat) (a0:ByteArray) (r:List ByteArray) (w:World) (h:impl_Elements.f k a0=some r) :
  Calls Tryz.prog 128 #[.string a0] w fun e w'=>∃ v0_:Value,e = .returned (v0_)∧Kd.R Kd.string 9 w' w.heap.size (fun _=>True) v0_ r∧Below w.heap.size w w':=by
 have H:=h;clear h;unfold impl_Elements.f at H;replace H:=gI H;rcases H with⟨c2,-,-,H⟩|⟨c2,-,-,H⟩
 ·have c2b0:decide (4000<(a0.size:Int))=true:=decide_eq_true c2;have c2b1:decide (4000<a0.size)=true:=decide_eq_true (by omega);clear c2;obtain rfl:=Option.some.inj H;go_enter Tryz.func128,Tryz.ntmps128;go_wp2;go_ret;exact⟨_,rfl,Kd.R_nil _ _ _ _ _,Below.refl _ _⟩
 ·have c2b0:decide (4000<(a0.size:Int))=false:=decide_eq_false c2;have c2b1:decide (4000<a0.size)=false:=decide_eq_false (by omega);have hsz:a0.size≤4000:=by omega
  clear c2;have H':=Aside0.mk H;clear H;go_enter Tryz.func128,Tryz.ntmps128;go_wp2;go_loopg [5,6,7] k (fun kq v5 v6 v7 w'=>∃(out:List ByteArray) (x5:Int) (x6:Bool) (x7:Int) (vb:Value),v5 = .int .i64 x5∧v6 = .bool x6∧v7 = .int .i64 x7∧Aside0 (impl_Elements.l0 kq a0 out x5 x6 x7=some r)∧Aside0 (kq≤k)∧Aside0 (w'.heap[w.heap.size]? = some (.cells #[vb] 64 (0,0)))∧Aside0 (Kd.R Kd.string 9 w' w.heap.size (fun k_=>k_≠w.heap.size) vb out)∧Aside0 (Below w.heap.size w w'))
  case atStart=>exact⟨[],0,false,0,_,rfl,rfl,rfl,H',⟨Nat.le_refl _⟩,⟨blk_new w _⟩,⟨Kd.R_nil _ _ _ _ _⟩,⟨(Below.refl _ _).alloc (Nat.le_refl _) _⟩⟩
  case round=>
   clear H' c2b0 c2b1;obtain⟨out,x5,x6,x7,vb,rfl,rfl,rfl,HA,HK1,Hbox,HR,HB⟩:=hrel;cases gk with
   |zero=>exact absurd HA.out (by simp[impl_Elements.l0])
   |succ k1=>
    have H:=HA.out;clear HA;simp only[impl_Elements.l0] at H;replace H:=gI H;rcases H with⟨c3,c3b0,-,H⟩|⟨-,c3b0,-,H⟩
    ·by_cases c4:0≤x7
     case neg=>rw[if_neg c4] at H;cases H
     rw[if_pos c4] at H;have p5:=eq_true c4;have q5:=eq_true c3;have hx5:=bt_at a0 x7;have c3':x7≤(a0.size:Int):=by omega
     clear c3;by_cases d1:bt a0 x7=34
     ·rw[if_pos d1] at H;have d1b0:(bt a0 x7==34)=true:=beq_iff_eq.mpr d1;have H':=Aside0.mk H;clear H d1 c4 c3';go_wp2;go_roundg k1
      case measure=>have:=HK1.out;omega
      case rel=>exact⟨out,x5,!x6,_,vb,rfl,rfl,rfl,H',⟨by have:=HK1.out;omega⟩,Hbox,HR,HB⟩
     ·rw[if_neg d1] at H;have d1b0:(bt a0 x7==34)=false:=beq_eq_false_iff_ne.mpr d1;clear d1;cases x6 with
      |true=>
       by_cases d2:bt a0 x7=92
       ·rw[if_pos ⟨rfl,d2⟩] at H;have d2b0:(bt a0 x7==92)=true:=beq_iff_eq.mpr d2;have H':=Aside0.mk H;clear H d2 c4 c3';go_wp2;go_roundg k1
        case measure=>have:=HK1.out;omega
        case rel=>exact⟨out,x5,true,_,vb,rfl,rfl,rfl,H',⟨by have:=HK1.out;omega⟩,Hbox,HR,HB⟩
       ·rw[if_neg (fun z=>d2 z.2),if_neg (fun z=>by cases z.1)] at H;have d2b0:(bt a0 x7==92)=false:=beq_eq_false_iff_ne.mpr d2;have H':=Aside0.mk H;clear H d2 c4 c3';go_wp2;go_roundg k1
        case measure=>have:=HK1.out;omega
        case rel=>exact⟨out,x5,true,_,vb,rfl,rfl,rfl,H',⟨by have:=HK1.out;omega⟩,Hbox,HR,HB⟩
      |false=>
       rw[if_neg (fun z=>by cases z.1)] at H;by_cases d3:bt a0 x7=44
       ·rw[if_pos ⟨rfl,d3⟩] at H;have d3b0:(bt a0 x7==44)=true:=beq_iff_eq.mpr d3;by_cases e1:0≤x5
        case neg=>rw[if_neg e1] at H;cases H
        rw[if_pos e1] at H;by_cases e2:x5≤x7
        case neg=>rw[if_neg e2] at H;cases H
        rw[if_pos e2] at H;by_cases e3:out.length<8796093022208
        case neg=>rw[if_neg e3] at H;cases H
        rw[if_pos e3] at H;obtain⟨t,A0,H⟩:=Option.bind_eq_some_iff.mp H;have A:=Aside0.mk A0;clear A0;have H':=Aside0.mk H;have HL:=Aside0.mk e3;have s1:=eq_true e1;have s1b:decide (0≤x5)=true:=decide_eq_true e1;have s2:=eq_true e2;have s2b:decide (x5≤x7)=true:=decide_eq_true e2;have s3:=eq_true c3';have s3b:decide (x7≤(a0.size:Int))=true:=decide_eq_true c3';clear H d3 c4 c3' e1 e2 e3;go_wp2_with(go_at_call 147;refine(elements_add k1 (a0.extract (x5:Int).toNat (x7:Int).toNat) t w.heap.size vb out _ w w.heap.size A.out Hbox.out HR.out HB.out (Nat.le_refl _) HL.out).mono ?_;rintro e w' ⟨v',rfl,hb',hr',hl'⟩;have Hb2:=Aside0.mk hb';have Hr2:=Aside0.mk hr';have Hl2:=Aside0.mk hl';clear hb' hr' hl');go_roundg k1
        case measure=>have:=HK1.out;omega
        case rel=>exact⟨addS out t,_,false,_,v',rfl,rfl,rfl,H',⟨by have:=HK1.out;omega⟩,Hb2,Hr2,Hl2⟩
       ·rw[if_neg (fun z=>d3 z.2)] at H;have d3b0:(bt a0 x7==44)=false:=beq_eq_false_iff_ne.mpr d3;have H':=Aside0.mk H;clear H d3 c4 c3';go_wp2;go_roundg k1
        case measure=>have:=HK1.out;omega
        case rel=>exact⟨out,x5,false,_,vb,rfl,rfl,rfl,H',⟨by have:=HK1.out;omega⟩,Hbox,HR,HB⟩
    ·by_cases e1:0≤x5
     case neg=>rw[if_neg e1] at H;cases H
     rw[if_pos e1] at H;by_cases e2:x5≤(a0.size:Int)
     case neg=>rw[if_neg e2] at H;cases H
     rw[if_pos e2] at H;by_cases e3:out.length<8796093022208
     case neg=>rw[if_neg e3] at H;cases H
     rw[if_pos e3] at H;obtain⟨t,A0,H⟩:=Option.bind_eq_some_iff.mp H;have A:=Aside0.mk A0;clear A0;obtain rfl:=Option.some.inj H;have HL:=Aside0.mk e3;have s1:=eq_true e1;have s1b:decide (0≤x5)=true:=decide_eq_true e1;have s2:=eq_true e2;have s2b:decide (x5≤(a0.size:Int))=true:=decide_eq_true e2;clear H e1 e2 e3;go_wp2_with(fail);refine(elements_add k1 (a0.extract (x5:Int).toNat a0.size) t w.heap.size vb out _ w w.heap.size A.out Hbox.out HR.out HB.out (Nat.le_refl _) HL.out).mono ?_;rintro e w' ⟨v',rfl,hb',hr',hl'⟩;obtain⟨A1,c1,rfl⟩:=R_slice hr';have hcell:w'.cell? ⟨w.heap.size,0,none⟩=some (.slice A1 (addS out t).length c1):=by rw[cell_of_row w' w.heap.size 0 _ _ _ hb'];rfl
     have Hb2:=Aside0.mk hb';have Hr2:=Aside0.mk hr';have Hl2:=Aside0.mk hl';clear hb' hr' hl';go_wp2;go_ret;exact⟨_,rfl,Kd.R_mono Hr2.out (fun _ _=>trivial),Hl2.out⟩

def impl_DecText.f (a0:Int):Option (ByteArray):=(impl_within.f a0 0 999999999999999).bind fun t983=>(if t983=true then((strconv_Itoa_133.f a0).bind fun t984=>(some t984)) else(some (⟨#[]⟩:ByteArray)))
set_option maxHeartbeats 8000000 in
set_option maxRecDepth 100000 in
theorem impl_DecText.calls (a0:Int) (r:ByteArray) (w:World) (h:impl_DecText.f a0=some r) (HT0:Tab10 w) :
  Calls Tryz.prog 149 #[.int .i64 a0] w fun e w'=>e = .returned (.string r)∧Below w.heap.size w w':=by
 have HT:=Aside0.mk HT0;clear HT0;have HB:=Aside0.mk (Below.refl w.heap.size w);have H:=h;clear h;unfold impl_DecText.f at H;replace H:=gD H;obtain⟨t983,A2,H⟩:=H;replace H:=gB H;rcases H with⟨rfl,H⟩|⟨rfl,H⟩
 ·replace H:=gD H;obtain⟨t984,A4,H⟩:=H;obtain rfl:=Option.some.inj H;go_enter Tryz.func149,Tryz.ntmps149;go_wp2_with(first|((with_reducible refine gate_callee (f:=69) rfl ?_);refine goesL_ (some 4) rfl rfl Tryz.func69 (by kernel_rfl) rfl #[.int .i64 a0,.int .i64 0,.int .i64 999999999999999] rfl gq0 ?_;(with_reducible refine(impl_within.calls a0 0 999999999999999 true _ A2.out).mono ?_);rintro e w' ⟨rfl,⟨nd,rfl⟩⟩;refine⟨_,rfl,?_⟩)|((with_reducible refine gate_callee (f:=133) rfl ?_);refine goesL_ (some 7) rfl rfl Tryz.func133 (by kernel_rfl) rfl #[.int .i64 a0] rfl gq0 ?_;(with_reducible refine(strconv_Itoa_133.calls a0 t984 _ A4.out ?hT).mono ?_);(case hT=>exact tab_go HT);rintro e w5 ⟨rfl,hb⟩;refine⟨_,rfl,?_⟩;replace HB:=beA hb;(try clear hb)));go_ret;exact⟨gq1,gBe⟩
 ·obtain rfl:=Option.some.inj H;go_enter Tryz.func149,Tryz.ntmps149;go_wp2_with(first|((with_reducible refine gate_callee (f:=69) rfl ?_);refine goesL_ (some 4) rfl rfl Tryz.func69 (by kernel_rfl) rfl #[.int .i64 a0,.int .i64 0,.int .i64 999999999999999] rfl gq0 ?_;(with_reducible refine(impl_within.calls a0 0 999999999999999 false _ A2.out).mono ?_);rintro e w' ⟨rfl,⟨nd,rfl⟩⟩;refine⟨_,rfl,?_⟩));go_ret;exact⟨gq1,gBe⟩

-- IMPORT Shelf Derived.Lib.AtoiAll Derived.Lib.AtoiErrMem
def decI (s:ByteArray):Int×Bool:=match Lib.atoiAll s.data.toList with
 |.ok v=>if 0≤v∧v≤999999999999999∧(itoaT v).toList=s.toList then(v,true) else(0,false)
 |_=>(0,false)
def impl_ReadDec.f (a0:ByteArray):Option (Int×Bool):=if a0.size≤281474976710656 then some (decI a0) else none
theorem atoi_ok_calls (a0:ByteArray) (hs:a0.size≤281474976710656) (v:Int) (h:Lib.atoiAll a0.data.toList = .ok v) (w:World) :
  Calls Tryz.prog 38 #[.string a0] w fun e w'=>e = .returned (.tuple #[.int .i64 v,.nilIface])∧Below w.heap.size w w':=by
 refine(Tryz.strconv_Atoi_ok a0 (by omega) v h w).mono ?_
 rintro e w' ⟨rfl,rfl|⟨t,rfl⟩⟩
 ·exact⟨rfl,Below.refl _ _⟩
 ·exact⟨rfl,Lib.bytesWorld_below w _ t⟩
theorem atoi_bad_calls (a0:ByteArray) (hs:a0.size≤281474976710656) (h:∀ v,Lib.atoiAll a0.data.toList≠.ok v) (w:World) (HT0:Tab10 w) :
  Calls Tryz.prog 38 #[.string a0] w fun e w'=>∃ n T N,e = .returned (.tuple #[.int .i64 n,.iface T (.pointer (some ⟨N,0,none⟩))])∧Below w.heap.size w w':=by
 obtain⟨_,⟨t1,p1,h1⟩,t2,p2,h2⟩:=HT0
 rcases hA:Lib.atoiAll a0.data.toList with v|_|_
 ·exact absurd hA (h v)
 ·refine(Tryz.strconv_Atoi_syntax a0 hs ⟨h,fun e=>by rw[hA] at e;cases e⟩ _ w h1 (.inr ⟨t1,p1,rfl⟩)).mono ?_
  rintro e w' ⟨N,rfl,_,_,hb⟩
  exact⟨_,_,N,rfl,hb⟩
 ·refine(Tryz.strconv_Atoi_range a0 hs hA _ w h2 (.inr ⟨t2,p2,rfl⟩)).mono ?_
  rintro e w' ⟨N,rfl,_,_,hb⟩
  exact⟨_,_,N,rfl,hb⟩
set_option maxHeartbeats 4000000 in
set_option maxRecDepth 100000 in
theorem impl_ReadDec.calls (a0:ByteArray) (r1:Int) (r2:Bool) (w:World) (h:impl_ReadDec.f a0=some (r1,r2)) (HT0:Tab10 w) :
  Calls Tryz.prog 130 #[.string a0] w fun e w'=>e = .returned (.tuple #[.int .i64 r1,.bool r2])∧Below w.heap.size w w':=by
 unfold impl_ReadDec.f at h;by_cases hs:a0.size≤281474976710656
 case neg=>rw[if_neg hs] at h;cases h
 rw[if_pos hs] at h;have HS:=Aside0.mk hs;clear hs;have huE:=Tryz.underlying60;have HB:=Aside0.mk (Below.refl w.heap.size w);have HT:=Aside0.mk HT0;clear HT0;by_cases hok:∃ v,Lib.atoiAll a0.data.toList = .ok v
 ·obtain⟨v,hv⟩:=hok;have HV:=Aside0.mk hv;by_cases hr:0≤v∧v≤999999999999999
  ·have A3:Aside0 (impl_within.f v 0 999999999999999=some true):=⟨by unfold impl_within.f;rw[if_pos hr.1,decide_eq_true hr.2]⟩;have A5:Aside0 (impl_DecText.f v=some (itoaT v)):=⟨by unfold impl_DecText.f;rw[A3.out,Option.bind_some,if_pos rfl];unfold strconv_Itoa_133.f;rw[if_pos ⟨by omega,by omega⟩];rfl⟩;by_cases he:(itoaT v).toList=a0.toList
   ·have hd:decI a0=(v,true):=by unfold decI;rw[hv];exact if_pos ⟨hr.1,hr.2,he⟩
    rw[hd] at h;obtain⟨h1,h2⟩:=Prod.mk.inj (Option.some.inj h);subst h1;subst h2;clear h;have c6b0:((itoaT v).toList==a0.toList)=true:=beq_iff_eq.mpr he;have c6b1:((itoaT v).toList != a0.toList)=false:=bne_eq_false_iff_eq.mpr he;clear he hr hv hd;go_enter Tryz.func130,Tryz.ntmps130;go_wp2_with(first|((with_reducible refine gate_callee (f:=38) rfl ?_);refine goesL_ (some 8) rfl rfl Tryz.func38 (by kernel_rfl) rfl #[.string a0] rfl gq12 ?_;refine(atoi_ok_calls a0 HS.out v HV.out _).mono ?_;rintro e w7 ⟨rfl,hb⟩;refine⟨_,rfl,?_⟩;replace HB:=beA hb;clear hb)|(go_at_call 69;(with_reducible refine(impl_within.calls v 0 999999999999999 true _ A3.out).mono ?_);rintro e w' ⟨rfl,⟨nd,rfl⟩⟩)|(go_at_call 149;(with_reducible refine(impl_DecText.calls v (itoaT v) _ A5.out (tab_go HT)).mono ?_);rintro e w8 ⟨rfl,hb⟩;replace HB:=beA hb;clear hb));go_ret2;exact⟨rfl,gq62⟩
   ·have hd:decI a0=(0,false):=by unfold decI;rw[hv];exact if_neg (fun x=>he x.2.2)
    rw[hd] at h;obtain⟨h1,h2⟩:=Prod.mk.inj (Option.some.inj h);subst h1;subst h2;clear h;have c6b0:((itoaT v).toList==a0.toList)=false:=beq_eq_false_iff_ne.mpr he;have c6b1:((itoaT v).toList != a0.toList)=true:=bne_iff_ne.mpr he;clear he hr hv hd;go_enter Tryz.func130,Tryz.ntmps130;go_wp2_with(first|((with_reducible refine gate_callee (f:=38) rfl ?_);refine goesL_ (some 8) rfl rfl Tryz.func38 (by kernel_rfl) rfl #[.string a0] rfl gq12 ?_;refine(atoi_ok_calls a0 HS.out v HV.out _).mono ?_;rintro e w7 ⟨rfl,hb⟩;refine⟨_,rfl,?_⟩;replace HB:=beA hb;clear hb)|(go_at_call 69;(with_reducible refine(impl_within.calls v 0 999999999999999 true _ A3.out).mono ?_);rintro e w' ⟨rfl,⟨nd,rfl⟩⟩)|(go_at_call 149;(with_reducible refine(impl_DecText.calls v (itoaT v) _ A5.out (tab_go HT)).mono ?_);rintro e w8 ⟨rfl,hb⟩;replace HB:=beA hb;clear hb));go_ret2;exact⟨rfl,gq62⟩
  ·have A3:Aside0 (impl_within.f v 0 999999999999999=some false):=⟨by
    unfold impl_within.f;by_cases h0:0≤v
    ·rw[if_pos h0,decide_eq_false (fun x=>hr ⟨h0,x⟩)]
    ·rw[if_neg h0]⟩
   have hd:decI a0=(0,false):=by unfold decI;rw[hv];exact if_neg (fun x=>hr ⟨x.1,x.2.1⟩)
   rw[hd] at h;obtain⟨h1,h2⟩:=Prod.mk.inj (Option.some.inj h);subst h1;subst h2;clear h;clear hr hv hd;go_enter Tryz.func130,Tryz.ntmps130;go_wp2_with(first|((with_reducible refine gate_callee (f:=38) rfl ?_);refine goesL_ (some 8) rfl rfl Tryz.func38 (by kernel_rfl) rfl #[.string a0] rfl gq12 ?_;refine(atoi_ok_calls a0 HS.out v HV.out _).mono ?_;rintro e w7 ⟨rfl,hb⟩;refine⟨_,rfl,?_⟩;replace HB:=beA hb;clear hb)|(go_at_call 69;(with_reducible refine(impl_within.calls v 0 999999999999999 false _ A3.out).mono ?_);rintro e w' ⟨rfl,⟨nd,rfl⟩⟩));go_ret2;exact⟨rfl,gq62⟩
 ·have hbad:∀ v,Lib.atoiAll a0.data.toList≠.ok v:=fun v e=>hok ⟨v,e⟩;have hd:decI a0=(0,false):=by
   unfold decI;rcases hA:Lib.atoiAll a0.data.toList with v|_|_
   ·exact absurd hA (hbad v)
   ·rfl
   ·rfl
  rw[hd] at h;cases h
  have HBAD:=Aside0.mk hbad;clear hbad hd hok;go_enter Tryz.func130,Tryz.ntmps130;go_wp2_with((with_reducible refine gate_callee (f:=38) rfl ?_);refine goesL_ (some 8) rfl rfl Tryz.func38 (by kernel_rfl) rfl #[.string a0] rfl gq12 ?_;refine(atoi_bad_calls a0 HS.out HBAD.out _ (tab_go HT)).mono ?_;rintro e w7 ⟨n,T,N,rfl,hb⟩;refine⟨_,rfl,?_⟩;replace HB:=beA hb;clear hb);go_ret2;exact⟨rfl,gq62⟩

end Go.Proofs.YtonmpnghlopnoaaGreatDoor.P
