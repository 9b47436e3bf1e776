import Derived.Test.YtonmpnghlopnoaaGreatDoorPx0
import Derived.Test.YtonmpnghlopnoaaGreatDoorWC
namespace Go.Proofs.YtonmpnghlopnoaaGreatDoor.P
open Go.RowKit Go.Proofs.YtonmpnghlopnoaaGreatDoorW.PrintWords Go.Proofs.YtonmpnghlopnoaaGreatDoorW.PrintLast Go.Proofs.YtonmpnghlopnoaaGreatDoorW.PrintMore
attribute [local go_sem] max2_int min2_int max_two min_two max_three min_three max_four min_four   -- for this text's walks alone
set_option linter.unusedVariables false
set_option linter.unusedSimpArgs false

def spec_CurOk.f (a0_0:ByteArray) (a0_1:Int):Option (Bool):=if a0_1≥0 then(some (decide (a0_1≤(a0_0.size:Int)))) else(some false)
set_option maxHeartbeats 8000000 in
set_option maxRecDepth 100000 in
theorem spec_CurOk.calls (a0_0:ByteArray) (a0_1:Int) (r:Bool) (w:World) (h:spec_CurOk.f a0_0 a0_1=some r) :
  Calls Tryz.prog 27 #[.agg #[.string a0_0,.int .i64 a0_1]] w fun e w'=>e = .returned (.bool r)∧Below w.heap.size w w':=by
 have hu35:=Tryz.underlying35;have HB:=Aside0.mk (Below.refl w.heap.size w);have H:=h;clear h;unfold spec_CurOk.f at H;replace H:=gI H;rcases H with⟨c2,-,-,H⟩|⟨c2,-,-,H⟩
 ·have c2b0:decide (0≤a0_1)=true:=decide_eq_true c2;clear c2;obtain rfl:=Option.some.inj H;go_enter Tryz.func27,Tryz.ntmps27;go_wp2_with(first|((with_reducible refine gate_dst (N:=1) rfl ?_);refine boxG #[.string a0_0,.int .i64 a0_1] 35 ?_;intro gb106 hg w3 hbox hb;have BK106:=Aside0.mk (hbox);have GW106:=geA hg;have GE106:=geA hg;replace HB:=beA hb;clear hb hbox hg;obtain⟨_,_⟩:=czA2 BK106;obtain⟨_,_⟩:=cfA2 BK106));go_ret;exact⟨gq1,gBe⟩
 ·have c2b0:decide (0≤a0_1)=false:=decide_eq_false c2;clear c2;obtain rfl:=Option.some.inj H;go_enter Tryz.func27,Tryz.ntmps27;go_wp2_with(first|((with_reducible refine gate_dst (N:=1) rfl ?_);refine boxG #[.string a0_0,.int .i64 a0_1] 35 ?_;intro gb106 hg w5 hbox hb;have BK106:=Aside0.mk (hbox);have GW106:=geA hg;have GE106:=geA hg;replace HB:=beA hb;clear hb hbox hg;obtain⟨_,_⟩:=czA2 BK106;obtain⟨_,_⟩:=cfA2 BK106));go_ret;exact⟨gq1,gBe⟩


def spec_TakeLine.l0 : Nat→Int→ByteArray→Int→Option (ByteArray×ByteArray×Int×Int)
 |0,_,_,_=>none
 |k+1,x5,x108000,x108001=>if x5<(x108000.size:Int) then(if 0≤x5 then(if(bt x108000 x5)=10 then(some ((⟨#[]⟩:ByteArray),(⟨#[]⟩:ByteArray),0,2)) else(if(bt x108000 x5)=13 then(if(wrap64 (x5+1))=(x108000.size:Int) then(some ((⟨#[]⟩:ByteArray),(⟨#[]⟩:ByteArray),0,1)) else(if 0≤(wrap64 (x5+1)) then(if(wrap64 (x5+1))<(x108000.size:Int) then(if(bt x108000 (wrap64 (x5+1)))=10 then(if 0≤x108001 then(if x108001≤x5 then(if x5≤(x108000.size:Int) then(some (x108000.extract (x108001:Int).toNat (x5:Int).toNat,x108000,wrap64 (x5+2),0)) else(none)) else(none)) else(none)) else(some ((⟨#[]⟩:ByteArray),(⟨#[]⟩:ByteArray),0,2))) else(none)) else(none))) else(spec_TakeLine.l0 k (wrap64 (x5+1)) x108000 x108001))) else(none)) else(some ((⟨#[]⟩:ByteArray),(⟨#[]⟩:ByteArray),0,1))
def spec_TakeLine.f (k:Nat) (a0_0:ByteArray) (a0_1:Int):Option (ByteArray×ByteArray×Int×Int):=(spec_CurOk.f a0_0 a0_1).bind fun t109=>(if t109=true then(spec_TakeLine.l0 k a0_1 a0_0 a0_1) else(some ((⟨#[]⟩:ByteArray),(⟨#[]⟩:ByteArray),0,2)))
theorem spec_TakeLine.mono_l : ∀ k,(∀ y0 y1 y2,LeO (spec_TakeLine.l0 k y0 y1 y2) (spec_TakeLine.l0 (k+1) y0 y1 y2))
 |0=>fun _ _ _ r h=>by simp[spec_TakeLine.l0] at h
 |k+1=>by
  have ih0:=spec_TakeLine.mono_l k
  ·intro y0 y1 y2
   unfold spec_TakeLine.l0
   repeat' first|(with_reducible first|exact ih0 ..|exact LeO.refl ..|exact LeO.none ..|refine LeO.ite ?_ ?_|refine LeO.bind ?_ (fun _=>?_))|exact ih0 ..
theorem spec_TakeLine.mono : ∀ a0 a1 k,LeO (spec_TakeLine.f k a0 a1) (spec_TakeLine.f (k+1) a0 a1):=by
 intro a0 a1 k
 have ih0:=spec_TakeLine.mono_l k
 unfold spec_TakeLine.f
 repeat' first|(with_reducible first|exact ih0 ..|exact LeO.refl ..|exact LeO.none ..|refine LeO.ite ?_ ?_|refine LeO.bind ?_ (fun _=>?_))|exact ih0 ..
def spec_TakeLine.T13 : Bool×List (List Nat×List Nat):=(true,[([],[]),([0],[0]),([],[]),([2],[2]),([],[]),([1,3,4],[1,3,4]),([],[]),([6],[6]),([],[]),([8],[8]),([7,9],[7,9]),([5,0,1,2,3,4,5],[5]),([10,11,0,1,2,3,4,5,6,7,8,9,10,11],[10]),([12,0,1,2,3,4,5,6,7,8,9,10,11,12],[])])
def spec_TakeLine.B13 : List Nat:=[0,1,0,4,0,31,0,64,0,256,960,63,4095,8191]
theorem spec_TakeLine.tab13 : rtab .any (opsOf Tryz.f15 13)=spec_TakeLine.T13:=by kernel_rfl
theorem spec_TakeLine.bits13 : waitsOk spec_TakeLine.T13.2 spec_TakeLine.B13=true:=by kernel_rfl
set_option maxHeartbeats 8000000 in
set_option maxRecDepth 100000 in
theorem spec_TakeLine.calls (k:Nat) (a0_0:ByteArray) (a0_1:Int) (r1 r2:ByteArray) (r3 r4:Int) (w:World) (h:spec_TakeLine.f k a0_0 a0_1=some (r1,r2,r3,r4)) :
  Calls Tryz.prog 15 #[.agg #[.string a0_0,.int .i64 a0_1]] w fun e w'=>e = .returned (.tuple #[.string r1,.agg #[.string r2,.int .i64 r3],.int .i64 r4])∧Below w.heap.size w w':=by
 have hu35:=Tryz.underlying35;have HB:=Aside0.mk (Below.refl w.heap.size w);have H:=h;clear h;unfold spec_TakeLine.f at H;replace H:=gD H;obtain⟨t109,A2,H⟩:=H;replace H:=gB H;rcases H with⟨rfl,H⟩|⟨rfl,H⟩
 ·have H':=Aside0.mk H;clear H;go_enter Tryz.func15,Tryz.ntmps15;go_wp2_with(first|((with_reducible refine gate_dst (N:=1) rfl ?_);refine boxA #[.string a0_0,.int .i64 a0_1] 35 ?_;intro gb107 hg w4 hbox hb;have BK107:=Aside0.mk (hbox);have GW107:=geA hg;have GE107:=geA hg;replace HB:=beA hb;clear hb hbox hg)|((with_reducible refine gate_dst (N:=3) rfl ?_);refine boxA #[.string (⟨#[]⟩:ByteArray),.int .i64 0] 35 ?_;intro gb108 hg w5 hbox hb;have BK108:=Aside0.mk (hbox);have GW108:=geA hg;have GE108:=geA hg;have NB107_108:=neA (g:=gb107) hg;have NB108_107:=neB NB107_108;replace BK107:=blA (g:=gb107) hb;replace HB:=beA hb;clear hb hbox hg;have hnb6:=NB107_108.out;have hnc6:=NB108_107.out;obtain⟨_,_⟩:=czA2 BK107;obtain⟨_,_⟩:=cfA2 BK107)|((with_reducible refine gate_callee (f:=27) rfl ?_);refine goesL_ (some 7) rfl rfl Tryz.func27 (by kernel_rfl) rfl #[.agg #[.string a0_0,.int .i64 a0_1]] rfl gq0 ?_;(with_reducible refine(spec_CurOk.calls a0_0 a0_1 true _ A2.out).mono ?_);rintro e w8 ⟨rfl,hb⟩;refine⟨_,rfl,?_⟩;replace BK107:=blA (g:=gb107) hb;replace BK108:=blA (g:=gb108) hb;replace HB:=beA hb;(try clear hb);obtain⟨_,_⟩:=czA2 BK107;obtain⟨_,_⟩:=cfA2 BK107));go_loopg [5] k (fun kq v5 w'=>∃(x5_1:Int) (x109000_1:ByteArray) (x109001_1:Int),v5 = .int .i64 x5_1∧Aside0 (spec_TakeLine.l0 kq x5_1 a0_0 a0_1=some (r1,r2,r3,r4))∧Aside0 (kq≤k)∧Aside0 (w'.heap[gb107]? = some (.cells #[.string a0_0,.int .i64 a0_1] 35 (0,0)))∧Aside0 (w'.heap[gb108]? = some (.cells #[.string x109000_1,.int .i64 x109001_1] 35 (0,0)))∧Aside0 (Below w.heap.size w w'))
  case atStart=>exact⟨(a0_1),((⟨#[]⟩:ByteArray)),(0),gq3,H',⟨Nat.le_refl _⟩,⟨gBk⟩,⟨gBk⟩,⟨gBe⟩⟩
  case round=>
   clear H';obtain⟨x5_1,x109000_1,x109001_1,rfl,HA,HK1,BK107,BK108,HB⟩:=hrel;cases gk with
   |zero=>exact absurd HA.out (by simp[spec_TakeLine.l0])
   |succ k1=>
    have H:=HA.out;clear HA;simp only[spec_TakeLine.l0] at H;replace H:=gI H;rcases H with⟨-,c10b0,-,H⟩|⟨-,c10b0,-,H⟩
    ·replace H:=gN H;obtain⟨-,c11b0,-,H⟩:=H;replace H:=gI H;rcases H with⟨c13,-,-,H⟩|⟨c13,-,-,H⟩
     ·obtain⟨c13b0,c13b1⟩:=gEt c13;clear c13;simp only[Option.some.injEq,Prod.mk.injEq] at H;obtain⟨rfl,rfl,rfl,rfl⟩:=H;have hnb14:=NB107_108.out;have hnc14:=NB108_107.out;obtain⟨_,_⟩:=czA2 BK107;obtain⟨_,_⟩:=cfA2 BK107;have p12:0≤(x5_1:Int):=of_decide_eq_true gq4;have q12:x5_1<(a0_0.size:Int):=of_decide_eq_true gq4;have hx12:=bt_at a0_0 x5_1;replace p12:=eq_true p12;replace q12:=eq_true q12;obtain⟨_,_⟩:=czA2 BK108;obtain⟨_,_⟩:=cfA2 BK108;go_wp2;refine bodyPost_ret (results_list (rs:=[.tmp 2,.cell 3 35,.tmp 4]) rfl (by simp) (.tmp (.cell gb108 35 #[.string (⟨#[]⟩:ByteArray),.int .i64 0] (0,0) _ rfl gq7 Tryz.underlying35 rfl (by kernel_rfl) (.tmp .nil)))) rfl ?_;exact⟨gq1,gBe⟩
     ·obtain⟨c13b0,c13b1⟩:=gEf c13;replace H:=gI H;rcases H with⟨c18,-,-,H⟩|⟨c18,-,-,H⟩
      ·obtain⟨c18b0,c18b1⟩:=gEt c18;clear c18;replace H:=gI H;rcases H with⟨c19,-,-,H⟩|⟨c19,-,-,H⟩
       ·obtain⟨c19b0,c19b1⟩:=gEt c19;clear c19;simp only[Option.some.injEq,Prod.mk.injEq] at H;obtain⟨rfl,rfl,rfl,rfl⟩:=H;have hnb20:=NB107_108.out;have hnc20:=NB108_107.out;obtain⟨_,_⟩:=czA2 BK107;obtain⟨_,_⟩:=cfA2 BK107;have p12:0≤(x5_1:Int):=of_decide_eq_true gq4;have q12:x5_1<(a0_0.size:Int):=of_decide_eq_true gq4;have hx12:=bt_at a0_0 x5_1;replace p12:=eq_true p12;replace q12:=eq_true q12;have p17:0≤(x5_1:Int):=of_decide_eq_true gq4;have q17:x5_1<(a0_0.size:Int):=of_decide_eq_true gq4;have hx17:=bt_at a0_0 x5_1;replace p17:=eq_true p17;replace q17:=eq_true q17;obtain⟨_,_⟩:=czA2 BK108;obtain⟨_,_⟩:=cfA2 BK108;go_wp2;refine bodyPost_ret (results_list (rs:=[.tmp 2,.cell 3 35,.tmp 4]) rfl (by simp) (.tmp (.cell gb108 35 #[.string (⟨#[]⟩:ByteArray),.int .i64 0] (0,0) _ rfl gq7 Tryz.underlying35 rfl (by kernel_rfl) (.tmp .nil)))) rfl ?_;exact⟨gq1,gBe⟩
       ·obtain⟨c19b0,c19b1⟩:=gEf c19;obtain⟨ji23,hji23⟩:∃ j_:Int,(wrap64 (x5_1+1))=j_:=⟨_,rfl⟩;replace H:(if 0≤(ji23) then(if(ji23)<(a0_0.size:Int) then(if(bt a0_0 (ji23))=10 then(if 0≤a0_1 then(if a0_1≤x5_1 then(if x5_1≤(a0_0.size:Int) then(some (a0_0.extract (a0_1:Int).toNat (x5_1:Int).toNat,a0_0,wrap64 (x5_1+2),0)) else(none)) else(none)) else(none)) else(some ((⟨#[]⟩:ByteArray),(⟨#[]⟩:ByteArray),0,2))) else(none)) else(none))=some (r1,r2,r3,r4):=by first|(rw[hji23] at H;exact H)|(simp only[hji23] at H ⊢;exact H)
        (try rw[hji23] at c19b0)
        (try rw[hji23] at c19b1)
        have hji23w:(IntKind.i64.wrap (x5_1+1))=ji23:=(i64_w _).trans hji23;replace H:=gN H;obtain⟨-,c24b0,-,H⟩:=H;replace H:=gN H;obtain⟨-,c25b0,-,H⟩:=H;replace H:=gI H;rcases H with⟨c27,-,-,H⟩|⟨c27,-,-,H⟩
        ·obtain⟨c27b0,c27b1⟩:=gEt c27;clear c27;replace H:=gN H;obtain⟨-,c28b1,c28b0,H⟩:=H;replace H:=gN H;obtain⟨-,c29b1,c29b0,H⟩:=H;replace H:=gN H;obtain⟨-,c30b1,c30b0,H⟩:=H;simp only[Option.some.injEq,Prod.mk.injEq] at H;obtain⟨rfl,rfl,rfl,rfl⟩:=H;have hnb31:=NB107_108.out;have hnc31:=NB108_107.out;obtain⟨_,_⟩:=czA2 BK107;obtain⟨_,_⟩:=cfA2 BK107;have p12:0≤(x5_1:Int):=of_decide_eq_true gq4;have q12:x5_1<(a0_0.size:Int):=of_decide_eq_true gq4;have hx12:=bt_at a0_0 x5_1;replace p12:=eq_true p12;replace q12:=eq_true q12;have p17:0≤(x5_1:Int):=of_decide_eq_true gq4;have q17:x5_1<(a0_0.size:Int):=of_decide_eq_true gq4;have hx17:=bt_at a0_0 x5_1;replace p17:=eq_true p17;replace q17:=eq_true q17;have p26:0≤((ji23):Int):=of_decide_eq_true gq4;have q26:(ji23)<(a0_0.size:Int):=of_decide_eq_true gq4;have hx26:=bt_at a0_0 (ji23);replace p26:=eq_true p26;replace q26:=eq_true q26;try go_wp2
         replace BK107:=Aside0.mk (blk_drew BK107.out);replace BK108:=Aside0.mk (blk_drew BK108.out);replace HB:=Aside0.mk (below_drew1 HB.out);refine start_ (n:=14) (S:=fun w'=>w'.cell? ⟨gb107,0,none⟩=some (.string a0_0)∧w'.cell? ⟨gb107,1,none⟩=some (.int .i64 a0_1)) (ds:=[]) #[false,false,false,false,false,false,false,false,false,false,false,false,false,false] (by kernel_rfl) rfl rfl ⟨(blk_cell BK107.out 0).trans rfl,(blk_cell BK107.out 1).trans rfl⟩ (fun hHeld=>?_);refine with_tabW spec_TakeLine.tab13 spec_TakeLine.bits13 (fun HT_ HW_=>?_);generalize wr.drew=w33 at BK107 BK108 HB hHeld ⊢;refine pureT 0 (some 44) ?_;refine pureT 2 (some 46) ?_;refine pureT 4 (some 48) ?_;refine pureT 6 (some 50) ?_;refine pureT 8 (some 52) ?_;refine pureT 9 (some 53) ?_;refine takeT_ 1 (some 45) (hy:=Or.inl ⟨by rfl,gq10⟩) ?_;refine takeT_ 3 (some 47) (hy:=Or.inl ⟨by rfl,gq10⟩) ?_;refine pureT 5 (some 49) ?_;refine pureT 11 (some 2) ?_;refine takeT_ 7 (some 51) (hy:=Or.inl ⟨by rfl,gq10⟩) ?_;refine pureT 10 (some 54) ?_;refine one_ (i:=12) (N:=none) #[true,true,true,true,true,true,true,true,true,true,true,true,true,false] rfl rfl (one_of HT_.out (by kernel_rfl)) (by decide) (fun K hK=>?_);have _:=cz0 BK108;have _:=blk_frozen BK108.out 0;have hns34_0:=NB107_108.out;have hms34_0:=NB108_107.out;have hs35:=cz1 BK108;have hfs35:=blk_frozen BK108.out 1;have hns35_0:=NB107_108.out;have hms35_0:=NB108_107.out;refine skip_ (w1:=?_) (by rfl) rfl ?_ ?_;rotate_left
         ·go_simp
          rfl
         refine hK.out _ _ ⟨((cell_far (p:=⟨gb108,_,none⟩) NB107_108.out _).trans (((cell_far (p:=⟨gb108,_,none⟩) NB107_108.out _).trans (hHeld.1)))),((cell_far (p:=⟨gb108,_,none⟩) NB107_108.out _).trans (((cell_far (p:=⟨gb108,_,none⟩) NB107_108.out _).trans (hHeld.2))))⟩ (fun hHeld=>?_);clear hK K;refine pureT 13 (some 4) ?_;refine done_ (done_of HT_.out (by kernel_rfl)) ?_;try go_wp2
         refine bodyPost_ret (results_list (rs:=[.tmp 2,.cell 3 35,.tmp 4]) rfl (by simp) (.tmp (.cell gb108 35 #[.string a0_0,.int .i64 (wrap64 (x5_1+2))] (0,0) _ rfl (by(with_reducible repeat(first|refine blk_drewN ?_ _|refine blk_drew ?_|refine blk_alloc ?_ _));refine blk_put (cs:=#[.string a0_0,.int .i64 x109001_1]) ?_ 1 _ rfl;(with_reducible repeat(first|refine blk_drewN ?_ _|refine blk_drew ?_|refine blk_alloc ?_ _));refine blk_put (cs:=#[.string x109000_1,.int .i64 x109001_1]) ?_ 0 _ rfl;(with_reducible repeat(first|refine blk_drewN ?_ _|refine blk_drew ?_|refine blk_alloc ?_ _));exact BK108.out) Tryz.underlying35 rfl (by kernel_rfl) (.tmp .nil)))) rfl ?_;exact⟨by first|rfl|(simp[errW_none,errW_some] <;> rfl)|(simp only[← hji23];first|rfl|(simp[errW_none,errW_some] <;> rfl))|(simp[*,errW_none,errW_some] <;> rfl),gBe⟩
        ·obtain⟨c27b0,c27b1⟩:=gEf c27;simp only[Option.some.injEq,Prod.mk.injEq] at H;obtain⟨rfl,rfl,rfl,rfl⟩:=H;have hnb36:=NB107_108.out;have hnc36:=NB108_107.out;obtain⟨_,_⟩:=czA2 BK107;obtain⟨_,_⟩:=cfA2 BK107;have p12:0≤(x5_1:Int):=of_decide_eq_true gq4;have q12:x5_1<(a0_0.size:Int):=of_decide_eq_true gq4;have hx12:=bt_at a0_0 x5_1;replace p12:=eq_true p12;replace q12:=eq_true q12;have p17:0≤(x5_1:Int):=of_decide_eq_true gq4;have q17:x5_1<(a0_0.size:Int):=of_decide_eq_true gq4;have hx17:=bt_at a0_0 x5_1;replace p17:=eq_true p17;replace q17:=eq_true q17;have p26:0≤((ji23):Int):=of_decide_eq_true gq4;have q26:(ji23)<(a0_0.size:Int):=of_decide_eq_true gq4;have hx26:=bt_at a0_0 (ji23);replace p26:=eq_true p26;replace q26:=eq_true q26;obtain⟨_,_⟩:=czA2 BK108;obtain⟨_,_⟩:=cfA2 BK108;go_wp2;refine bodyPost_ret (results_list (rs:=[.tmp 2,.cell 3 35,.tmp 4]) rfl (by simp) (.tmp (.cell gb108 35 #[.string (⟨#[]⟩:ByteArray),.int .i64 0] (0,0) _ rfl gq7 Tryz.underlying35 rfl (by kernel_rfl) (.tmp .nil)))) rfl ?_;exact⟨by first|rfl|(simp[errW_none,errW_some] <;> rfl)|(simp only[← hji23];first|rfl|(simp[errW_none,errW_some] <;> rfl))|(simp[*,errW_none,errW_some] <;> rfl),gBe⟩
      ·obtain⟨c18b0,c18b1⟩:=gEf c18;have H':=Aside0.mk H;clear H;have hnb39:=NB107_108.out;have hnc39:=NB108_107.out;obtain⟨_,_⟩:=czA2 BK107;obtain⟨_,_⟩:=cfA2 BK107;have p12:0≤(x5_1:Int):=of_decide_eq_true gq4;have q12:x5_1<(a0_0.size:Int):=of_decide_eq_true gq4;have hx12:=bt_at a0_0 x5_1;replace p12:=eq_true p12;replace q12:=eq_true q12;have p17:0≤(x5_1:Int):=of_decide_eq_true gq4;have q17:x5_1<(a0_0.size:Int):=of_decide_eq_true gq4;have hx17:=bt_at a0_0 x5_1;replace p17:=eq_true p17;replace q17:=eq_true q17;go_wp2;go_roundg k1
       case measure=>have:=HK1.out;omega
       case rel=>exact⟨(wrap64 (x5_1+1)),(x109000_1),(x109001_1),gq3,H',⟨by have:=HK1.out;omega⟩,⟨gBk⟩,⟨gBk⟩,⟨gBe⟩⟩
    ·simp only[Option.some.injEq,Prod.mk.injEq] at H;obtain⟨rfl,rfl,rfl,rfl⟩:=H;have hnb41:=NB107_108.out;have hnc41:=NB108_107.out;obtain⟨_,_⟩:=czA2 BK107;obtain⟨_,_⟩:=cfA2 BK107;obtain⟨_,_⟩:=czA2 BK108;obtain⟨_,_⟩:=cfA2 BK108;go_wp2;refine bodyPost_ret (results_list (rs:=[.tmp 2,.cell 3 35,.tmp 4]) rfl (by simp) (.tmp (.cell gb108 35 #[.string (⟨#[]⟩:ByteArray),.int .i64 0] (0,0) _ rfl gq7 Tryz.underlying35 rfl (by kernel_rfl) (.tmp .nil)))) rfl ?_;exact⟨gq1,gBe⟩
 ·simp only[Option.some.injEq,Prod.mk.injEq] at H;obtain⟨rfl,rfl,rfl,rfl⟩:=H;go_enter Tryz.func15,Tryz.ntmps15;go_wp2_with(first|((with_reducible refine gate_dst (N:=1) rfl ?_);refine boxA #[.string a0_0,.int .i64 a0_1] 35 ?_;intro gb107 hg w44 hbox hb;have BK107:=Aside0.mk (hbox);have GW107:=geA hg;have GE107:=geA hg;replace HB:=beA hb;clear hb hbox hg)|((with_reducible refine gate_dst (N:=3) rfl ?_);refine boxA #[.string (⟨#[]⟩:ByteArray),.int .i64 0] 35 ?_;intro gb108 hg w45 hbox hb;have BK108:=Aside0.mk (hbox);have GW108:=geA hg;have GE108:=geA hg;have NB107_108:=neA (g:=gb107) hg;have NB108_107:=neB NB107_108;replace BK107:=blA (g:=gb107) hb;replace HB:=beA hb;clear hb hbox hg;have hnb46:=NB107_108.out;have hnc46:=NB108_107.out;obtain⟨_,_⟩:=czA2 BK107;obtain⟨_,_⟩:=cfA2 BK107)|((with_reducible refine gate_callee (f:=27) rfl ?_);refine goesL_ (some 7) rfl rfl Tryz.func27 (by kernel_rfl) rfl #[.agg #[.string a0_0,.int .i64 a0_1]] rfl gq0 ?_;(with_reducible refine(spec_CurOk.calls a0_0 a0_1 false _ A2.out).mono ?_);rintro e w48 ⟨rfl,hb⟩;refine⟨_,rfl,?_⟩;replace BK107:=blA (g:=gb107) hb;replace BK108:=blA (g:=gb108) hb;replace HB:=beA hb;(try clear hb);obtain⟨_,_⟩:=czA2 BK108;obtain⟨_,_⟩:=cfA2 BK108));refine bodyPost_ret (results_list (rs:=[.tmp 2,.cell 3 35,.tmp 4]) rfl (by simp) (.tmp (.cell gb108 35 #[.string (⟨#[]⟩:ByteArray),.int .i64 0] (0,0) _ rfl (by(with_reducible repeat(first|refine blk_drewN ?_ _|refine blk_drew ?_|refine blk_alloc ?_ _));refine blk_put (cs:=#[.string (⟨#[]⟩:ByteArray),.int .i64 0]) ?_ 1 _ rfl;(with_reducible repeat(first|refine blk_drewN ?_ _|refine blk_drew ?_|refine blk_alloc ?_ _));refine blk_put (cs:=#[.string (⟨#[]⟩:ByteArray),.int .i64 0]) ?_ 0 _ rfl;(with_reducible repeat(first|refine blk_drewN ?_ _|refine blk_drew ?_|refine blk_alloc ?_ _));exact BK108.out) Tryz.underlying35 rfl (by kernel_rfl) (.tmp .nil)))) rfl ?_;exact⟨gq1,gBe⟩


def spec_l1digit.f (a0:Int):Option (Bool):=if a0≥48 then(some (decide (a0≤57))) else(some false)
set_option maxHeartbeats 8000000 in
set_option maxRecDepth 100000 in
theorem spec_l1digit.calls (a0:Int) (r:Bool) (w:World) (h:spec_l1digit.f a0=some r) :
  Calls Tryz.prog 63 #[.int .u8 a0] w fun e w'=>e = .returned (.bool r)∧Drawn0 w w':=by
 have H:=h;clear h;unfold spec_l1digit.f at H;replace H:=gI H;rcases H with⟨c2,-,-,H⟩|⟨c2,-,-,H⟩
 ·have c2b0:decide (48≤a0)=true:=decide_eq_true c2;clear c2;obtain rfl:=Option.some.inj H;go_enter Tryz.func63,Tryz.ntmps63;go_wp2;go_ret;exact⟨gq3,gq5⟩
 ·have c2b0:decide (48≤a0)=false:=decide_eq_false c2;clear c2;obtain rfl:=Option.some.inj H;go_enter Tryz.func63,Tryz.ntmps63;go_wp2;go_ret;exact⟨gq3,gq5⟩


mutual
def spec_DecText.j0 : Nat→Int→Bool→Option (ByteArray)
 |0,_,_=>none
 |k+1,x0,x8=>if x8=true then(some (⟨#[]⟩:ByteArray)) else(if x0<10 then(some (strOfNums (([(wrap64 (48+x0))%256]:List Int)))) else((spec_DecText.f k (wrap64 (Int.tdiv x0 10))).bind fun t123=>((some (([(wrap64 (48+(Int.tmod x0 10)))%256]:List Int):List Int)).bind fun y124=>(if t123.size+(strOfNums y124).size≤9223372036854775807 then(some (t123++(strOfNums y124))) else(none)))))
def spec_DecText.f : Nat→Int→Option (ByteArray)
 |0,_=>none
 |k+1,a0=>if a0<0 then(spec_DecText.j0 k a0 true) else(spec_DecText.j0 k a0 (decide (a0>999999999999999)))
end
theorem spec_DecText.mono_l : ∀ k,(∀ y0,LeO (spec_DecText.f k y0) (spec_DecText.f (k+1) y0))∧(∀ y0 y1,LeO (spec_DecText.j0 k y0 y1) (spec_DecText.j0 (k+1) y0 y1))
 |0=>⟨fun _ r h=>by simp[spec_DecText.f] at h,fun _ _ r h=>by simp[spec_DecText.j0] at h⟩
 |k+1=>by
  obtain⟨ih0,ih1⟩:=spec_DecText.mono_l k
  refine⟨?_,?_⟩
  ·intro y0
   unfold spec_DecText.f
   repeat' first|(with_reducible first|exact ih0 ..|exact ih1 ..|exact LeO.refl ..|exact LeO.none ..|refine LeO.ite ?_ ?_|refine LeO.bind ?_ (fun _=>?_))|exact ih0 ..|exact ih1 ..
  ·intro y0 y1
   unfold spec_DecText.j0
   repeat' first|(with_reducible first|exact ih0 ..|exact ih1 ..|exact LeO.refl ..|exact LeO.none ..|refine LeO.ite ?_ ?_|refine LeO.bind ?_ (fun _=>?_))|exact ih0 ..|exact ih1 ..
theorem spec_DecText.mono : ∀ a0 k,LeO (spec_DecText.f k a0) (spec_DecText.f (k+1) a0):=by
 intro a0 k
 obtain⟨ih0,ih1⟩:=spec_DecText.mono_l k
 exact ih0 a0
def spec_DecText.T5 : Bool×List (List Nat×List Nat):=(true,[([],[]),([0],[0]),([1],[1]),([],[]),([3],[3]),([4],[4]),([5],[5]),([6],[6]),([7],[7]),([2,8],[2,8]),([9,2,0,1,2,3,4,5,6,7,8,9],[9])])
def spec_DecText.B5 : List Nat:=[0,1,3,0,8,24,56,120,248,511,1023]
theorem spec_DecText.tab5 : rtab .any (opsOf Tryz.f64 5)=spec_DecText.T5:=by kernel_rfl
theorem spec_DecText.bits5 : waitsOk spec_DecText.T5.2 spec_DecText.B5=true:=by kernel_rfl
set_option maxHeartbeats 8000000 in
set_option maxRecDepth 100000 in
theorem spec_DecText.calls (k:Nat):∀(a0:Int) (r:ByteArray) (w:World) (h:spec_DecText.f k a0=some r),
  Calls Tryz.prog 64 #[.int .i64 a0] w fun e w'=>e = .returned (.string r)∧Below w.heap.size w w':=by
 induction k using Nat.strongRecOn with
 |_ k ih=>
 intro a0 r w h;cases k with
 |zero=>exact absurd h (by simp[spec_DecText.f])
 |succ k=>
 simp only[spec_DecText.f] at h;have HB:=Aside0.mk (Below.refl w.heap.size w);have H:(if a0<0 then(spec_DecText.j0 k a0 true) else(spec_DecText.j0 k a0 (decide (a0>999999999999999))))=some r:=h;clear h;have HC2:=Aside0.mk H;clear H;go_enter Tryz.func64,Tryz.ntmps64;go_upto_region 1 with(fail);go_cut [8] (fun v8 wc=>∃(kq:Nat) (x8_1:Bool),v8 = .bool x8_1∧Aside0 (spec_DecText.j0 kq a0 x8_1=some r)∧Aside0 (kq≤k)∧Aside0 (Below w.heap.size w wc))
 case first=>
  have H:=HC2.out;clear HC2;replace H:=gI H;rcases H with⟨-,c3b0,-,H⟩|⟨-,c3b0,-,H⟩
  ·(first|rw[c3b0]|(simp only[i64_w,i32_w];rw[c3b0])|skip)
   have H':=Aside0.mk H;clear H;go_wp2;go_meet
   case rel=>exact⟨_,(true),gq3,H',⟨gq9⟩,⟨gBe⟩⟩
  ·(first|rw[c3b0]|(simp only[i64_w,i32_w];rw[c3b0])|skip)
   have H':=Aside0.mk H;clear H;go_wp2;go_meet
   case rel=>exact⟨_,(decide (a0>999999999999999)),gq3,H',⟨gq9⟩,⟨gBe⟩⟩
 case rest=>
  clear HC2;obtain⟨kq,x8_1,rfl,HA,HJ1,HB⟩:=hcut;cases kq with
  |zero=>exact absurd HA.out (by simp[spec_DecText.j0])
  |succ kj1=>
   have H:=HA.out;clear HA;simp only[spec_DecText.j0] at H;replace H:=gB H;rcases H with⟨rfl,H⟩|⟨rfl,H⟩
   ·obtain rfl:=Option.some.inj H;go_wp2;go_ret;exact⟨gq1,gBe⟩
   ·replace H:=gI H;rcases H with⟨-,c5b0,-,H⟩|⟨-,c5b0,-,H⟩
    ·obtain⟨y120,hy120⟩:∃ y_:List Int,y_=(([(wrap64 (48+a0))%256]:List Int)):=⟨_,rfl⟩;replace H:(some (strOfNums y120))=some r:=by first|(rw[hy120];with_reducible exact H)|(have H2_:=(Option.bind_some _ _).symm.trans H;rw[hy120];with_reducible exact H2_)|(have H2_:=(Option.bind_some _ _).symm.trans H;with_reducible exact H2_)|with_reducible exact H|(rw[hy120];exact H)|exact H
     have Ny120:=Aside0.mk hy120;clear hy120;obtain rfl:=Option.some.inj H;go_wp2_with(first|((with_reducible refine gate_dst (N:=14) rfl ?_);refine Kd.R_lit (Kd.int .u8) _ 5 ?hg (N:=14) ?hd (xs:=([(wrap64 (48+a0))%256]:List Int)) (inner:=[.int .u8 ((wrap64 (48+a0))%256)]) (ok:=fun _=>True) (okp:=fun _=>True) ?hr ?hp (fun _ hk=>hk) trivial (Below.refl _ _) (Nat.le_refl _) (by simp) ?_;(case hd=>rfl);(case hg=>rfl);(case hr=>first|(go_simp;done)|(go_simp;rfl));(case hp=>exact(Reps.one (show Kd.M (Kd.int .u8) _ _ _ ((wrap64 (48+a0))%256) [.int .u8 ((wrap64 (48+a0))%256)] from rfl) (Reps.none _ _)));intro v121 w6 ho7 hb hg_ hnew_;clear hg_ hnew_;(first|rw[← Ny120.out] at ho7|(simp only[Int.reduceToNat] at ho7;rw[← Ny120.out] at ho7));have HO122:=Aside0.mk (Kd.R_lower ho7 (below_size gBe));replace HB:=beA hb;clear hb ho7;have hcv8:=own_string (P:=Tryz.prog) Tryz.underlying87 Tryz.underlying5 Tryz.underlying9 (Kd.own_of_R HO122.out)));go_ret;exact⟨gq1,gBe⟩
    ·replace H:=gD H;obtain⟨t123,A9,H⟩:=H;obtain⟨y124,hy124⟩:∃ y_:List Int,y_=(([(wrap64 (48+(Int.tmod a0 10)))%256]:List Int)):=⟨_,rfl⟩;replace H:(if t123.size+(strOfNums y124).size≤9223372036854775807 then(some (t123++(strOfNums y124))) else(none))=some r:=by first|(rw[hy124];with_reducible exact H)|(have H2_:=(Option.bind_some _ _).symm.trans H;rw[hy124];with_reducible exact H2_)|(have H2_:=(Option.bind_some _ _).symm.trans H;with_reducible exact H2_)|with_reducible exact H|(rw[hy124];exact H)|exact H
     have Ny124:=Aside0.mk hy124;clear hy124;replace H:=gI H;rcases H with⟨c10,c10b1,c10b0,H⟩|⟨c10,-,-,H⟩
     ·try have c10b2:(9223372036854775807<t123.size+(strOfNums y124).size)=False:=eq_false (Nat.not_lt.2 c10)
      obtain rfl:=Option.some.inj H;try go_wp2
      replace HB:=Aside0.mk (below_drew1 HB.out);refine start_ (n:=11) (S:=fun w'=>True) (ds:=[]) #[false,false,false,false,false,false,false,false,false,false,false] (by kernel_rfl) rfl rfl trivial (fun hHeld=>?_);refine with_tabW spec_DecText.tab5 spec_DecText.bits5 (fun HT_ HW_=>?_);generalize wc.drew=w11 at HB hHeld ⊢;refine pureT 0 (some 16) ?_;refine pureT 1 (some 17) ?_;refine pureT 3 (some 19) ?_;refine pureT 4 (some 20) ?_;refine pureT 5 (some 21) ?_;refine pureT 6 (some 22) ?_;refine join_ (σ:=Value) 2 #[true,true,true,true,true,true,true,true,true,false,false] (fun s_=>[(18,.string t123),(23,s_),(24,.string (strOfNums y124))]) (fun s_ w'=>(Kd.R (Kd.int .u8) 5 w' w.heap.size (fun _=>True) s_ y124)∧(Below w.heap.size w w')) ?_ ?_;rotate_left
      ·intro hCont;refine two_ (i:=2) (j:=7) (Ni:=some 18) (Nj:=some 23) #[true,true,true,true,true,true,true,false,false,false,false] #[true,true,false,true,true,true,true,true,false,false,false] rfl rfl rfl rfl (two_of HT_.out (by kernel_rfl)) (by decide) (by decide) (fun K hK=>?_) (fun K hK=>?_)
       ·skip
        refine goes_ Tryz.func64 (by kernel_rfl) rfl #[.int .i64 (wrap64 (Int.tdiv a0 10))] (by rfl) rfl rfl gq0 ?_;(with_reducible refine(ih kj1 (by have:=HJ1.out;omega) (wrap64 (Int.tdiv a0 10)) t123 _ A9.out).mono ?_);rintro e w12 ⟨rfl,hb⟩;refine⟨_,rfl,?_⟩;replace HB:=beA hb;(try clear hb)
        refine hK.out _ _ trivial (fun hHeld=>?_);clear hK K;refine normA (some 18) ?_;refine one_ (i:=7) (N:=some 23) #[true,true,true,true,true,true,true,true,false,false,false] rfl rfl (one_of HT_.out (by kernel_rfl)) (by decide) (fun K hK=>?_);refine Kd.R_lit_step (Kd.int .u8) _ 5 ?hg (N:=23) ?hd (xs:=([(wrap64 (48+(Int.tmod a0 10)))%256]:List Int)) (inner:=[.int .u8 ((wrap64 (48+(Int.tmod a0 10)))%256)]) (ok:=fun _=>True) (okp:=fun _=>True) ?hr ?hp (fun _ hk=>hk) trivial (Below.refl _ _) (Nat.le_refl _) (by simp) ?_;(case hd=>rfl);(case hg=>rfl);(case hr=>first|(go_simp;done)|(go_simp;rfl));(case hp=>exact(Reps.one (show Kd.M (Kd.int .u8) _ _ _ ((wrap64 (48+(Int.tmod a0 10)))%256) [.int .u8 ((wrap64 (48+(Int.tmod a0 10)))%256)] from rfl) (Reps.none _ _)));intro v125 w13 ho14 hb hg_ hnew_;clear hg_ hnew_;(first|rw[← Ny124.out] at ho14|(simp only[Int.reduceToNat] at ho14;rw[← Ny124.out] at ho14))
        have HO126:=Aside0.mk (Kd.R_lower ho14 (below_size gBe));replace HB:=beA hb;clear hb ho14;refine hK.out _ _ trivial (fun hHeld=>?_);clear hK K;refine normA (some 23) ?_;refine one_ (i:=8) (N:=some 24) #[true,true,true,true,true,true,true,true,true,false,false] rfl rfl (one_of HT_.out (by kernel_rfl)) (by decide) (fun K hK=>?_);have hcv15:=own_string (P:=Tryz.prog) Tryz.underlying87 Tryz.underlying5 Tryz.underlying9 (Kd.own_of_R HO126.out);refine value_ (w1:=?_) (v:=?_) (by rfl) rfl ?_ ?_;rotate_left 2
        ·go_simp
         constructor
         ·rfl
         ·rfl
        clear hcv15;refine hK.out _ _ trivial (fun hHeld=>?_);clear hK K;refine normA (some 24) ?_;exact norm_ gq35 (hCont (v125) _ ⟨gq53,gBe⟩)
       ·skip
        refine Kd.R_lit_step (Kd.int .u8) _ 5 ?hg (N:=23) ?hd (xs:=([(wrap64 (48+(Int.tmod a0 10)))%256]:List Int)) (inner:=[.int .u8 ((wrap64 (48+(Int.tmod a0 10)))%256)]) (ok:=fun _=>True) (okp:=fun _=>True) ?hr ?hp (fun _ hk=>hk) trivial (Below.refl _ _) (Nat.le_refl _) (by simp) ?_;(case hd=>rfl);(case hg=>rfl);(case hr=>first|(go_simp;done)|(go_simp;rfl));(case hp=>exact(Reps.one (show Kd.M (Kd.int .u8) _ _ _ ((wrap64 (48+(Int.tmod a0 10)))%256) [.int .u8 ((wrap64 (48+(Int.tmod a0 10)))%256)] from rfl) (Reps.none _ _)));intro v125 w12 ho13 hb hg_ hnew_;clear hg_ hnew_;(first|rw[← Ny124.out] at ho13|(simp only[Int.reduceToNat] at ho13;rw[← Ny124.out] at ho13))
        have HO126:=Aside0.mk (Kd.R_lower ho13 (below_size gBe));replace HB:=beA hb;clear hb ho13;refine hK.out _ _ trivial (fun hHeld=>?_);clear hK K;refine normA (some 23) ?_;refine two_ (i:=2) (j:=8) (Ni:=some 18) (Nj:=some 24) #[true,true,true,true,true,true,true,true,false,false,false] #[true,true,false,true,true,true,true,true,true,false,false] rfl rfl rfl rfl (two_of HT_.out (by kernel_rfl)) (by decide) (by decide) (fun K hK=>?_) (fun K hK=>?_)
        ·skip
         refine goes_ Tryz.func64 (by kernel_rfl) rfl #[.int .i64 (wrap64 (Int.tdiv a0 10))] (by rfl) rfl rfl gq0 ?_;(with_reducible refine(ih kj1 (by have:=HJ1.out;omega) (wrap64 (Int.tdiv a0 10)) t123 _ A9.out).mono ?_);rintro e w14 ⟨rfl,hb⟩;refine⟨_,rfl,?_⟩;replace HO126:=Aside0.mk (Kd.R_below gq53 hb);replace HB:=beA hb;(try clear hb)
         (try clear hk)
         refine hK.out _ _ trivial (fun hHeld=>?_);clear hK K;refine normA (some 18) ?_;refine one_ (i:=8) (N:=some 24) #[true,true,true,true,true,true,true,true,true,false,false] rfl rfl (one_of HT_.out (by kernel_rfl)) (by decide) (fun K hK=>?_);have hcv15:=own_string (P:=Tryz.prog) Tryz.underlying87 Tryz.underlying5 Tryz.underlying9 (Kd.own_of_R HO126.out);refine value_ (w1:=?_) (v:=?_) (by rfl) rfl ?_ ?_;rotate_left 2
         ·go_simp
          constructor
          ·rfl
          ·rfl
         clear hcv15;refine hK.out _ _ trivial (fun hHeld=>?_);clear hK K;refine normA (some 24) ?_;exact norm_ gq35 (hCont (v125) _ ⟨gq53,gBe⟩)
        ·skip
         have hcv14:=own_string (P:=Tryz.prog) Tryz.underlying87 Tryz.underlying5 Tryz.underlying9 (Kd.own_of_R HO126.out);refine value_ (w1:=?_) (v:=?_) (by rfl) rfl ?_ ?_;rotate_left 2
         ·go_simp
          constructor
          ·rfl
          ·rfl
         clear hcv14;refine hK.out _ _ trivial (fun hHeld=>?_);clear hK K;refine normA (some 24) ?_;refine one_ (i:=2) (N:=some 18) #[true,true,true,true,true,true,true,true,true,false,false] rfl rfl (one_of HT_.out (by kernel_rfl)) (by decide) (fun K hK=>?_);refine goes_ Tryz.func64 (by kernel_rfl) rfl #[.int .i64 (wrap64 (Int.tdiv a0 10))] (by rfl) rfl rfl gq0 ?_;(with_reducible refine(ih kj1 (by have:=HJ1.out;omega) (wrap64 (Int.tdiv a0 10)) t123 _ A9.out).mono ?_);rintro e w15 ⟨rfl,hb⟩;refine⟨_,rfl,?_⟩;replace HO126:=Aside0.mk (Kd.R_below gq53 hb);replace HB:=beA hb;(try clear hb)
         (try clear hk)
         refine hK.out _ _ trivial (fun hHeld=>?_);clear hK K;refine normA (some 18) ?_;exact norm_ gq35 (hCont (v125) _ ⟨gq53,gBe⟩)
      rintro v125 w16 ⟨h0_,h1_⟩;have n0_:Aside0 (Kd.R (Kd.int .u8) 5 w16 w.heap.size (fun _=>True) v125 y124):=⟨h0_⟩;have n1_:Aside0 (Below w.heap.size w w16):=⟨h1_⟩;clear HB;clear h0_ h1_;have HO126:=n0_;have HB:=n1_;clear n0_ n1_;have hHeld:=trivial;refine norm_ (a':=?_) ?_ ?_;rotate_left
      ·simp only[putAll,Act.put,List.setIfInBounds_toArray,List.set_cons_zero,List.set_cons_succ];rfl
      refine pureT 9 (some 25) ?_;refine pureT 10 (some 2) ?_;refine done_ (done_of HT_.out (by kernel_rfl)) ?_;try go_wp2
      go_ret;exact⟨gq1,gBe⟩
     ·exact absurd H (by simp)


mutual
def spec_ReadDec.j0 : Nat→ByteArray→Bool→Option (Int×Bool)
 |0,_,_=>none
 |k+1,x0,x13=>if x13=true then(some (0,false)) else(spec_ReadDec.l0 k x0 0 0)
def spec_ReadDec.l0 : Nat→ByteArray→Int→Int→Option (Int×Bool)
 |0,_,_,_=>none
 |k+1,x0,x4,x5=>if x5<(x0.size:Int) then(if 0≤x5 then((spec_l1digit.f (bt x0 x5)).bind fun t127=>(if t127=true then(spec_ReadDec.l0 k x0 (wrap64 ((wrap64 (x4*10))+(((bt x0 x5)-48)%256))) (wrap64 (x5+1))) else(some (0,false)))) else(none)) else((spec_DecText.f k x4).bind fun t128=>(if t128.toList=x0.toList then(some (x4,true)) else(some (0,false))))
end
def spec_ReadDec.f (k:Nat) (a0:ByteArray):Option (Int×Bool):=if(a0.size:Int)=0 then(spec_ReadDec.j0 k a0 true) else(spec_ReadDec.j0 k a0 (decide ((a0.size:Int)>15)))
theorem spec_ReadDec.mono_l : ∀ k,(∀ y0 y1,LeO (spec_ReadDec.j0 k y0 y1) (spec_ReadDec.j0 (k+1) y0 y1))∧(∀ y0 y1 y2,LeO (spec_ReadDec.l0 k y0 y1 y2) (spec_ReadDec.l0 (k+1) y0 y1 y2))
 |0=>⟨fun _ _ r h=>by simp[spec_ReadDec.j0] at h,fun _ _ _ r h=>by simp[spec_ReadDec.l0] at h⟩
 |k+1=>by
  obtain⟨ih0,ih1⟩:=spec_ReadDec.mono_l k
  refine⟨?_,?_⟩
  ·intro y0 y1
   unfold spec_ReadDec.j0
   repeat' first|(with_reducible first|exact ih0 ..|exact ih1 ..|exact spec_DecText.mono ..|exact LeO.refl ..|exact LeO.none ..|refine LeO.ite ?_ ?_|refine LeO.bind ?_ (fun _=>?_))|exact ih0 ..|exact ih1 ..
  ·intro y0 y1 y2
   unfold spec_ReadDec.l0
   repeat' first|(with_reducible first|exact ih0 ..|exact ih1 ..|exact spec_DecText.mono ..|exact LeO.refl ..|exact LeO.none ..|refine LeO.ite ?_ ?_|refine LeO.bind ?_ (fun _=>?_))|exact ih0 ..|exact ih1 ..
theorem spec_ReadDec.mono : ∀ a0 k,LeO (spec_ReadDec.f k a0) (spec_ReadDec.f (k+1) a0):=by
 intro a0 k
 obtain⟨ih0,ih1⟩:=spec_ReadDec.mono_l k
 unfold spec_ReadDec.f
 repeat' first|(with_reducible first|exact ih0 ..|exact ih1 ..|exact spec_DecText.mono ..|exact LeO.refl ..|exact LeO.none ..|refine LeO.ite ?_ ?_|refine LeO.bind ?_ (fun _=>?_))|exact ih0 ..|exact ih1 ..
set_option maxHeartbeats 8000000 in
set_option maxRecDepth 100000 in
theorem spec_ReadDec.calls (k:Nat) (a0:ByteArray) (r1:Int) (r2:Bool) (w:World) (h:spec_ReadDec.f k a0=some (r1,r2)) :
  Calls Tryz.prog 28 #[.string a0] w fun e w'=>e = .returned (.tuple #[.int .i64 r1,.bool r2])∧Below w.heap.size w w':=by
 have HB:=Aside0.mk (Below.refl w.heap.size w);have H:=h;clear h;unfold spec_ReadDec.f at H;have HC2:=Aside0.mk H;clear H;go_enter Tryz.func28,Tryz.ntmps28;go_upto_region 1 with(fail);go_cut [13] (fun v13 wc=>∃(kq:Nat) (x13_1:Bool),v13 = .bool x13_1∧Aside0 (spec_ReadDec.j0 kq a0 x13_1=some (r1,r2))∧Aside0 (kq≤k)∧Aside0 (Below w.heap.size w wc))
 case first=>
  have H:=HC2.out;clear HC2;replace H:=gI H;rcases H with⟨c3,-,-,H⟩|⟨c3,-,-,H⟩
  ·obtain⟨c3b0,c3b1⟩:=gEt c3;clear c3;(first|rw[c3b0]|(simp only[i64_w,i32_w];rw[c3b0])|skip)
   have H':=Aside0.mk H;clear H;go_wp2;go_meet
   case rel=>exact⟨_,(true),gq3,H',⟨gq9⟩,⟨gBe⟩⟩
  ·obtain⟨c3b0,c3b1⟩:=gEf c3;(first|rw[c3b0]|(simp only[i64_w,i32_w];rw[c3b0])|skip)
   have H':=Aside0.mk H;clear H;go_wp2;go_meet
   case rel=>exact⟨_,(decide ((a0.size:Int)>15)),gq3,H',⟨gq9⟩,⟨gBe⟩⟩
 case rest=>
  clear HC2;obtain⟨kq,x13_1,rfl,HA,HJ1,HB⟩:=hcut;cases kq with
  |zero=>exact absurd HA.out (by simp[spec_ReadDec.j0])
  |succ kj1=>
   have H:=HA.out;clear HA;simp only[spec_ReadDec.j0] at H;replace H:=gB H;rcases H with⟨rfl,H⟩|⟨rfl,H⟩
   ·simp only[Option.some.injEq,Prod.mk.injEq] at H;obtain⟨rfl,rfl⟩:=H;go_wp2;go_ret2;exact⟨gq1,gBe⟩
   ·have H':=Aside0.mk H;clear H;go_wp2;go_loopg [4,5] kj1 (fun kq v4 v5 w'=>∃(x4_2:Int) (x5_2:Int),v4 = .int .i64 x4_2∧v5 = .int .i64 x5_2∧Aside0 (spec_ReadDec.l0 kq a0 x4_2 x5_2=some (r1,r2))∧Aside0 (kq≤kj1)∧Aside0 (Below w.heap.size w w'))
    case atStart=>exact⟨(0),(0),gq3,gq3,H',⟨Nat.le_refl _⟩,⟨gBe⟩⟩
    case round=>
     clear H';obtain⟨x4_2,x5_2,rfl,rfl,HA,HK2,HB⟩:=hrel;cases gk with
     |zero=>exact absurd HA.out (by simp[spec_ReadDec.l0])
     |succ k2=>
      have H:=HA.out;clear HA;simp only[spec_ReadDec.l0] at H;replace H:=gI H;rcases H with⟨-,c5b0,-,H⟩|⟨-,c5b0,-,H⟩
      ·replace H:=gN H;obtain⟨-,c6b0,-,H⟩:=H;replace H:=gD H;obtain⟨t127,A8,H⟩:=H;replace H:=gB H;rcases H with⟨rfl,H⟩|⟨rfl,H⟩
       ·have H':=Aside0.mk H;clear H;have p7:0≤(x5_2:Int):=of_decide_eq_true gq4;have q7:x5_2<(a0.size:Int):=of_decide_eq_true gq4;have hx7:=bt_at a0 x5_2;replace p7:=eq_true p7;replace q7:=eq_true q7;go_wp2_with(first|((with_reducible refine gate_callee (f:=63) rfl ?_);refine goesL_ (some 23) rfl rfl Tryz.func63 (by kernel_rfl) rfl #[.int .u8 (bt a0 x5_2)] rfl gq0 ?_;(with_reducible refine(spec_l1digit.calls (bt a0 x5_2) true _ A8.out).mono ?_);rintro e w' ⟨rfl,⟨nd,rfl⟩⟩;refine⟨_,rfl,?_⟩;have p10:0≤(x5_2:Int):=of_decide_eq_true gq4;have q10:x5_2<(a0.size:Int):=of_decide_eq_true gq4;have hx10:=bt_at a0 x5_2;replace p10:=eq_true p10;replace q10:=eq_true q10));go_roundg k2
        case measure=>have:=HJ1.out;have:=HK2.out;omega
        case rel=>exact⟨(wrap64 ((wrap64 (x4_2*10))+(((bt a0 x5_2)-48)%256))),(wrap64 (x5_2+1)),gq3,gq3,H',⟨gq61⟩,⟨gBe⟩⟩
       ·simp only[Option.some.injEq,Prod.mk.injEq] at H;obtain⟨rfl,rfl⟩:=H;have p7:0≤(x5_2:Int):=of_decide_eq_true gq4;have q7:x5_2<(a0.size:Int):=of_decide_eq_true gq4;have hx7:=bt_at a0 x5_2;replace p7:=eq_true p7;replace q7:=eq_true q7;go_wp2_with(first|((with_reducible refine gate_callee (f:=63) rfl ?_);refine goesL_ (some 23) rfl rfl Tryz.func63 (by kernel_rfl) rfl #[.int .u8 (bt a0 x5_2)] rfl gq0 ?_;(with_reducible refine(spec_l1digit.calls (bt a0 x5_2) false _ A8.out).mono ?_);rintro e w' ⟨rfl,⟨nd,rfl⟩⟩;refine⟨_,rfl,?_⟩));go_ret2;exact⟨gq1,gBe⟩
      ·replace H:=gD H;obtain⟨t128,A11,H⟩:=H;replace H:=gI H;rcases H with⟨c12,-,-,H⟩|⟨c12,-,-,H⟩
       ·obtain⟨c12b0,c12b1⟩:=gEt c12;clear c12;simp only[Option.some.injEq,Prod.mk.injEq] at H;obtain⟨rfl,rfl⟩:=H;go_wp2_with(first|((with_reducible refine gate_callee (f:=64) rfl ?_);refine goesL_ (some 34) rfl rfl Tryz.func64 (by kernel_rfl) rfl #[.int .i64 x4_2] rfl gq0 ?_;(with_reducible refine(spec_DecText.calls k2 x4_2 t128 _ A11.out).mono ?_);rintro e w13 ⟨rfl,hb⟩;refine⟨_,rfl,?_⟩;replace HB:=beA hb;(try clear hb)));go_ret2;exact⟨gq1,gBe⟩
       ·obtain⟨c12b0,c12b1⟩:=gEf c12;simp only[Option.some.injEq,Prod.mk.injEq] at H;obtain⟨rfl,rfl⟩:=H;go_wp2_with(first|((with_reducible refine gate_callee (f:=64) rfl ?_);refine goesL_ (some 34) rfl rfl Tryz.func64 (by kernel_rfl) rfl #[.int .i64 x4_2] rfl gq0 ?_;(with_reducible refine(spec_DecText.calls k2 x4_2 t128 _ A11.out).mono ?_);rintro e w14 ⟨rfl,hb⟩;refine⟨_,rfl,?_⟩;replace HB:=beA hb;(try clear hb)));go_ret2;exact⟨gq1,gBe⟩

def spec_l1plain.f (a0:Int):Option (Bool):=if a0=9 then(some true) else(if a0≥32 then(some (a0 != 127)) else(some false))
set_option maxHeartbeats 8000000 in
set_option maxRecDepth 100000 in
theorem spec_l1plain.calls (a0:Int) (r:Bool) (w:World) (h:spec_l1plain.f a0=some r) :
  Calls Tryz.prog 65 #[.int .u8 a0] w fun e w'=>e = .returned (.bool r)∧Drawn0 w w':=by
 have H:=h;clear h;unfold spec_l1plain.f at H;replace H:=gI H;rcases H with⟨c2,-,-,H⟩|⟨c2,-,-,H⟩
 ·obtain⟨c2b0,c2b1⟩:=gEt c2;clear c2;obtain rfl:=Option.some.inj H;go_enter Tryz.func65,Tryz.ntmps65;go_wp2;go_ret;exact⟨gq3,gq5⟩
 ·obtain⟨c2b0,c2b1⟩:=gEf c2;replace H:=gI H;rcases H with⟨c3,-,-,H⟩|⟨c3,-,-,H⟩
  ·have c3b0:decide (32≤a0)=true:=decide_eq_true c3;clear c3;obtain rfl:=Option.some.inj H;go_enter Tryz.func65,Tryz.ntmps65;go_wp2;go_ret;exact⟨gq3,gq5⟩
  ·have c3b0:decide (32≤a0)=false:=decide_eq_false c3;clear c3;obtain rfl:=Option.some.inj H;go_enter Tryz.func65,Tryz.ntmps65;go_wp2;go_ret;exact⟨gq3,gq5⟩

def spec_l1lower.f (a0:Int):Option (Int):=if a0≥65 then(if a0≤90 then(some ((a0+32)%256)) else(some a0)) else(some a0)
set_option maxHeartbeats 8000000 in
set_option maxRecDepth 100000 in
theorem spec_l1lower.calls (a0 r:Int) (w:World) (h:spec_l1lower.f a0=some r) :
  Calls Tryz.prog 121 #[.int .u8 a0] w fun e w'=>e = .returned (.int .u8 r)∧Drawn0 w w':=by
 have H:=h;clear h;unfold spec_l1lower.f at H;replace H:=gI H;rcases H with⟨c2,-,-,H⟩|⟨c2,-,-,H⟩
 ·have c2b0:decide (65≤a0)=true:=decide_eq_true c2;clear c2;replace H:=gI H;rcases H with⟨-,c3b0,-,H⟩|⟨-,c3b0,-,H⟩
  ·obtain rfl:=Option.some.inj H;go_enter Tryz.func121,Tryz.ntmps121;go_wp2;go_ret;exact⟨gq3,gq5⟩
  ·obtain rfl:=Option.some.inj H;go_enter Tryz.func121,Tryz.ntmps121;go_wp2;go_ret;exact⟨gq3,gq5⟩
 ·have c2b0:decide (65≤a0)=false:=decide_eq_false c2;clear c2;obtain rfl:=Option.some.inj H;go_enter Tryz.func121,Tryz.ntmps121;go_wp2;go_ret;exact⟨gq3,gq5⟩


def spec_l1has.l0 : Nat→ByteArray→Int→Int→Option (Bool)
 |0,_,_,_=>none
 |k+1,x0,x1,x5=>if x5<(x0.size:Int) then(if 0≤x5 then(if(bt x0 x5)=x1 then(some true) else(spec_l1has.l0 k x0 x1 (wrap64 (x5+1)))) else(none)) else(some false)
def spec_l1has.f (k:Nat) (a0:ByteArray) (a1:Int):Option (Bool):=spec_l1has.l0 k a0 a1 0
theorem spec_l1has.mono_l : ∀ k,(∀ y0 y1 y2,LeO (spec_l1has.l0 k y0 y1 y2) (spec_l1has.l0 (k+1) y0 y1 y2))
 |0=>fun _ _ _ r h=>by simp[spec_l1has.l0] at h
 |k+1=>by
  have ih0:=spec_l1has.mono_l k
  ·intro y0 y1 y2
   unfold spec_l1has.l0
   repeat' first|(with_reducible first|exact ih0 ..|exact LeO.refl ..|exact LeO.none ..|refine LeO.ite ?_ ?_|refine LeO.bind ?_ (fun _=>?_))|exact ih0 ..
theorem spec_l1has.mono : ∀ a0 a1 k,LeO (spec_l1has.f k a0 a1) (spec_l1has.f (k+1) a0 a1):=by
 intro a0 a1 k
 have ih0:=spec_l1has.mono_l k
 unfold spec_l1has.f
 repeat' first|(with_reducible first|exact ih0 ..|exact LeO.refl ..|exact LeO.none ..|refine LeO.ite ?_ ?_|refine LeO.bind ?_ (fun _=>?_))|exact ih0 ..
set_option maxHeartbeats 8000000 in
set_option maxRecDepth 100000 in
theorem spec_l1has.calls (k:Nat) (a0:ByteArray) (a1:Int) (r:Bool) (w:World) (h:spec_l1has.f k a0 a1=some r) :
  Calls Tryz.prog 136 #[.string a0,.int .u8 a1] w fun e w'=>e = .returned (.bool r)∧Drawn0 w w':=by
 have H:=h;clear h;unfold spec_l1has.f at H;have H':=Aside0.mk H;clear H;go_enter Tryz.func136,Tryz.ntmps136;go_wp2;go_loopg [5] k (fun kq v5 w'=>∃(x5_1:Int),v5 = .int .i64 x5_1∧Aside0 (spec_l1has.l0 kq a0 a1 x5_1=some r)∧Aside0 (kq≤k)∧Drawn0 w w')
 case atStart=>exact⟨(0),gq3,H',⟨Nat.le_refl _⟩,gq5⟩
 case round=>
  clear H';obtain⟨x5_1,rfl,HA,HK1,⟨m1,rfl⟩⟩:=hrel;cases gk with
  |zero=>exact absurd HA.out (by simp[spec_l1has.l0])
  |succ k1=>
   have H:=HA.out;clear HA;simp only[spec_l1has.l0] at H;replace H:=gI H;rcases H with⟨-,c3b0,-,H⟩|⟨-,c3b0,-,H⟩
   ·replace H:=gN H;obtain⟨-,c4b0,-,H⟩:=H;replace H:=gI H;rcases H with⟨c6,-,-,H⟩|⟨c6,-,-,H⟩
    ·obtain⟨c6b0,c6b1⟩:=gEt c6;clear c6;obtain rfl:=Option.some.inj H;have p5:0≤(x5_1:Int):=of_decide_eq_true gq4;have q5:x5_1<(a0.size:Int):=of_decide_eq_true gq4;have hx5:=bt_at a0 x5_1;replace p5:=eq_true p5;replace q5:=eq_true q5;go_wp2;go_ret;exact⟨gq3,gq5⟩
    ·obtain⟨c6b0,c6b1⟩:=gEf c6;have H':=Aside0.mk H;clear H;have p5:0≤(x5_1:Int):=of_decide_eq_true gq4;have q5:x5_1<(a0.size:Int):=of_decide_eq_true gq4;have hx5:=bt_at a0 x5_1;replace p5:=eq_true p5;replace q5:=eq_true q5;go_wp2;go_roundg k1
     case measure=>have:=HK1.out;omega
     case rel=>exact⟨(wrap64 (x5_1+1)),gq3,H',⟨by have:=HK1.out;omega⟩,gq5⟩
   ·obtain rfl:=Option.some.inj H;go_wp2;go_ret;exact⟨gq3,gq5⟩

def spec_l1tchar.f (k:Nat) (a0:Int):Option (Bool):=(spec_l1lower.f a0).bind fun t162=>(if t162≥97 then(if t162≤122 then(some true) else((spec_l1digit.f a0).bind fun t163=>(if t163=true then(some true) else(if a0=96 then(some true) else((spec_l1has.f k (⟨#[33,35,36,37,38,39,42,43,45,46,94,95,124,126]⟩:ByteArray) a0).bind fun t164=>(some t164)))))) else((spec_l1digit.f a0).bind fun t165=>(if t165=true then(some true) else(if a0=96 then(some true) else((spec_l1has.f k (⟨#[33,35,36,37,38,39,42,43,45,46,94,95,124,126]⟩:ByteArray) a0).bind fun t166=>(some t166))))))
theorem spec_l1tchar.mono : ∀ a0 k,LeO (spec_l1tchar.f k a0) (spec_l1tchar.f (k+1) a0):=by
 intro a0 k
 unfold spec_l1tchar.f
 repeat' first|(with_reducible first|exact spec_l1has.mono ..|exact LeO.refl ..|exact LeO.none ..|refine LeO.ite ?_ ?_|refine LeO.bind ?_ (fun _=>?_))
set_option maxHeartbeats 8000000 in
set_option maxRecDepth 100000 in
theorem spec_l1tchar.calls (k:Nat) (a0:Int) (r:Bool) (w:World) (h:spec_l1tchar.f k a0=some r) :
  Calls Tryz.prog 102 #[.int .u8 a0] w fun e w'=>e = .returned (.bool r)∧Drawn0 w w':=by
 have H:=h;clear h;unfold spec_l1tchar.f at H;replace H:=gD H;obtain⟨t162,A2,H⟩:=H;replace H:=gI H;rcases H with⟨c3,-,-,H⟩|⟨c3,-,-,H⟩
 ·have c3b0:decide (97≤t162)=true:=decide_eq_true c3;clear c3;replace H:=gI H;rcases H with⟨-,c4b0,-,H⟩|⟨-,c4b0,-,H⟩
  ·obtain rfl:=Option.some.inj H;go_enter Tryz.func102,Tryz.ntmps102;go_wp2_with(first|((with_reducible refine gate_callee (f:=121) rfl ?_);refine goesL_ (some 5) rfl rfl Tryz.func121 (by kernel_rfl) rfl #[.int .u8 a0] rfl gq0 ?_;(with_reducible refine(spec_l1lower.calls a0 t162 _ A2.out).mono ?_);rintro e w' ⟨rfl,⟨nd,rfl⟩⟩;refine⟨_,rfl,?_⟩));go_ret;exact⟨gq3,gq5⟩
  ·replace H:=gD H;obtain⟨t163,A5,H⟩:=H;replace H:=gB H;rcases H with⟨rfl,H⟩|⟨rfl,H⟩
   ·obtain rfl:=Option.some.inj H;go_enter Tryz.func102,Tryz.ntmps102;go_wp2_with(first|((with_reducible refine gate_callee (f:=121) rfl ?_);refine goesL_ (some 5) rfl rfl Tryz.func121 (by kernel_rfl) rfl #[.int .u8 a0] rfl gq0 ?_;(with_reducible refine(spec_l1lower.calls a0 t162 _ A2.out).mono ?_);rintro e w' ⟨rfl,⟨nd,rfl⟩⟩;refine⟨_,rfl,?_⟩)|(go_at_call 63;(with_reducible refine(spec_l1digit.calls a0 true _ A5.out).mono ?_);rintro e w' ⟨rfl,⟨nd,rfl⟩⟩));go_ret;exact⟨gq3,gq5⟩
   ·replace H:=gI H;rcases H with⟨c7,-,-,H⟩|⟨c7,-,-,H⟩
    ·obtain⟨c7b0,c7b1⟩:=gEt c7;clear c7;obtain rfl:=Option.some.inj H;go_enter Tryz.func102,Tryz.ntmps102;go_wp2_with(first|((with_reducible refine gate_callee (f:=121) rfl ?_);refine goesL_ (some 5) rfl rfl Tryz.func121 (by kernel_rfl) rfl #[.int .u8 a0] rfl gq0 ?_;(with_reducible refine(spec_l1lower.calls a0 t162 _ A2.out).mono ?_);rintro e w' ⟨rfl,⟨nd,rfl⟩⟩;refine⟨_,rfl,?_⟩)|(go_at_call 63;(with_reducible refine(spec_l1digit.calls a0 false _ A5.out).mono ?_);rintro e w' ⟨rfl,⟨nd,rfl⟩⟩));go_ret;exact⟨gq3,gq5⟩
    ·obtain⟨c7b0,c7b1⟩:=gEf c7;replace H:=gD H;obtain⟨t164,A8,H⟩:=H;obtain rfl:=Option.some.inj H;go_enter Tryz.func102,Tryz.ntmps102;go_wp2_with(first|((with_reducible refine gate_callee (f:=121) rfl ?_);refine goesL_ (some 5) rfl rfl Tryz.func121 (by kernel_rfl) rfl #[.int .u8 a0] rfl gq0 ?_;(with_reducible refine(spec_l1lower.calls a0 t162 _ A2.out).mono ?_);rintro e w' ⟨rfl,⟨nd,rfl⟩⟩;refine⟨_,rfl,?_⟩)|(go_at_call 63;(with_reducible refine(spec_l1digit.calls a0 false _ A5.out).mono ?_);rintro e w' ⟨rfl,⟨nd,rfl⟩⟩)|(go_at_call 136;(with_reducible refine(spec_l1has.calls k (⟨#[33,35,36,37,38,39,42,43,45,46,94,95,124,126]⟩:ByteArray) a0 t164 _ A8.out).mono ?_);rintro e w' ⟨rfl,⟨nd,rfl⟩⟩));go_ret;exact⟨gq3,gq5⟩
 ·have c3b0:decide (97≤t162)=false:=decide_eq_false c3;clear c3;replace H:=gD H;obtain⟨t165,A9,H⟩:=H;replace H:=gB H;rcases H with⟨rfl,H⟩|⟨rfl,H⟩
  ·obtain rfl:=Option.some.inj H;go_enter Tryz.func102,Tryz.ntmps102;go_wp2_with(first|((with_reducible refine gate_callee (f:=121) rfl ?_);refine goesL_ (some 5) rfl rfl Tryz.func121 (by kernel_rfl) rfl #[.int .u8 a0] rfl gq0 ?_;(with_reducible refine(spec_l1lower.calls a0 t162 _ A2.out).mono ?_);rintro e w' ⟨rfl,⟨nd,rfl⟩⟩;refine⟨_,rfl,?_⟩)|(go_at_call 63;(with_reducible refine(spec_l1digit.calls a0 true _ A9.out).mono ?_);rintro e w' ⟨rfl,⟨nd,rfl⟩⟩));go_ret;exact⟨gq3,gq5⟩
  ·replace H:=gI H;rcases H with⟨c11,-,-,H⟩|⟨c11,-,-,H⟩
   ·obtain⟨c11b0,c11b1⟩:=gEt c11;clear c11;obtain rfl:=Option.some.inj H;go_enter Tryz.func102,Tryz.ntmps102;go_wp2_with(first|((with_reducible refine gate_callee (f:=121) rfl ?_);refine goesL_ (some 5) rfl rfl Tryz.func121 (by kernel_rfl) rfl #[.int .u8 a0] rfl gq0 ?_;(with_reducible refine(spec_l1lower.calls a0 t162 _ A2.out).mono ?_);rintro e w' ⟨rfl,⟨nd,rfl⟩⟩;refine⟨_,rfl,?_⟩)|(go_at_call 63;(with_reducible refine(spec_l1digit.calls a0 false _ A9.out).mono ?_);rintro e w' ⟨rfl,⟨nd,rfl⟩⟩));go_ret;exact⟨gq3,gq5⟩
   ·obtain⟨c11b0,c11b1⟩:=gEf c11;replace H:=gD H;obtain⟨t166,A12,H⟩:=H;obtain rfl:=Option.some.inj H;go_enter Tryz.func102,Tryz.ntmps102;go_wp2_with(first|((with_reducible refine gate_callee (f:=121) rfl ?_);refine goesL_ (some 5) rfl rfl Tryz.func121 (by kernel_rfl) rfl #[.int .u8 a0] rfl gq0 ?_;(with_reducible refine(spec_l1lower.calls a0 t162 _ A2.out).mono ?_);rintro e w' ⟨rfl,⟨nd,rfl⟩⟩;refine⟨_,rfl,?_⟩)|(go_at_call 63;(with_reducible refine(spec_l1digit.calls a0 false _ A9.out).mono ?_);rintro e w' ⟨rfl,⟨nd,rfl⟩⟩)|(go_at_call 136;(with_reducible refine(spec_l1has.calls k (⟨#[33,35,36,37,38,39,42,43,45,46,94,95,124,126]⟩:ByteArray) a0 t166 _ A12.out).mono ?_);rintro e w' ⟨rfl,⟨nd,rfl⟩⟩));go_ret;exact⟨gq3,gq5⟩


mutual
def spec_Token.j0 : Nat→ByteArray→Bool→Option (Bool)
 |0,_,_=>none
 |k+1,x0,x11=>if x11=true then(some false) else(spec_Token.l0 k x0 0)
def spec_Token.l0 : Nat→ByteArray→Int→Option (Bool)
 |0,_,_=>none
 |k+1,x0,x3=>if x3<(x0.size:Int) then(if 0≤x3 then((spec_l1tchar.f k (bt x0 x3)).bind fun t167=>(if t167=true then(spec_Token.l0 k x0 (wrap64 (x3+1))) else(some false))) else(none)) else(some true)
end
def spec_Token.f (k:Nat) (a0:ByteArray):Option (Bool):=if(a0.size:Int)=0 then(spec_Token.j0 k a0 true) else(spec_Token.j0 k a0 (decide ((a0.size:Int)>4000)))
theorem spec_Token.mono_l : ∀ k,(∀ y0 y1,LeO (spec_Token.j0 k y0 y1) (spec_Token.j0 (k+1) y0 y1))∧(∀ y0 y1,LeO (spec_Token.l0 k y0 y1) (spec_Token.l0 (k+1) y0 y1))
 |0=>⟨fun _ _ r h=>by simp[spec_Token.j0] at h,fun _ _ r h=>by simp[spec_Token.l0] at h⟩
 |k+1=>by
  obtain⟨ih0,ih1⟩:=spec_Token.mono_l k
  refine⟨?_,?_⟩
  ·intro y0 y1
   unfold spec_Token.j0
   repeat' first|(with_reducible first|exact ih0 ..|exact ih1 ..|exact spec_l1tchar.mono ..|exact LeO.refl ..|exact LeO.none ..|refine LeO.ite ?_ ?_|refine LeO.bind ?_ (fun _=>?_))|exact ih0 ..|exact ih1 ..
  ·intro y0 y1
   unfold spec_Token.l0
   repeat' first|(with_reducible first|exact ih0 ..|exact ih1 ..|exact spec_l1tchar.mono ..|exact LeO.refl ..|exact LeO.none ..|refine LeO.ite ?_ ?_|refine LeO.bind ?_ (fun _=>?_))|exact ih0 ..|exact ih1 ..
theorem spec_Token.mono : ∀ a0 k,LeO (spec_Token.f k a0) (spec_Token.f (k+1) a0):=by
 intro a0 k
 obtain⟨ih0,ih1⟩:=spec_Token.mono_l k
 unfold spec_Token.f
 repeat' first|(with_reducible first|exact ih0 ..|exact ih1 ..|exact spec_l1tchar.mono ..|exact LeO.refl ..|exact LeO.none ..|refine LeO.ite ?_ ?_|refine LeO.bind ?_ (fun _=>?_))|exact ih0 ..|exact ih1 ..
set_option maxHeartbeats 8000000 in
set_option maxRecDepth 100000 in
theorem spec_Token.calls (k:Nat) (a0:ByteArray) (r:Bool) (w:World) (h:spec_Token.f k a0=some r) :
  Calls Tryz.prog 66 #[.string a0] w fun e w'=>e = .returned (.bool r)∧Drawn0 w w':=by
 have H:=h;clear h;unfold spec_Token.f at H;have HC2:=Aside0.mk H;clear H;go_enter Tryz.func66,Tryz.ntmps66;go_upto_region 1 with(fail);go_cut [11] (fun v11 wc=>∃(kq:Nat) (x11_1:Bool),v11 = .bool x11_1∧Aside0 (spec_Token.j0 kq a0 x11_1=some r)∧Aside0 (kq≤k)∧Drawn0 w wc)
 case first=>
  have H:=HC2.out;clear HC2;replace H:=gI H;rcases H with⟨c3,-,-,H⟩|⟨c3,-,-,H⟩
  ·obtain⟨c3b0,c3b1⟩:=gEt c3;clear c3;(first|rw[c3b0]|(simp only[i64_w,i32_w];rw[c3b0])|skip)
   have H':=Aside0.mk H;clear H;go_wp2;go_meet
   case rel=>exact⟨_,(true),gq3,H',⟨gq9⟩,gq5⟩
  ·obtain⟨c3b0,c3b1⟩:=gEf c3;(first|rw[c3b0]|(simp only[i64_w,i32_w];rw[c3b0])|skip)
   have H':=Aside0.mk H;clear H;go_wp2;go_meet
   case rel=>exact⟨_,(decide ((a0.size:Int)>4000)),gq3,H',⟨gq9⟩,gq5⟩
 case rest=>
  clear HC2;obtain⟨kq,x11_1,rfl,HA,HJ1,⟨mc1,rfl⟩⟩:=hcut;cases kq with
  |zero=>exact absurd HA.out (by simp[spec_Token.j0])
  |succ kj1=>
   have H:=HA.out;clear HA;simp only[spec_Token.j0] at H;replace H:=gB H;rcases H with⟨rfl,H⟩|⟨rfl,H⟩
   ·obtain rfl:=Option.some.inj H;go_wp2;go_ret;exact⟨gq3,gq5⟩
   ·have H':=Aside0.mk H;clear H;go_wp2;go_loopg [3] kj1 (fun kq v3 w'=>∃(x3_2:Int),v3 = .int .i64 x3_2∧Aside0 (spec_Token.l0 kq a0 x3_2=some r)∧Aside0 (kq≤kj1)∧Drawn0 w w')
    case atStart=>exact⟨(0),gq3,H',⟨Nat.le_refl _⟩,gq5⟩
    case round=>
     clear H';obtain⟨x3_2,rfl,HA,HK2,⟨m2,rfl⟩⟩:=hrel;cases gk with
     |zero=>exact absurd HA.out (by simp[spec_Token.l0])
     |succ k2=>
      have H:=HA.out;clear HA;simp only[spec_Token.l0] at H;replace H:=gI H;rcases H with⟨-,c5b0,-,H⟩|⟨-,c5b0,-,H⟩
      ·replace H:=gN H;obtain⟨-,c6b0,-,H⟩:=H;replace H:=gD H;obtain⟨t167,A8,H⟩:=H;replace H:=gB H;rcases H with⟨rfl,H⟩|⟨rfl,H⟩
       ·have H':=Aside0.mk H;clear H;have p7:0≤(x3_2:Int):=of_decide_eq_true gq4;have q7:x3_2<(a0.size:Int):=of_decide_eq_true gq4;have hx7:=bt_at a0 x3_2;replace p7:=eq_true p7;replace q7:=eq_true q7;go_wp2_with(first|((with_reducible refine gate_callee (f:=102) rfl ?_);refine goesL_ (some 21) rfl rfl Tryz.func102 (by kernel_rfl) rfl #[.int .u8 (bt a0 x3_2)] rfl gq0 ?_;(with_reducible refine(spec_l1tchar.calls k2 (bt a0 x3_2) true _ A8.out).mono ?_);rintro e w' ⟨rfl,⟨nd,rfl⟩⟩;refine⟨_,rfl,?_⟩));go_roundg k2
        case measure=>have:=HJ1.out;have:=HK2.out;omega
        case rel=>exact⟨(wrap64 (x3_2+1)),gq3,H',⟨gq61⟩,gq5⟩
       ·obtain rfl:=Option.some.inj H;have p7:0≤(x3_2:Int):=of_decide_eq_true gq4;have q7:x3_2<(a0.size:Int):=of_decide_eq_true gq4;have hx7:=bt_at a0 x3_2;replace p7:=eq_true p7;replace q7:=eq_true q7;go_wp2_with(first|((with_reducible refine gate_callee (f:=102) rfl ?_);refine goesL_ (some 21) rfl rfl Tryz.func102 (by kernel_rfl) rfl #[.int .u8 (bt a0 x3_2)] rfl gq0 ?_;(with_reducible refine(spec_l1tchar.calls k2 (bt a0 x3_2) false _ A8.out).mono ?_);rintro e w' ⟨rfl,⟨nd,rfl⟩⟩;refine⟨_,rfl,?_⟩));go_ret;exact⟨gq3,gq5⟩
      ·obtain rfl:=Option.some.inj H;go_wp2;go_ret;exact⟨gq3,gq5⟩

def spec_l1white.f (a0:Int):Option (Bool):=if a0=32 then(some true) else(some (a0==9))
set_option maxHeartbeats 8000000 in
set_option maxRecDepth 100000 in
theorem spec_l1white.calls (a0:Int) (r:Bool) (w:World) (h:spec_l1white.f a0=some r) :
  Calls Tryz.prog 68 #[.int .u8 a0] w fun e w'=>e = .returned (.bool r)∧Drawn0 w w':=by
 have H:=h;clear h;unfold spec_l1white.f at H;replace H:=gI H;rcases H with⟨c2,-,-,H⟩|⟨c2,-,-,H⟩
 ·obtain⟨c2b0,c2b1⟩:=gEt c2;clear c2;obtain rfl:=Option.some.inj H;go_enter Tryz.func68,Tryz.ntmps68;go_wp2;go_ret;exact⟨gq3,gq5⟩
 ·obtain⟨c2b0,c2b1⟩:=gEf c2;obtain rfl:=Option.some.inj H;go_enter Tryz.func68,Tryz.ntmps68;go_wp2;go_ret;exact⟨gq3,gq5⟩


mutual
def spec_Trim.j1 : Nat→ByteArray→Int→Option (ByteArray)
 |0,_,_=>none
 |k+1,x0,x3=>spec_Trim.l1 k x0 x3 (x0.size:Int)
def spec_Trim.l1 : Nat→ByteArray→Int→Int→Option (ByteArray)
 |0,_,_,_=>none
 |k+1,x0,x3,x4=>if x4>x3 then(if 0≤(wrap64 (x4-1)) then(if(wrap64 (x4-1))<(x0.size:Int) then((spec_l1white.f (bt x0 (wrap64 (x4-1)))).bind fun t208=>(if t208=true then(spec_Trim.l1 k x0 x3 (wrap64 (x4-1))) else(if 0≤x3 then(if x3≤x4 then(if x4≤(x0.size:Int) then(some (x0.extract (x3:Int).toNat (x4:Int).toNat)) else(none)) else(none)) else(none)))) else(none)) else(none)) else(if 0≤x3 then(if x3≤x4 then(if x4≤(x0.size:Int) then(some (x0.extract (x3:Int).toNat (x4:Int).toNat)) else(none)) else(none)) else(none))
def spec_Trim.l0 : Nat→ByteArray→Int→Option (ByteArray)
 |0,_,_=>none
 |k+1,x0,x3=>if x3<(x0.size:Int) then(if 0≤x3 then((spec_l1white.f (bt x0 x3)).bind fun t207=>(if t207=true then(spec_Trim.l0 k x0 (wrap64 (x3+1))) else(spec_Trim.j1 k x0 x3))) else(none)) else(spec_Trim.j1 k x0 x3)
end
def spec_Trim.f (k:Nat) (a0:ByteArray):Option (ByteArray):=spec_Trim.l0 k a0 0
theorem spec_Trim.mono_l : ∀ k,(∀ y0 y1,LeO (spec_Trim.j1 k y0 y1) (spec_Trim.j1 (k+1) y0 y1))∧(∀ y0 y1 y2,LeO (spec_Trim.l1 k y0 y1 y2) (spec_Trim.l1 (k+1) y0 y1 y2))∧(∀ y0 y1,LeO (spec_Trim.l0 k y0 y1) (spec_Trim.l0 (k+1) y0 y1))
 |0=>⟨fun _ _ r h=>by simp[spec_Trim.j1] at h,fun _ _ _ r h=>by simp[spec_Trim.l1] at h,fun _ _ r h=>by simp[spec_Trim.l0] at h⟩
 |k+1=>by
  obtain⟨ih0,ih1,ih2⟩:=spec_Trim.mono_l k
  refine⟨?_,?_,?_⟩
  ·intro y0 y1
   unfold spec_Trim.j1
   repeat' first|(with_reducible first|exact ih0 ..|exact ih1 ..|exact ih2 ..|exact LeO.refl ..|exact LeO.none ..|refine LeO.ite ?_ ?_|refine LeO.bind ?_ (fun _=>?_))|exact ih0 ..|exact ih1 ..|exact ih2 ..
  ·intro y0 y1 y2
   unfold spec_Trim.l1
   repeat' first|(with_reducible first|exact ih0 ..|exact ih1 ..|exact ih2 ..|exact LeO.refl ..|exact LeO.none ..|refine LeO.ite ?_ ?_|refine LeO.bind ?_ (fun _=>?_))|exact ih0 ..|exact ih1 ..|exact ih2 ..
  ·intro y0 y1
   unfold spec_Trim.l0
   repeat' first|(with_reducible first|exact ih0 ..|exact ih1 ..|exact ih2 ..|exact LeO.refl ..|exact LeO.none ..|refine LeO.ite ?_ ?_|refine LeO.bind ?_ (fun _=>?_))|exact ih0 ..|exact ih1 ..|exact ih2 ..
theorem spec_Trim.mono : ∀ a0 k,LeO (spec_Trim.f k a0) (spec_Trim.f (k+1) a0):=by
 intro a0 k
 obtain⟨ih0,ih1,ih2⟩:=spec_Trim.mono_l k
 unfold spec_Trim.f
 repeat' first|(with_reducible first|exact ih0 ..|exact ih1 ..|exact ih2 ..|exact LeO.refl ..|exact LeO.none ..|refine LeO.ite ?_ ?_|refine LeO.bind ?_ (fun _=>?_))|exact ih0 ..|exact ih1 ..|exact ih2 ..
set_option maxHeartbeats 8000000 in
set_option maxRecDepth 100000 in
theorem spec_Trim.calls (k:Nat) (a0 r:ByteArray) (w:World) (h:spec_Trim.f k a0=some r) :
  Calls Tryz.prog 31 #[.string a0] w fun e w'=>e = .returned (.string r)∧Drawn0 w w':=by
 have H:=h;clear h;unfold spec_Trim.f at H;have HC2:=Aside0.mk H;clear H;go_enter Tryz.func31,Tryz.ntmps31;go_upto_block 0 with(fail);go_cut [3] (fun v3 wc=>∃(kq:Nat) (x3_1:Int),v3 = .int .i64 x3_1∧Aside0 (spec_Trim.j1 kq a0 x3_1=some r)∧Aside0 (kq≤k)∧Drawn0 w wc)
 case first=>
  have H:=HC2.out;clear HC2;have H':=Aside0.mk H;clear H;go_wp2;go_loopg [3] k (fun kq v3 w'=>∃(x3_1:Int),v3 = .int .i64 x3_1∧Aside0 (spec_Trim.l0 kq a0 x3_1=some r)∧Aside0 (kq≤k)∧Drawn0 w w')
  case atStart=>exact⟨(0),gq3,H',⟨Nat.le_refl _⟩,gq5⟩
  case round=>
   clear H';obtain⟨x3_1,rfl,HA,HK1,⟨m1,rfl⟩⟩:=hrel;cases gk with
   |zero=>exact absurd HA.out (by simp[spec_Trim.l0])
   |succ k1=>
    have H:=HA.out;clear HA;simp only[spec_Trim.l0] at H;replace H:=gI H;rcases H with⟨-,c3b0,-,H⟩|⟨-,c3b0,-,H⟩
    ·(first|rw[c3b0]|(simp only[i64_w,i32_w];rw[c3b0])|skip)
     replace H:=gN H;obtain⟨-,c4b0,-,H⟩:=H;replace H:=gD H;obtain⟨t207,A6,H⟩:=H;replace H:=gB H;rcases H with⟨rfl,H⟩|⟨rfl,H⟩
     ·have H':=Aside0.mk H;clear H;have p5:0≤(x3_1:Int):=of_decide_eq_true gq4;have q5:x3_1<(a0.size:Int):=of_decide_eq_true gq4;have hx5:=bt_at a0 x3_1;replace p5:=eq_true p5;replace q5:=eq_true q5;go_wp2_with(first|(go_at_call 68;(with_reducible refine(spec_l1white.calls (bt a0 x3_1) true _ A6.out).mono ?_);rintro e w' ⟨rfl,⟨nd,rfl⟩⟩));go_roundg k1
      case measure=>have:=HK1.out;omega
      case rel=>exact⟨(wrap64 (x3_1+1)),gq3,H',⟨by have:=HK1.out;omega⟩,gq5⟩
     ·have H':=Aside0.mk H;clear H;have p5:0≤(x3_1:Int):=of_decide_eq_true gq4;have q5:x3_1<(a0.size:Int):=of_decide_eq_true gq4;have hx5:=bt_at a0 x3_1;replace p5:=eq_true p5;replace q5:=eq_true q5;go_wp2_with(first|(go_at_call 68;(with_reducible refine(spec_l1white.calls (bt a0 x3_1) false _ A6.out).mono ?_);rintro e w' ⟨rfl,⟨nd,rfl⟩⟩));go_meet
      case rel=>exact⟨_,(x3_1),gq3,H',⟨gq17⟩,gq5⟩
    ·(first|rw[c3b0]|(simp only[i64_w,i32_w];rw[c3b0])|skip)
     have H':=Aside0.mk H;clear H;go_wp2;go_meet
     case rel=>exact⟨_,(x3_1),gq3,H',⟨gq17⟩,gq5⟩
 case rest=>
  clear HC2;obtain⟨kq,x3_1,rfl,HA,HJ1,⟨mc1,rfl⟩⟩:=hcut;cases kq with
  |zero=>exact absurd HA.out (by simp[spec_Trim.j1])
  |succ kj1=>
   have H:=HA.out;clear HA;simp only[spec_Trim.j1] at H;have H':=Aside0.mk H;clear H;go_wp2;go_loopg [4] kj1 (fun kq v4 w'=>∃(x4_2:Int),v4 = .int .i64 x4_2∧Aside0 (spec_Trim.l1 kq a0 x3_1 x4_2=some r)∧Aside0 (kq≤kj1)∧Drawn0 w w')
   case atStart=>exact⟨((a0.size:Int)),gq3,H',⟨Nat.le_refl _⟩,gq5⟩
   case round=>
    clear H';obtain⟨x4_2,rfl,HA,HK2,⟨m2,rfl⟩⟩:=hrel;cases gk with
    |zero=>exact absurd HA.out (by simp[spec_Trim.l1])
    |succ k2=>
     have H:=HA.out;clear HA;simp only[spec_Trim.l1] at H;replace H:=gI H;rcases H with⟨c8,-,-,H⟩|⟨c8,-,-,H⟩
     ·have c8b0:decide (x3_1<x4_2)=true:=decide_eq_true c8;clear c8;obtain⟨ji9,hji9⟩:∃ j_:Int,(wrap64 (x4_2-1))=j_:=⟨_,rfl⟩;replace H:(if 0≤(ji9) then(if(ji9)<(a0.size:Int) then((spec_l1white.f (bt a0 (ji9))).bind fun t208=>(if t208=true then(spec_Trim.l1 k2 a0 x3_1 ji9) else(if 0≤x3_1 then(if x3_1≤x4_2 then(if x4_2≤(a0.size:Int) then(some (a0.extract (x3_1:Int).toNat (x4_2:Int).toNat)) else(none)) else(none)) else(none)))) else(none)) else(none))=some r:=by first|(rw[hji9] at H;exact H)|(simp only[hji9] at H ⊢;exact H)
      have hji9w:(IntKind.i64.wrap (x4_2-1))=ji9:=(i64_w _).trans hji9;replace H:=gN H;obtain⟨-,c10b0,-,H⟩:=H;replace H:=gN H;obtain⟨-,c11b0,-,H⟩:=H;replace H:=gD H;obtain⟨t208,A13,H⟩:=H;replace H:=gB H;rcases H with⟨rfl,H⟩|⟨rfl,H⟩
      ·have H':=Aside0.mk H;clear H;have p12:0≤((ji9):Int):=of_decide_eq_true gq4;have q12:(ji9)<(a0.size:Int):=of_decide_eq_true gq4;have hx12:=bt_at a0 (ji9);replace p12:=eq_true p12;replace q12:=eq_true q12;go_wp2_with(first|(go_at_call 68;(with_reducible refine(spec_l1white.calls (bt a0 (ji9)) true _ A13.out).mono ?_);rintro e w' ⟨rfl,⟨nd,rfl⟩⟩));go_roundg k2
       case measure=>have:=HJ1.out;have:=HK2.out;omega
       case rel=>exact⟨(ji9),(by first|rfl|(simp;done)|(simp only[← hji9] <;> (first|rfl|simp))|(simp[*];done)),H',⟨gq61⟩,gq5⟩
      ·replace H:=gN H;obtain⟨-,c15b1,c15b0,H⟩:=H;replace H:=gN H;obtain⟨-,c16b1,c16b0,H⟩:=H;replace H:=gN H;obtain⟨-,c17b1,c17b0,H⟩:=H;obtain rfl:=Option.some.inj H;have p12:0≤((ji9):Int):=of_decide_eq_true gq4;have q12:(ji9)<(a0.size:Int):=of_decide_eq_true gq4;have hx12:=bt_at a0 (ji9);replace p12:=eq_true p12;replace q12:=eq_true q12;go_wp2_with(first|(go_at_call 68;(with_reducible refine(spec_l1white.calls (bt a0 (ji9)) false _ A13.out).mono ?_);rintro e w' ⟨rfl,⟨nd,rfl⟩⟩));go_ret;exact⟨by first|rfl|(simp;done)|(simp only[← hji9] <;> (first|rfl|simp))|(simp[*];done),gq5⟩
     ·have c8b0:decide (x3_1<x4_2)=false:=decide_eq_false c8;clear c8;replace H:=gI H;rcases H with⟨-,c18b1,c18b0,H⟩|⟨c18,-,-,H⟩
      ·replace H:=gN H;obtain⟨-,c19b1,c19b0,H⟩:=H;replace H:=gN H;obtain⟨-,c20b1,c20b0,H⟩:=H;obtain rfl:=Option.some.inj H;go_wp2;go_ret;exact⟨gq3,gq5⟩
      ·exact absurd H (by simp)

theorem l1lower_low (c:Int) (h0:0≤c) (h1:c≤255):spec_l1lower.f c=some (low c):=by
 unfold spec_l1lower.f low
 by_cases h:c≥65
 ·rw[if_pos h]
  by_cases h2:c≤90
  ·rw[if_pos h2,if_pos ⟨by omega,h2⟩];congr 1;omega
  ·rw[if_neg h2,if_neg (by omega)]
 ·rw[if_neg h,if_neg (by omega)]
def spec_Fold.f (a0:ByteArray):Option (ByteArray):=if a0.size≤9223372036854775807 then some (foldS a0) else none
set_option maxHeartbeats 8000000 in
set_option maxRecDepth 100000 in
theorem spec_Fold.calls (a0 r:ByteArray) (w:World) (h:spec_Fold.f a0=some r) :
  Calls Tryz.prog 86 #[.string a0] w fun e w'=>e = .returned (.string r)∧Below w.heap.size w w':=by
 unfold spec_Fold.f at h;by_cases hs:a0.size≤9223372036854775807
 case neg=>rw[if_neg hs] at h;cases h
 rw[if_pos hs] at h;obtain rfl:=Option.some.inj h;clear h;have kb:=fun W=>print_bytes (P:=Tryz.prog) 9 87 5 Tryz.underlying9 Tryz.underlying87 Tryz.underlying5 a0 W;have hrow0:BRow (Lib.bytesWorld w 5 a0) w.heap.size 5 (lowTo a0 0):=by rw[lowTo_zero];exact BRow.new w 5 a0
 have hbel0:Below w.heap.size w (Lib.bytesWorld w 5 a0):=bytes_below (Below.refl _ _) (Nat.le_refl _) 5 a0;go_enter Tryz.func86,Tryz.ntmps86;go_wp2;clear kb;go_loopw [4] (fun i wr=>∃ k:Nat,k≤a0.size∧i = .int .i64 k∧BRow wr w.heap.size 5 (lowTo a0 k)∧Below w.heap.size w wr) (fun i _=>a0.size-(intOf i).toNat)
 case atStart=>exact⟨0,Nat.zero_le _,rfl,hrow0,hbel0⟩
 case round=>
  obtain⟨k,hk,rfl,hrow,hbel⟩:=hrel;clear hrow0 hbel0;by_cases hlt:k<a0.size
  ·have hcell:=hrow.cell k (by rw[lowTo_length];exact hlt);rw[lowTo_at a0 k hlt] at hcell;have hfree:=hrow.free k (by rw[lowTo_length];exact hlt);have hr:=bt_range a0 (k:Int);have hl:=l1lower_low (bt a0 k) hr.1 hr.2;have Hrow:=Aside0.mk hrow;have Hbel:=Aside0.mk hbel;clear hrow hbel;go_wp2_with(go_at_call 121;refine(spec_l1lower.calls _ _ _ hl).mono ?_;rintro e w' ⟨rfl,⟨nd,rfl⟩⟩);exact⟨⟨k+1,by omega,by go_num,by rw[← lowTo_succ a0 k hlt];exact(Hrow.out.drewN nd).set k (by rw[lowTo_length];exact hlt) _,(below_drewN1 Hbel.out nd).setCell (Nat.le_refl _) _⟩,by simp[intOf];omega⟩
  ·obtain rfl:k=a0.size:=by omega
   have kc:=fun c=>BRow.str (P:=Tryz.prog) (src:=87) (dst:=9) hrow Tryz.underlying87 Tryz.underlying5 Tryz.underlying9 a0.size c (lowTo_length a0 _);rw[lowTo_all] at kc;have Hbel:=Aside0.mk hbel;clear hrow hbel;go_wp2;go_ret;exact⟨rfl,Hbel.out⟩


def spec_SameFold.f (a0:ByteArray) (a1:ByteArray):Option (Bool):=(spec_Fold.f a0).bind fun t648=>((spec_Fold.f a1).bind fun t649=>(some (t648.toList==t649.toList)))
set_option maxHeartbeats 8000000 in
set_option maxRecDepth 100000 in
theorem spec_SameFold.calls (a0 a1:ByteArray) (r:Bool) (w:World) (h:spec_SameFold.f a0 a1=some r) :
  Calls Tryz.prog 88 #[.string a0,.string a1] w fun e w'=>e = .returned (.bool r)∧Below w.heap.size w w':=by
 have HB:=Aside0.mk (Below.refl w.heap.size w);have H:=h;clear h;unfold spec_SameFold.f at H;replace H:=gD H;obtain⟨t648,A3,H⟩:=H;replace H:=gD H;obtain⟨t649,A4,H⟩:=H;obtain rfl:=Option.some.inj H;go_enter Tryz.func88,Tryz.ntmps88;go_wp2_with(first|((with_reducible refine gate_callee (f:=86) rfl ?_);refine goesL_ (some 6) rfl rfl Tryz.func86 (by kernel_rfl) rfl #[.string a0] rfl gq0 ?_;(with_reducible refine(spec_Fold.calls a0 t648 _ A3.out).mono ?_);rintro e w5 ⟨rfl,hb⟩;refine⟨_,rfl,?_⟩;replace HB:=beA hb;(try clear hb))|((with_reducible refine gate_callee (f:=86) rfl ?_);refine goesL_ (some 8) rfl rfl Tryz.func86 (by kernel_rfl) rfl #[.string a1] rfl gq0 ?_;(with_reducible refine(spec_Fold.calls a1 t649 _ A4.out).mono ?_);rintro e w6 ⟨rfl,hb⟩;refine⟨_,rfl,?_⟩;replace HB:=beA hb;(try clear hb)));go_ret;exact⟨gq1,gBe⟩

end Go.Proofs.YtonmpnghlopnoaaGreatDoor.P
