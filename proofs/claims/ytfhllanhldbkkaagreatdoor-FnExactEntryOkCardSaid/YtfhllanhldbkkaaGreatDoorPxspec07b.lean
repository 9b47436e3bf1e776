import Derived.Test.YtfhllanhldbkkaaGreatDoorPx0
import Derived.Test.YtfhllanhldbkkaaGreatDoorPxspec01a
import Derived.Test.YtfhllanhldbkkaaGreatDoorPxspec05b
import Derived.Test.YtfhllanhldbkkaaGreatDoorWC
namespace Go.Proofs.YtfhllanhldbkkaaGreatDoor.P
open Go.RowKit Go.Proofs.YtfhllanhldbkkaaGreatDoorW.PrintWords Go.Proofs.YtfhllanhldbkkaaGreatDoorW.PrintLast Go.Proofs.YtfhllanhldbkkaaGreatDoorW.PrintMore
attribute [local go_sem] max2_int min2_int max_two min_two max_three min_three max_four min_four   -- for this text's walks alone
set_option linter.unusedVariables false
set_option linter.unusedSimpArgs false

mutual
def spec_l7percent.l0 : Nat→ByteArray→List Int→Int→Option (ByteArray)
 |0,_,_,_=>none
 |k+1,x0,x3,x4=>if x4<(x0.size:Int) then(if 0≤x4 then(if(bt x0 x4)=37 then(spec_l7percent.j1 k x0 x3 x4 (decide ((wrap64 (x4+2))≥(x0.size:Int)))) else(spec_l7percent.j1 k x0 x3 x4 true)) else(none)) else(some (strOfNums x3))
def spec_l7percent.j1 : Nat→ByteArray→List Int→Int→Bool→Option (ByteArray)
 |0,_,_,_,_=>none
 |k+1,x0,x3,x4,x23=>if x23=true then(if 0≤x4 then(if x4<(x0.size:Int) then(if x3.length<140737488355328 then(spec_l7percent.l0 k x0 (x3 ++ [bt x0 x4]) (wrap64 (x4+1))) else(none)) else(none)) else(none)) else(if 0≤(wrap64 (x4+1)) then(if(wrap64 (x4+1))≤(wrap64 (x4+3)) then(if(wrap64 (x4+3))≤(x0.size:Int) then((spec_ReadHex.f k (x0.extract ((wrap64 (x4+1)):Int).toNat ((wrap64 (x4+3)):Int).toNat)).bind fun bt244=>(if bt244.2=true then((spec_l7free.f k ((bt244.1)%256)).bind fun t246=>(if t246=true then(if x3.length<140737488355328 then(spec_l7percent.l0 k x0 (x3 ++ [(bt244.1)%256]) (wrap64 ((wrap64 (x4+2))+1))) else(none)) else(if(wrap64 (x4+1))<(x0.size:Int) then((spec_l7upper.f (bt x0 (wrap64 (x4+1)))).bind fun t250=>(if 0≤(wrap64 (x4+2)) then(if(wrap64 (x4+2))<(x0.size:Int) then((spec_l7upper.f (bt x0 (wrap64 (x4+2)))).bind fun t251=>((some (([37,t250,t251]:List Int):List Int)).bind fun y252=>(if x3.length+y252.length<140737488355328 then(spec_l7percent.l0 k x0 (x3++y252) (wrap64 ((wrap64 (x4+2))+1))) else(none)))) else(none)) else(none))) else(none)))) else(if 0≤x4 then(if x4<(x0.size:Int) then(if x3.length<140737488355328 then(spec_l7percent.l0 k x0 (x3 ++ [bt x0 x4]) (wrap64 (x4+1))) else(none)) else(none)) else(none)))) else(none)) else(none)) else(none))
end
def spec_l7percent.f (k:Nat) (a0:ByteArray):Option (ByteArray):=spec_l7percent.l0 k a0 ([]:List Int) 0
def spec_l7percent.T8 : Bool×List (List Nat×List Nat):=(true,[([],[]),([],[]),([],[]),([2],[2]),([1,3],[1,3]),([4],[4]),([],[]),([],[]),([7],[7]),([6,8],[6,8]),([9,5],[9]),([5,10],[5,10]),([0,11,10],[0,11]),([12,12,0,1,2,3,4,5,6,7,8,9,10,11,12],[0,12])])
def spec_l7percent.B8 : List Nat:=[0,0,0,4,14,30,0,0,128,448,1022,2046,4095,8191]
theorem spec_l7percent.tab8 : rtab .any (opsOf Tryz.f182 8)=spec_l7percent.T8:=by kernel_rfl
theorem spec_l7percent.bits8 : waitsOk spec_l7percent.T8.2 spec_l7percent.B8=true:=by kernel_rfl
set_option maxHeartbeats 8000000 in
set_option maxRecDepth 100000 in
theorem spec_l7percent.calls (k:Nat) (a0:ByteArray) (r:ByteArray) (w:World) (h:spec_l7percent.f k a0=some r) :
  Calls Tryz.prog 182 #[.string a0] w fun e w'=>e = .returned (.string r)∧Below w.heap.size w w':=by
 have HB:=Aside0.mk (Below.refl w.heap.size w)
 have H:=h
 clear h
 unfold spec_l7percent.f at H
 have H':=Aside0.mk H
 clear H
 go_enter Tryz.func182,Tryz.ntmps182
 go_wp2
 go_loopg [3,4] k (fun kq v3 v4 w'=>∃(x3_1:List Int) (x4_1:Int),v4 = .int .i64 x4_1∧Aside0 (spec_l7percent.l0 kq a0 x3_1 x4_1=some r)∧Aside0 (kq≤k)∧Aside0 (Kd.R (Kd.int .u8) 5 w' w.heap.size (fun _=>True) v3 x3_1)∧Aside0 (Below w.heap.size w w'))
 case atStart=>exact⟨(([]:List Int)),(0),gq4,H',⟨Nat.le_refl _⟩,⟨gq11⟩,⟨gBe⟩⟩
 case round=>
  clear H'
  obtain⟨x3_1,x4_1,rfl,HA,HK1,HO_3,HB⟩:=hrel
  cases gk with
  |zero=>exact absurd HA.out (by simp[spec_l7percent.l0])
  |succ k1=>
   have H:=HA.out
   clear HA
   simp only[spec_l7percent.l0] at H
   replace H:=gI H
   rcases H with⟨-,c2b0,-,H⟩|⟨-,c2b0,-,H⟩
   ·have HC3:=Aside0.mk H
    clear H
    go_upto_region 5 with(fail)
    go_cut [23] (fun v23 wc=>∃(kq:Nat) (x23_2:Bool),v23 = .bool x23_2∧Aside0 (spec_l7percent.j1 kq a0 x3_1 x4_1 x23_2=some r)∧Aside0 (kq≤k1)∧Aside0 (Kd.R (Kd.int .u8) 5 wc w.heap.size (fun _=>True) u3 x3_1)∧Aside0 (Below w.heap.size w wc))
    case first=>
     have H:=HC3.out
     clear HC3
     replace H:=gN H
     obtain⟨-,c4b0,-,H⟩:=H
     (first|rw[c4b0]|(simp only[i64_w,i32_w];rw[c4b0])|skip)
     replace H:=gI H
     rcases H with⟨c6,-,-,H⟩|⟨c6,-,-,H⟩
     ·have c6b0:((bt a0 x4_1)==37)=true:=beq_iff_eq.mpr c6
      have c6b1:((bt a0 x4_1) != 37)=false:=bne_eq_false_iff_eq.mpr c6
      clear c6
      have H':=Aside0.mk H
      clear H
      have p5:0≤(x4_1:Int):=of_decide_eq_true gq3
      have q5:x4_1<(a0.size:Int):=of_decide_eq_true gq3
      have hx5:=bt_at a0 x4_1
      replace p5:=eq_true p5
      replace q5:=eq_true q5
      go_wp2
      go_meet
      case rel=>exact⟨_,(decide ((wrap64 (x4_1+2))≥(a0.size:Int))),gq4,H',⟨gq40⟩,⟨gRo⟩,⟨gBe⟩⟩
     ·have c6b0:((bt a0 x4_1)==37)=false:=beq_eq_false_iff_ne.mpr c6
      have c6b1:((bt a0 x4_1) != 37)=true:=bne_iff_ne.mpr c6
      have H':=Aside0.mk H
      clear H
      have p5:0≤(x4_1:Int):=of_decide_eq_true gq3
      have q5:x4_1<(a0.size:Int):=of_decide_eq_true gq3
      have hx5:=bt_at a0 x4_1
      replace p5:=eq_true p5
      replace q5:=eq_true q5
      go_wp2
      go_meet
      case rel=>exact⟨_,(true),gq4,H',⟨gq40⟩,⟨gRo⟩,⟨gBe⟩⟩
    case rest=>
     clear HC3
     try clear c2b0
     obtain⟨kq,x23_2,rfl,HA,HJ2,HO_3,HB⟩:=hcut
     cases kq with
     |zero=>exact absurd HA.out (by simp[spec_l7percent.j1])
     |succ kj2=>
      have H:=HA.out
      clear HA
      simp only[spec_l7percent.j1] at H
      replace H:=gB H
      rcases H with⟨rfl,H⟩|⟨rfl,H⟩
      ·replace H:=gN H
       obtain⟨-,c8b0,-,H⟩:=H
       replace H:=gN H
       obtain⟨-,c9b0,-,H⟩:=H
       replace H:=gN H
       obtain⟨c11,-,-,H⟩:=H
       have LMc11:=Aside0.mk c11
       clear c11
       obtain⟨y241,hy241⟩:∃ y_:List Int,y_=(x3_1 ++ [bt a0 x4_1]):=⟨_,rfl⟩
       replace H:(spec_l7percent.l0 kj2 a0 y241 (wrap64 (x4_1+1)))=some r:=by first|(rw[hy241];with_reducible exact H)|(have H2_:=(Option.bind_some _ _).symm.trans H;rw[hy241];with_reducible exact H2_)|(have H2_:=(Option.bind_some _ _).symm.trans H;with_reducible exact H2_)|with_reducible exact H|(rw[hy241];exact H)|exact H
       have Ny241:=Aside0.mk hy241
       clear hy241
       have H':=Aside0.mk H
       clear H
       have p10:0≤(x4_1:Int):=of_decide_eq_true gq3
       have q10:x4_1<(a0.size:Int):=of_decide_eq_true gq3
       have hx10:=bt_at a0 x4_1
       replace p10:=eq_true p10
       replace q10:=eq_true q10
       go_wp2_with(((with_reducible refine gate_builtin (b:=.append) (xs:=#[.tmp 24,.tmp 28]) rfl ?_);(try(refine gate_guard (by rfl) ?_;dsimp only));at_builtin;refine Kd.R_append (Kd.int .u8) (w0:=w) w.heap.size rfl (.tmp 24) (.tmp 28) 100 5 (.int .u8 0) 1 rfl Tryz.underlying100 info5 rfl (by decide) (by omega) u3 x3_1 (bt a0 x4_1) [.int .u8 (bt a0 x4_1)] (fun _=>True) (fun _=>False) rfl rfl ?aP (fun _ hk=>hk.elim) ?aF ?aO ?aB ?aS ?aL ?_;(case aP=>exact rfl);(case aB=>exact gBe);(case aF=>exact(fun _ _=>trivial));(case aO=>exact gq9);(case aS=>exact(below_size gBe));(case aL=>have:=LMc11.out;omega);intro v242 wq0a ho hb hg hat;rw[← Ny241.out] at ho;have nq0b_:=Aside0.mk (hb);have nq0c_:=Aside0.mk (ho);clear HB;clear HO_3;have HB:=nq0b_;have HO243:=nq0c_;clear nq0b_ nq0c_;clear ho hb hg hat))
       go_roundg kj2
       case measure=>have:=HK1.out;have:=HJ2.out;omega
       case rel=>exact⟨(y241),(wrap64 (x4_1+1)),gq4,H',⟨gq76⟩,⟨gRo⟩,⟨gBe⟩⟩
      ·obtain⟨ji13,hji13⟩:∃ j_:Int,(wrap64 (x4_1+1))=j_:=⟨_,rfl⟩
       replace H:(if 0≤(ji13) then(if(ji13)≤(wrap64 (x4_1+3)) then(if(wrap64 (x4_1+3))≤(a0.size:Int) then((spec_ReadHex.f kj2 (a0.extract ((ji13):Int).toNat ((wrap64 (x4_1+3)):Int).toNat)).bind fun bt244=>(if bt244.2=true then((spec_l7free.f kj2 ((bt244.1)%256)).bind fun t246=>(if t246=true then(if x3_1.length<140737488355328 then(spec_l7percent.l0 kj2 a0 (x3_1 ++ [(bt244.1)%256]) (wrap64 ((wrap64 (x4_1+2))+1))) else(none)) else(if(ji13)<(a0.size:Int) then((spec_l7upper.f (bt a0 (ji13))).bind fun t250=>(if 0≤(wrap64 (x4_1+2)) then(if(wrap64 (x4_1+2))<(a0.size:Int) then((spec_l7upper.f (bt a0 (wrap64 (x4_1+2)))).bind fun t251=>((some (([37,t250,t251]:List Int):List Int)).bind fun y252=>(if x3_1.length+y252.length<140737488355328 then(spec_l7percent.l0 kj2 a0 (x3_1++y252) (wrap64 ((wrap64 (x4_1+2))+1))) else(none)))) else(none)) else(none))) else(none)))) else(if 0≤x4_1 then(if x4_1<(a0.size:Int) then(if x3_1.length<140737488355328 then(spec_l7percent.l0 kj2 a0 (x3_1 ++ [bt a0 x4_1]) ji13) else(none)) else(none)) else(none)))) else(none)) else(none)) else(none))=some r:=by first|(rw[hji13] at H;exact H)|(simp only[hji13] at H ⊢;exact H)
       have hji13w:(IntKind.i64.wrap (x4_1+1))=ji13:=(i64_w _).trans hji13
       replace H:=gN H
       obtain⟨-,c14b1,c14b0,H⟩:=H
       replace H:=gN H
       obtain⟨c15,c15b1,c15b0,H⟩:=H
       replace H:=gN H
       obtain⟨c16,c16b1,c16b0,H⟩:=H
       replace H:=gD H
       obtain⟨⟨t244,t245⟩,A17,H⟩:=H
       dsimp only at H
       replace H:=gB H
       rcases H with⟨rfl,H⟩|⟨rfl,H⟩
       ·replace H:=gD H
        obtain⟨t246,A19,H⟩:=H
        replace H:=gB H
        rcases H with⟨rfl,H⟩|⟨rfl,H⟩
        ·replace H:=gN H
         obtain⟨c21,-,-,H⟩:=H
         have LMc21:=Aside0.mk c21
         clear c21
         obtain⟨y247,hy247⟩:∃ y_:List Int,y_=(x3_1 ++ [(t244)%256]):=⟨_,rfl⟩
         replace H:(spec_l7percent.l0 kj2 a0 y247 (wrap64 ((wrap64 (x4_1+2))+1)))=some r:=by first|(rw[hy247];with_reducible exact H)|(have H2_:=(Option.bind_some _ _).symm.trans H;rw[hy247];with_reducible exact H2_)|(have H2_:=(Option.bind_some _ _).symm.trans H;with_reducible exact H2_)|with_reducible exact H|(rw[hy247];exact H)|exact H
         have Ny247:=Aside0.mk hy247
         clear hy247
         have H':=Aside0.mk H
         clear H
         go_wp2_with(first|((with_reducible refine gate_callee (f:=211) rfl ?_);refine goesL_ (some 37) rfl rfl Tryz.func211 (by kernel_rfl) rfl #[.string (a0.extract ((ji13):Int).toNat ((wrap64 (x4_1+3)):Int).toNat)] rfl gq46 ?_;(with_reducible refine(spec_ReadHex.calls kj2 (a0.extract ((ji13):Int).toNat ((wrap64 (x4_1+3)):Int).toNat) t244 true _ A17.out).mono ?_);rintro e w' ⟨rfl,⟨nd,rfl⟩⟩;refine⟨_,rfl,?_⟩)|((with_reducible refine gate_callee (f:=212) rfl ?_);refine goesL_ (some 65) rfl rfl Tryz.func212 (by kernel_rfl) rfl #[.int .u8 ((t244)%256)] rfl gq0 ?_;(with_reducible refine(spec_l7free.calls kj2 ((t244)%256) true _ A19.out).mono ?_);rintro e w' ⟨rfl,⟨nd,rfl⟩⟩;refine⟨_,rfl,?_⟩)|((with_reducible refine gate_builtin (b:=.append) (xs:=#[.tmp 66,.tmp 69]) rfl ?_);(try(refine gate_guard (by rfl) ?_;dsimp only));at_builtin;refine Kd.R_append (Kd.int .u8) (w0:=w) w.heap.size rfl (.tmp 66) (.tmp 69) 100 5 (.int .u8 0) 1 rfl Tryz.underlying100 info5 rfl (by decide) (by omega) u3 x3_1 ((t244)%256) [.int .u8 ((t244)%256)] (fun _=>True) (fun _=>False) rfl rfl ?aP (fun _ hk=>hk.elim) ?aF ?aO ?aB ?aS ?aL ?_;(case aP=>exact rfl);(case aB=>exact gBe);(case aF=>exact(fun _ _=>trivial));(case aO=>exact gq9);(case aS=>exact(below_size gBe));(case aL=>have:=LMc21.out;omega);intro v248 wq1a ho hb hg hat;rw[← Ny247.out] at ho;have nq1b_:=Aside0.mk (hb);have nq1c_:=Aside0.mk (ho);clear HB;clear HO_3;have HB:=nq1b_;have HO249:=nq1c_;clear nq1b_ nq1c_;clear ho hb hg hat))
         go_roundg kj2
         case measure=>have:=HK1.out;have:=HJ2.out;omega
         case rel=>exact⟨(y247),(wrap64 ((wrap64 (x4_1+2))+1)),gq4,H',⟨gq76⟩,⟨gRo⟩,⟨gBe⟩⟩
        ·replace H:=gN H
         obtain⟨-,c23b0,-,H⟩:=H
         replace H:=gD H
         obtain⟨t250,A25,H⟩:=H
         obtain⟨ji26,hji26⟩:∃ j_:Int,(wrap64 (x4_1+2))=j_:=⟨_,rfl⟩
         replace H:(if 0≤(ji26) then(if(ji26)<(a0.size:Int) then((spec_l7upper.f (bt a0 (ji26))).bind fun t251=>((some (([37,t250,t251]:List Int):List Int)).bind fun y252=>(if x3_1.length+y252.length<140737488355328 then(spec_l7percent.l0 kj2 a0 (x3_1++y252) (wrap64 ((ji26)+1))) else(none)))) else(none)) else(none))=some r:=by first|(rw[hji26] at H;exact H)|(simp only[hji26] at H ⊢;exact H)
         (try rw[hji26] at A17)
         (try rw[hji26] at A19)
         (try rw[hji26] at A25)
         have hji26w:(IntKind.i64.wrap (x4_1+2))=ji26:=(i64_w _).trans hji26
         replace H:=gN H
         obtain⟨-,c27b0,-,H⟩:=H
         replace H:=gN H
         obtain⟨-,c28b0,-,H⟩:=H
         replace H:=gD H
         obtain⟨t251,A30,H⟩:=H
         obtain⟨y252,hy252⟩:∃ y_:List Int,y_=(([37,t250,t251]:List Int)):=⟨_,rfl⟩
         replace H:(if x3_1.length+y252.length<140737488355328 then(spec_l7percent.l0 kj2 a0 (x3_1++y252) (wrap64 ((ji26)+1))) else(none))=some r:=by first|(rw[hy252];with_reducible exact H)|(have H2_:=(Option.bind_some _ _).symm.trans H;rw[hy252];with_reducible exact H2_)|(have H2_:=(Option.bind_some _ _).symm.trans H;with_reducible exact H2_)|with_reducible exact H|(rw[hy252];exact H)|exact H
         have Ny252:=Aside0.mk hy252
         clear hy252
         replace H:=gN H
         obtain⟨c31,-,-,H⟩:=H
         have LMc31:=Aside0.mk c31
         clear c31
         obtain⟨y255,hy255⟩:∃ y_:List Int,y_=(x3_1++y252):=⟨_,rfl⟩
         replace H:(spec_l7percent.l0 kj2 a0 y255 (wrap64 ((ji26)+1)))=some r:=by first|(rw[hy255];with_reducible exact H)|(have H2_:=(Option.bind_some _ _).symm.trans H;rw[hy255];with_reducible exact H2_)|(have H2_:=(Option.bind_some _ _).symm.trans H;with_reducible exact H2_)|with_reducible exact H|(rw[hy255];exact H)|exact H
         have Ny255:=Aside0.mk hy255
         clear hy255
         have H':=Aside0.mk H
         clear H
         try go_wp2_with(first|((with_reducible refine gate_callee (f:=211) rfl ?_);refine goesL_ (some 37) rfl rfl Tryz.func211 (by kernel_rfl) rfl #[.string (a0.extract ((ji13):Int).toNat ((wrap64 (x4_1+3)):Int).toNat)] rfl gq46 ?_;(with_reducible refine(spec_ReadHex.calls kj2 (a0.extract ((ji13):Int).toNat ((wrap64 (x4_1+3)):Int).toNat) t244 true _ A17.out).mono ?_);rintro e w' ⟨rfl,⟨nd,rfl⟩⟩;refine⟨_,rfl,?_⟩)|((with_reducible refine gate_callee (f:=212) rfl ?_);refine goesL_ (some 65) rfl rfl Tryz.func212 (by kernel_rfl) rfl #[.int .u8 ((t244)%256)] rfl gq0 ?_;(with_reducible refine(spec_l7free.calls kj2 ((t244)%256) false _ A19.out).mono ?_);rintro e w' ⟨rfl,⟨nd,rfl⟩⟩;refine⟨_,rfl,?_⟩))
         (try(rw[drewN_self wc];generalize hq_:World.drewN wc _=wc;have nq2a_:Aside0 (Kd.R (Kd.int .u8) 5 wc w.heap.size (fun _=>True) u3 x3_1):=⟨by rw[← hq_];exact gq9⟩;have nq2b_:Aside0 (Below w.heap.size w wc):=⟨by rw[← hq_];exact gBe⟩;clear HO_3 HB hq_;have HO_3:=nq2a_;have HB:=nq2b_;clear nq2a_ nq2b_))
         replace HO_3:=Aside0.mk (Kd.R_drew HO_3.out)
         replace HB:=Aside0.mk (below_drew1 HB.out)
         have p24:0≤((ji13):Int):=of_decide_eq_true gq3
         have q24:(ji13)<(a0.size:Int):=of_decide_eq_true gq3
         have hx24:=bt_at a0 (ji13)
         replace p24:=eq_true p24
         replace q24:=eq_true q24
         have p29:0≤((ji26):Int):=of_decide_eq_true gq3
         have q29:(ji26)<(a0.size:Int):=of_decide_eq_true gq3
         have hx29:=bt_at a0 (ji26)
         replace p29:=eq_true p29
         replace q29:=eq_true q29
         refine startF (n:=14) (S:=fun w'=>True) (ds:=[]) trivial (fun hHeld=>?_);refine with_tabW spec_l7percent.tab8 spec_l7percent.bits8 (fun HT_ HW_=>?_)
         generalize wc.drew=wq3a at HO_3 HB hHeld ⊢
         repeat(first|refine takeF ?_ (hy:=Or.inl ⟨by rfl,by intro w' _;go_simp;with_reducible rfl⟩)|refine pureF ?_)
         refine pureT 6 (some 46) ?_
         refine pureT 7 (some 47) ?_
         refine pureT 8 (some 48) ?_
         refine takeT_ 9 (some 49) (hy:=Or.inl ⟨by rfl,by intro w' _;go_simp;with_reducible rfl⟩) ?_
         refine oneF (fun K hK=>?_)
         refine goes_ Tryz.func213 (by kernel_rfl) rfl #[.int .u8 (bt a0 (ji13))] (by rfl) rfl rfl gq46 ?_
         with_reducible refine(spec_l7upper.calls (bt a0 (ji13)) t250 _ A25.out).mono ?_
         rintro e w' ⟨rfl,⟨nd,rfl⟩⟩
         refine⟨_,rfl,?_⟩
         refine hK.out _ _ trivial (fun hHeld=>?_)
         clear hK K
         refine normF ?_
         refine oneF (fun K hK=>?_)
         refine goes_ Tryz.func213 (by kernel_rfl) rfl #[.int .u8 (bt a0 (ji26))] (by rfl) rfl rfl (by(try simp only[List.map_toArray,List.map_cons,List.map_nil]);first|done|(simp only[hji26];rfl)|rfl|(simp only[List.length_drop,List.length_take];rfl)) ?_
         with_reducible refine(spec_l7upper.calls (bt a0 (ji26)) t251 _ A30.out).mono ?_
         rintro e w' ⟨rfl,⟨nd,rfl⟩⟩
         refine⟨_,rfl,?_⟩
         refine hK.out _ _ trivial (fun hHeld=>?_)
         clear hK K
         refine normF ?_
         refine one_ (i:=11) (N:=some 51) #[true,true,true,true,true,true,true,true,true,true,true,true,false,false] rfl rfl (one_of HT_.out (by kernel_rfl)) (by decide) (fun K hK=>?_)
         refine Kd.R_lit_step (Kd.int .u8) _ 5 ?hg (N:=51) ?hd (xs:=([37,t250,t251]:List Int)) (inner:=[.int .u8 37,.int .u8 t250,.int .u8 t251]) (ok:=fun _=>True) (okp:=fun _=>True) ?hr ?hp (fun _ hk=>hk) trivial (Below.refl _ _) (Nat.le_refl _) (by simp) ?_;(case hd=>rfl);(case hg=>rfl);(case hr=>first|(go_simp;done)|(go_simp;rfl));(case hp=>exact(Reps.one (show Kd.M (Kd.int .u8) _ _ _ 37 [.int .u8 37] from rfl) (Reps.one (show Kd.M (Kd.int .u8) _ _ _ t250 [.int .u8 t250] from rfl) (Reps.one (show Kd.M (Kd.int .u8) _ _ _ t251 [.int .u8 t251] from rfl) (Reps.none _ _)))))
         intro v253 wq4a ho34 hb hg_ hnew_
         clear hg_ hnew_
         (first|rw[← Ny252.out] at ho34|(simp only[Int.reduceToNat] at ho34;rw[← Ny252.out] at ho34))
         have HO254:=Aside0.mk (Kd.R_lower (Kd.R_new' ho34 (Kd.R_lt gq9)) (below_size gBe))
         replace HO_3:=Aside0.mk (Kd.R_elder' gq9 (Kd.R_base ho34) hb)
         replace HB:=beA hb
         clear hb ho34
         obtain⟨Ao36,co36,eo36⟩:=Kd.R_slice HO254.out
         (first|subst eo36|(injection eo36 with f1_ f2_ f3_;have f4_:=f1_.symm;have f5_:=f3_.symm;clear f1_ f2_ f3_;subst f4_;subst f5_))
         refine hK.out _ _ trivial (fun hHeld=>?_)
         clear hK K
         refine normA (some 51) ?_
         refine one_ (i:=12) (N:=some 52) #[true,true,true,true,true,true,true,true,true,true,true,true,true,false] rfl rfl (one_of HT_.out (by kernel_rfl)) (by decide) (fun K hK=>?_)
         refine Kd.R_append_rows_step (Kd.int .u8) (w0:=w) w.heap.size (by rfl) (.tmp 40) (.tmp 51) 100 5 (.int .u8 0) 1 rfl Tryz.underlying100 info5 rfl (by decide) (by omega) u3 x3_1 y252 _ _ _ (fun k_=>some k_≠(.slice Ao36 y252.length co36:Value).ownBlock) (fun _=>False) rfl rfl ?aO ?aR (fun _ _ h=>h) (fun _ h=>h.elim) ?aF ?aB ?aS ?aL ?_
         (case aR=>repeat(first|exact(Kd.R_reads' HO254.out).2.2|(with_reducible refine Kd.C_alloc ?_ _)|(with_reducible refine Kd.C_drewN ?_ _)|(with_reducible refine Kd.C_drew ?_)))
         (case aB=>exact gBe)
         (case aF=>exact(fun k_ hk=>Kd.fresh' (Kd.R_lt (by(with_reducible repeat(first|apply Kd.R_alloc|apply Kd.R_drewN|apply Kd.R_drew));exact HO254.out)) k_ hk))
         (case aO=>exact(by(with_reducible repeat(first|apply Kd.R_alloc|apply Kd.R_drewN|apply Kd.R_drew));exact Kd.R_mono HO_3.out (fun _ hk=>hk.2)))
         (case aS=>exact(below_size gBe))
         (case aL=>have:=LMc31.out;omega)
         intro v256 wq5a ho hb hg hat
         rw[← Ny255.out] at ho
         have nq2a_:=Aside0.mk (Kd.R_after (ok:=(fun _=>True)) (by(with_reducible repeat(first|apply Kd.R_alloc|apply Kd.R_drewN|apply Kd.R_drew));exact HO254.out) hg hat)
         have nq2b_:=Aside0.mk (hb)
         have nq6a_:=Aside0.mk (ho)
         clear HO254
         clear HB
         clear HO_3
         have HO254:=nq2a_
         have HB:=nq2b_
         have HO257:=nq6a_
         clear nq2a_ nq2b_ nq6a_
         clear ho hb hg hat
         refine hK.out _ _ trivial (fun hHeld=>?_)
         clear hK K
         refine normA (some 52) ?_
         repeat(first|refine pureF ?_)
         refine done_ (done_of HT_.out (by kernel_rfl)) ?_
         try go_wp2
         go_roundg kj2
         case measure=>have:=HK1.out;have:=HJ2.out;omega
         case rel=>exact⟨(y255),(wrap64 ((ji26)+1)),(by first|rfl|(simp;done)|(simp only[← hji26] <;> (first|rfl|simp))|(simp[*];done)),H',⟨gq76⟩,⟨by(with_reducible repeat(first|apply Kd.R_alloc|apply Kd.R_drewN|apply Kd.R_drew));exact Kd.R_mono HO257.out (fun _ hk=>trivial)⟩,⟨gBe⟩⟩
       ·replace H:=gN H
        obtain⟨-,c37b0,-,H⟩:=H
        replace H:=gN H
        obtain⟨-,c38b0,-,H⟩:=H
        replace H:=gN H
        obtain⟨c40,-,-,H⟩:=H
        have LMc40:=Aside0.mk c40
        clear c40
        obtain⟨y258,hy258⟩:∃ y_:List Int,y_=(x3_1 ++ [bt a0 x4_1]):=⟨_,rfl⟩
        replace H:(spec_l7percent.l0 kj2 a0 y258 ji13)=some r:=by first|(rw[hy258];with_reducible exact H)|(have H2_:=(Option.bind_some _ _).symm.trans H;rw[hy258];with_reducible exact H2_)|(have H2_:=(Option.bind_some _ _).symm.trans H;with_reducible exact H2_)|with_reducible exact H|(rw[hy258];exact H)|exact H
        have Ny258:=Aside0.mk hy258
        clear hy258
        have H':=Aside0.mk H
        clear H
        go_wp2_with(first|((with_reducible refine gate_callee (f:=211) rfl ?_);refine goesL_ (some 37) rfl rfl Tryz.func211 (by kernel_rfl) rfl #[.string (a0.extract ((ji13):Int).toNat ((wrap64 (x4_1+3)):Int).toNat)] rfl gq46 ?_;(with_reducible refine(spec_ReadHex.calls kj2 (a0.extract ((ji13):Int).toNat ((wrap64 (x4_1+3)):Int).toNat) t244 false _ A17.out).mono ?_);rintro e w' ⟨rfl,⟨nd,rfl⟩⟩;refine⟨_,rfl,?_⟩;have p39:0≤(x4_1:Int):=of_decide_eq_true gq3;have q39:x4_1<(a0.size:Int):=of_decide_eq_true gq3;have hx39:=bt_at a0 x4_1;replace p39:=eq_true p39;replace q39:=eq_true q39)|((with_reducible refine gate_builtin (b:=.append) (xs:=#[.tmp 56,.tmp 60]) rfl ?_);(try(refine gate_guard (by rfl) ?_;dsimp only));at_builtin;refine Kd.R_append (Kd.int .u8) (w0:=w) w.heap.size rfl (.tmp 56) (.tmp 60) 100 5 (.int .u8 0) 1 rfl Tryz.underlying100 info5 rfl (by decide) (by omega) u3 x3_1 (bt a0 x4_1) [.int .u8 (bt a0 x4_1)] (fun _=>True) (fun _=>False) rfl rfl ?aP (fun _ hk=>hk.elim) ?aF ?aO ?aB ?aS ?aL ?_;(case aP=>exact rfl);(case aB=>exact gBe);(case aF=>exact(fun _ _=>trivial));(case aO=>exact gq9);(case aS=>exact(below_size gBe));(case aL=>have:=LMc40.out;omega);intro v259 wq7a ho hb hg hat;rw[← Ny258.out] at ho;have nq7b_:=Aside0.mk (hb);have nq7c_:=Aside0.mk (ho);clear HB;clear HO_3;have HB:=nq7b_;have HO260:=nq7c_;clear nq7b_ nq7c_;clear ho hb hg hat))
        go_roundg kj2
        case measure=>have:=HK1.out;have:=HJ2.out;omega
        case rel=>exact⟨(y258),(ji13),(by first|rfl|(simp;done)|(simp only[← hji13] <;> (first|rfl|simp))|(simp[*];done)),H',⟨gq76⟩,⟨gRo⟩,⟨gBe⟩⟩
   ·obtain rfl:=Option.some.inj H
    have hcv42:=own_string (P:=Tryz.prog) Tryz.underlying100 Tryz.underlying5 Tryz.underlying9 (Kd.own_of_R HO_3.out)
    go_wp2
    go_ret
    exact⟨gq2,gBe⟩


def spec_l7split.l0 : Nat→ByteArray→Int→List ByteArray→Int→Int→Option (List ByteArray)
 |0,_,_,_,_,_=>none
 |k+1,x0,x1,x5,x6,x7=>if x7≤(x0.size:Int) then(if x7=(x0.size:Int) then(if 0≤x6 then(if x6≤x7 then(if x5.length<8796093022208 then(spec_l7split.l0 k x0 x1 (x5 ++ [x0.extract (x6:Int).toNat (x7:Int).toNat]) (wrap64 (x7+1)) (wrap64 (x7+1))) else(none)) else(none)) else(none)) else(if 0≤x7 then(if x7<(x0.size:Int) then(if(bt x0 x7)=x1 then(if 0≤x6 then(if x6≤x7 then(if x5.length<8796093022208 then(spec_l7split.l0 k x0 x1 (x5 ++ [x0.extract (x6:Int).toNat (x7:Int).toNat]) (wrap64 (x7+1)) (wrap64 (x7+1))) else(none)) else(none)) else(none)) else(spec_l7split.l0 k x0 x1 x5 x6 (wrap64 (x7+1)))) else(none)) else(none))) else(some x5)
def spec_l7split.f (k:Nat) (a0:ByteArray) (a1:Int):Option (List ByteArray):=spec_l7split.l0 k a0 a1 ([]:List ByteArray) 0 0
set_option maxHeartbeats 8000000 in
set_option maxRecDepth 100000 in
theorem spec_l7split.calls (k:Nat) (a0:ByteArray) (a1:Int) (r:List ByteArray) (w:World) (h:spec_l7split.f k a0 a1=some r) :
  Calls Tryz.prog 181 #[.string a0,.int .u8 a1] w fun e w'=>∃ v0_:Value,e = .returned (v0_)∧Kd.R Kd.string 9 w' w.heap.size (fun _=>True) v0_ r∧Below w.heap.size w w':=by
 have HB:=Aside0.mk (Below.refl w.heap.size w)
 have H:=h
 clear h
 unfold spec_l7split.f at H
 have H':=Aside0.mk H
 clear H
 go_enter Tryz.func181,Tryz.ntmps181
 go_wp2
 go_loopg [5,6,7] k (fun kq v5 v6 v7 w'=>∃(x5_1:List ByteArray) (x6_1:Int) (x7_1:Int),v6 = .int .i64 x6_1∧v7 = .int .i64 x7_1∧Aside0 (spec_l7split.l0 kq a0 a1 x5_1 x6_1 x7_1=some r)∧Aside0 (kq≤k)∧Aside0 (Kd.R Kd.string 9 w' w.heap.size (fun _=>True) v5 x5_1)∧Aside0 (Below w.heap.size w w'))
 case atStart=>exact⟨(([]:List ByteArray)),(0),(0),gq4,gq4,H',⟨Nat.le_refl _⟩,⟨gq11⟩,⟨gBe⟩⟩
 case round=>
  clear H'
  obtain⟨x5_1,x6_1,x7_1,rfl,rfl,HA,HK1,HO_5,HB⟩:=hrel
  cases gk with
  |zero=>exact absurd HA.out (by simp[spec_l7split.l0])
  |succ k1=>
   have H:=HA.out
   clear HA
   simp only[spec_l7split.l0] at H
   replace H:=gI H
   rcases H with⟨-,c3b0,-,H⟩|⟨-,c3b0,-,H⟩
   ·replace H:=gI H
    rcases H with⟨c4,-,-,H⟩|⟨c4,-,-,H⟩
    ·have c4b0:(x7_1==(a0.size:Int))=true:=beq_iff_eq.mpr c4
     have c4b1:(x7_1 != (a0.size:Int))=false:=bne_eq_false_iff_eq.mpr c4
     clear c4
     replace H:=gN H
     obtain⟨-,c5b1,c5b0,H⟩:=H
     replace H:=gN H
     obtain⟨-,c6b1,c6b0,H⟩:=H
     have c7b0:=eq_true (of_decide_eq_true gq3:x7_1≤(a0.size:Int))
     replace H:=gN H
     obtain⟨c8,-,-,H⟩:=H
     have LMc8:=Aside0.mk c8
     clear c8
     obtain⟨y263,hy263⟩:∃ y_:List ByteArray,y_=(x5_1 ++ [a0.extract (x6_1:Int).toNat (x7_1:Int).toNat]):=⟨_,rfl⟩
     replace H:(spec_l7split.l0 k1 a0 a1 y263 (wrap64 (x7_1+1)) (wrap64 (x7_1+1)))=some r:=by first|(rw[hy263];with_reducible exact H)|(have H2_:=(Option.bind_some _ _).symm.trans H;rw[hy263];with_reducible exact H2_)|(have H2_:=(Option.bind_some _ _).symm.trans H;with_reducible exact H2_)|with_reducible exact H|(rw[hy263];exact H)|exact H
     have Ny263:=Aside0.mk hy263
     clear hy263
     have H':=Aside0.mk H
     clear H
     go_wp2_with(first|((with_reducible refine gate_builtin (b:=.append) (xs:=#[.tmp 25,.tmp 30]) rfl ?_);at_builtin;refine Kd.R_append Kd.string (w0:=w) w.heap.size rfl (.tmp 25) (.tmp 30) 76 9 (.string ⟨#[]⟩) 16 rfl Tryz.underlying76 info9 rfl (by decide) (by omega) u5 x5_1 (a0.extract (x6_1:Int).toNat (x7_1:Int).toNat) [.string (a0.extract (x6_1:Int).toNat (x7_1:Int).toNat)] (fun _=>True) (fun _=>False) rfl rfl ?aP (fun _ hk=>hk.elim) ?aF ?aO ?aB ?aS ?aL ?_;(case aP=>exact rfl);(case aB=>exact gBe);(case aF=>exact(fun _ _=>trivial));(case aO=>exact gq16);(case aS=>exact(below_size gBe));(case aL=>have:=LMc8.out;omega);intro v264 w9 ho hb hg hat;rw[← Ny263.out] at ho;have n0_:=Aside0.mk (hb);have n1_:=Aside0.mk (ho);clear HB;clear HO_5;have HB:=n0_;have HO265:=n1_;clear n0_ n1_;clear ho hb hg hat))
     go_roundg k1
     case measure=>have:=HK1.out;omega
     case rel=>exact⟨(y263),(wrap64 (x7_1+1)),(wrap64 (x7_1+1)),gq4,gq4,H',⟨by have:=HK1.out;omega⟩,⟨gRo⟩,⟨gBe⟩⟩
    ·have c4b0:(x7_1==(a0.size:Int))=false:=beq_eq_false_iff_ne.mpr c4
     have c4b1:(x7_1 != (a0.size:Int))=true:=bne_iff_ne.mpr c4
     replace H:=gN H
     obtain⟨-,c10b0,-,H⟩:=H
     replace H:=gN H
     obtain⟨-,c11b0,-,H⟩:=H
     replace H:=gI H
     rcases H with⟨c13,-,-,H⟩|⟨c13,-,-,H⟩
     ·have c13b0:((bt a0 x7_1)==a1)=true:=beq_iff_eq.mpr c13
      have c13b1:((bt a0 x7_1) != a1)=false:=bne_eq_false_iff_eq.mpr c13
      clear c13
      replace H:=gN H
      obtain⟨-,c14b1,c14b0,H⟩:=H
      replace H:=gN H
      obtain⟨-,c15b1,c15b0,H⟩:=H
      have c16b0:=eq_true (of_decide_eq_true gq3:x7_1≤(a0.size:Int))
      replace H:=gN H
      obtain⟨c17,-,-,H⟩:=H
      have LMc17:=Aside0.mk c17
      clear c17
      obtain⟨y266,hy266⟩:∃ y_:List ByteArray,y_=(x5_1 ++ [a0.extract (x6_1:Int).toNat (x7_1:Int).toNat]):=⟨_,rfl⟩
      replace H:(spec_l7split.l0 k1 a0 a1 y266 (wrap64 (x7_1+1)) (wrap64 (x7_1+1)))=some r:=by first|(rw[hy266];with_reducible exact H)|(have H2_:=(Option.bind_some _ _).symm.trans H;rw[hy266];with_reducible exact H2_)|(have H2_:=(Option.bind_some _ _).symm.trans H;with_reducible exact H2_)|with_reducible exact H|(rw[hy266];exact H)|exact H
      have Ny266:=Aside0.mk hy266
      clear hy266
      have H':=Aside0.mk H
      clear H
      have p12:0≤(x7_1:Int):=of_decide_eq_true gq3
      have q12:x7_1<(a0.size:Int):=of_decide_eq_true gq3
      have hx12:=bt_at a0 x7_1
      replace p12:=eq_true p12
      replace q12:=eq_true q12
      go_wp2_with(first|((with_reducible refine gate_builtin (b:=.append) (xs:=#[.tmp 25,.tmp 30]) rfl ?_);at_builtin;refine Kd.R_append Kd.string (w0:=w) w.heap.size rfl (.tmp 25) (.tmp 30) 76 9 (.string ⟨#[]⟩) 16 rfl Tryz.underlying76 info9 rfl (by decide) (by omega) u5 x5_1 (a0.extract (x6_1:Int).toNat (x7_1:Int).toNat) [.string (a0.extract (x6_1:Int).toNat (x7_1:Int).toNat)] (fun _=>True) (fun _=>False) rfl rfl ?aP (fun _ hk=>hk.elim) ?aF ?aO ?aB ?aS ?aL ?_;(case aP=>exact rfl);(case aB=>exact gBe);(case aF=>exact(fun _ _=>trivial));(case aO=>exact gq16);(case aS=>exact(below_size gBe));(case aL=>have:=LMc17.out;omega);intro v267 w18 ho hb hg hat;rw[← Ny266.out] at ho;have n0_:=Aside0.mk (hb);have n1_:=Aside0.mk (ho);clear HB;clear HO_5;have HB:=n0_;have HO268:=n1_;clear n0_ n1_;clear ho hb hg hat))
      go_roundg k1
      case measure=>have:=HK1.out;omega
      case rel=>exact⟨(y266),(wrap64 (x7_1+1)),(wrap64 (x7_1+1)),gq4,gq4,H',⟨by have:=HK1.out;omega⟩,⟨gRo⟩,⟨gBe⟩⟩
     ·have c13b0:((bt a0 x7_1)==a1)=false:=beq_eq_false_iff_ne.mpr c13
      have c13b1:((bt a0 x7_1) != a1)=true:=bne_iff_ne.mpr c13
      have H':=Aside0.mk H
      clear H
      have p12:0≤(x7_1:Int):=of_decide_eq_true gq3
      have q12:x7_1<(a0.size:Int):=of_decide_eq_true gq3
      have hx12:=bt_at a0 x7_1
      replace p12:=eq_true p12
      replace q12:=eq_true q12
      go_wp2
      go_roundg k1
      case measure=>have:=HK1.out;omega
      case rel=>exact⟨(x5_1),(x6_1),(wrap64 (x7_1+1)),gq4,gq4,H',⟨by have:=HK1.out;omega⟩,⟨gRo⟩,⟨gBe⟩⟩
   ·obtain rfl:=Option.some.inj H
    go_wp2
    go_ret
    exact⟨_,gq2,gRo,gBe⟩

theorem obE {A:Option Addr} {n c m d:Nat}:(Value.slice A n c).ownBlock=(Value.slice A m d).ownBlock:=by cases A <;> rfl
theorem R_ob {α:Type} {d:Kd α} {e:Nat} {w:World} {base n m c c2:Nat} {A:Option Addr} {v:Value} {xs:List α} (h:d.R e w base (fun k=>some k≠(Value.slice A n c).ownBlock) v xs):d.R e w base (fun k=>some k≠(Value.slice A m c2).ownBlock) v xs:=
 Kd.R_mono h (fun k hk=>by rw[obE (m:=n) (d:=c)];exact hk)

mutual
def spec_CleanPath.j0 : Nat→ByteArray→Bool→Option (ByteArray)
 |0,_,_=>none
 |k+1,x0,x27=>if x27=true then(some (⟨#[]⟩:ByteArray)) else(spec_CleanPath.l0 k x0 0)
def spec_CleanPath.l0 : Nat→ByteArray→Int→Option (ByteArray)
 |0,_,_=>none
 |k+1,x0,x3=>if x3<(x0.size:Int) then(if 0≤x3 then(if(bt x0 x3)=35 then(some (⟨#[]⟩:ByteArray)) else(if(bt x0 x3)=63 then(some (⟨#[]⟩:ByteArray)) else(spec_CleanPath.l0 k x0 (wrap64 (x3+1))))) else(none)) else((spec_l7percent.f k x0).bind fun t270=>(if 1≤(t270.size:Int) then((spec_l7split.f k (t270.extract 1 t270.size) 47).bind fun t271=>(spec_CleanPath.l1 k t271 ([]:List ByteArray) 0)) else(none)))
def spec_CleanPath.l1 : Nat→List ByteArray→List ByteArray→Int→Option (ByteArray)
 |0,_,_,_=>none
 |k+1,x4,x5,x6=>if x6<(x4.length:Int) then(if 0≤x6 then(if(rdOf ByteArray.empty x4 x6).toList=([46]:List UInt8) then(spec_CleanPath.j3 k x4 x5 x6 true) else(spec_CleanPath.j3 k x4 x5 x6 ((rdOf ByteArray.empty x4 x6).toList==([46,46]:List UInt8)))) else(none)) else(spec_CleanPath.l2 k x5 (⟨#[]⟩:ByteArray) 0)
def spec_CleanPath.j3 : Nat→List ByteArray→List ByteArray→Int→Bool→Option (ByteArray)
 |0,_,_,_,_=>none
 |k+1,x4,x5,x6,x7=>if 0≤x6 then(if x6<(x4.length:Int) then(if(rdOf ByteArray.empty x4 x6).toList=([46,46]:List UInt8) then(spec_CleanPath.j4 k x4 x5 x6 x7 (decide ((x5.length:Int)>0))) else(spec_CleanPath.j4 k x4 x5 x6 x7 false)) else(none)) else(none)
def spec_CleanPath.j4 : Nat→List ByteArray→List ByteArray→Int→Bool→Bool→Option (ByteArray)
 |0,_,_,_,_,_=>none
 |k+1,x4,x5,x6,x7,x75=>if x75=true then(if 0≤(wrap64 ((x5.length:Int)-1)) then(if(wrap64 ((x5.length:Int)-1))≤(x5.length:Int) then(spec_CleanPath.j5 k x4 (x5.take ((wrap64 ((x5.length:Int)-1)):Int).toNat) x6 x7) else(none)) else(none)) else(spec_CleanPath.j5 k x4 x5 x6 x7)
def spec_CleanPath.j5 : Nat→List ByteArray→List ByteArray→Int→Bool→Option (ByteArray)
 |0,_,_,_,_=>none
 |k+1,x4,x5,x6,x7=>if x7=true then(if(wrap64 (x6+1))=(x4.length:Int) then(if x5.length<8796093022208 then(spec_CleanPath.l1 k x4 (x5 ++ [(⟨#[]⟩:ByteArray)]) (wrap64 (x6+1))) else(none)) else(spec_CleanPath.l1 k x4 x5 (wrap64 (x6+1)))) else(if 0≤x6 then(if x6<(x4.length:Int) then(if x5.length<8796093022208 then(spec_CleanPath.l1 k x4 (x5 ++ [rdOf ByteArray.empty x4 x6]) (wrap64 (x6+1))) else(none)) else(none)) else(none))
def spec_CleanPath.l2 : Nat→List ByteArray→ByteArray→Int→Option (ByteArray)
 |0,_,_,_=>none
 |k+1,x5,x8,x9=>if x9<(x5.length:Int) then(if x8.size+1≤9223372036854775807 then(if 0≤x9 then(if(x8++(⟨#[47]⟩:ByteArray)).size+(rdOf ByteArray.empty x5 x9).size≤9223372036854775807 then(spec_CleanPath.l2 k x5 ((x8++(⟨#[47]⟩:ByteArray))++(rdOf ByteArray.empty x5 x9)) (wrap64 (x9+1))) else(none)) else(none)) else(none)) else(if x8.toList=([]:List UInt8) then(some (⟨#[47]⟩:ByteArray)) else(some x8))
end
def spec_CleanPath.f (k:Nat) (a0:ByteArray):Option (ByteArray):=if(a0.size:Int)=0 then(spec_CleanPath.j0 k a0 true) else(if(a0.size:Int)>200 then(spec_CleanPath.j0 k a0 true) else(if 0<(a0.size:Int) then(if(bt a0 0)=47 then((spec_l6visible.f k a0).bind fun t269=>(spec_CleanPath.j0 k a0 (!t269))) else(spec_CleanPath.j0 k a0 true)) else(none)))
set_option maxHeartbeats 8000000 in
set_option maxRecDepth 100000 in
theorem spec_CleanPath.calls (k:Nat) (a0:ByteArray) (r:ByteArray) (w:World) (h:spec_CleanPath.f k a0=some r) :
  Calls Tryz.prog 142 #[.string a0] w fun e w'=>e = .returned (.string r)∧Below w.heap.size w w':=by
 have HB:=Aside0.mk (Below.refl w.heap.size w)
 have H:=h
 clear h
 unfold spec_CleanPath.f at H
 have HC2:=Aside0.mk H
 clear H
 go_enter Tryz.func142,Tryz.ntmps142
 go_upto_region 1 with(fail)
 go_cut [27] (fun v27 wc=>∃(kq:Nat) (x27_1:Bool),v27 = .bool x27_1∧Aside0 (spec_CleanPath.j0 kq a0 x27_1=some r)∧Aside0 (kq≤k)∧Aside0 (Below w.heap.size w wc))
 case first=>
  have H:=HC2.out
  clear HC2
  replace H:=gI H
  rcases H with⟨c3,-,-,H⟩|⟨c3,-,-,H⟩
  ·have c3b0:((a0.size:Int)==0)=true:=beq_iff_eq.mpr c3
   have c3b1:((a0.size:Int) != 0)=false:=bne_eq_false_iff_eq.mpr c3
   clear c3
   (first|rw[c3b0]|(simp only[i64_w,i32_w];rw[c3b0])|skip)
   have H':=Aside0.mk H
   clear H
   go_wp2
   go_meet
   case rel=>exact⟨_,(true),gq4,H',⟨gq8⟩,⟨gBe⟩⟩
  ·have c3b0:((a0.size:Int)==0)=false:=beq_eq_false_iff_ne.mpr c3
   have c3b1:((a0.size:Int) != 0)=true:=bne_iff_ne.mpr c3
   (first|rw[c3b0]|(simp only[i64_w,i32_w];rw[c3b0])|skip)
   replace H:=gI H
   rcases H with⟨c4,-,-,H⟩|⟨c4,-,-,H⟩
   ·have c4b0:decide (200<(a0.size:Int))=true:=decide_eq_true c4
    have c4b1:decide (200<a0.size)=true:=decide_eq_true (by omega)
    clear c4
    have H':=Aside0.mk H
    clear H
    go_wp2
    go_meet
    case rel=>exact⟨_,(true),gq4,H',⟨gq8⟩,⟨gBe⟩⟩
   ·have c4b0:decide (200<(a0.size:Int))=false:=decide_eq_false c4
    have c4b1:decide (200<a0.size)=false:=decide_eq_false (by omega)
    clear c4
    replace H:=gN H
    obtain⟨c5,c5b0,-,H⟩:=H
    have c5b1:decide (0<a0.size)=true:=decide_eq_true (by omega)
    clear c5
    replace H:=gI H
    rcases H with⟨c7,-,-,H⟩|⟨c7,-,-,H⟩
    ·have c7b0:((bt a0 0)==47)=true:=beq_iff_eq.mpr c7
     have c7b1:((bt a0 0) != 47)=false:=bne_eq_false_iff_eq.mpr c7
     clear c7
     replace H:=gD H
     obtain⟨t269,A8,H⟩:=H
     have H':=Aside0.mk H
     clear H
     have p6:0≤(0:Int):=(by omega)
     have q6:0<a0.size:=(by have:(0:Int)<(a0.size:Int):=of_decide_eq_true gq3;omega)
     have hx6:∀ h:0<a0.size,((a0[0]'h).toNat:Int)=bt a0 0:=bt_at a0 0
     clear p6
     have qi6:(0<(a0.size:Int))=True:=eq_true (of_decide_eq_true gq3)
     replace q6:=eq_true q6
     go_wp2_with(first|(go_at_call 100;(with_reducible refine(spec_l6visible.calls k a0 t269 _ A8.out).mono ?_);rintro e w' ⟨rfl,⟨nd,rfl⟩⟩))
     go_meet
     case rel=>exact⟨_,(!t269),gq4,H',⟨gq8⟩,⟨gBe⟩⟩
    ·have c7b0:((bt a0 0)==47)=false:=beq_eq_false_iff_ne.mpr c7
     have c7b1:((bt a0 0) != 47)=true:=bne_iff_ne.mpr c7
     have H':=Aside0.mk H
     clear H
     have p6:0≤(0:Int):=(by omega)
     have q6:0<a0.size:=(by have:(0:Int)<(a0.size:Int):=of_decide_eq_true gq3;omega)
     have hx6:∀ h:0<a0.size,((a0[0]'h).toNat:Int)=bt a0 0:=bt_at a0 0
     clear p6
     have qi6:(0<(a0.size:Int))=True:=eq_true (of_decide_eq_true gq3)
     replace q6:=eq_true q6
     go_wp2
     go_meet
     case rel=>exact⟨_,(true),gq4,H',⟨gq8⟩,⟨gBe⟩⟩
 case rest=>
  clear HC2
  obtain⟨kq,x27_1,rfl,HA,HJ1,HB⟩:=hcut
  cases kq with
  |zero=>exact absurd HA.out (by simp[spec_CleanPath.j0])
  |succ kj1=>
   have H:=HA.out
   clear HA
   simp only[spec_CleanPath.j0] at H
   replace H:=gB H
   rcases H with⟨rfl,H⟩|⟨rfl,H⟩
   ·obtain rfl:=Option.some.inj H
    go_wp2
    go_ret
    exact⟨gq2,gBe⟩
   ·have H':=Aside0.mk H
    clear H
    go_wp2
    go_loopg [3] kj1 (fun kq v3 w'=>∃(x3_2:Int),v3 = .int .i64 x3_2∧Aside0 (spec_CleanPath.l0 kq a0 x3_2=some r)∧Aside0 (kq≤kj1)∧Aside0 (Below w.heap.size w w'))
    case atStart=>exact⟨(0),gq4,H',⟨Nat.le_refl _⟩,⟨gBe⟩⟩
    case round=>
     clear H'
     obtain⟨x3_2,rfl,HA,HK2,HB⟩:=hrel
     cases gk with
     |zero=>exact absurd HA.out (by simp[spec_CleanPath.l0])
     |succ k2=>
      have H:=HA.out
      clear HA
      simp only[spec_CleanPath.l0] at H
      replace H:=gI H
      rcases H with⟨-,c10b0,-,H⟩|⟨-,c10b0,-,H⟩
      ·replace H:=gN H
       obtain⟨-,c11b0,-,H⟩:=H
       replace H:=gI H
       rcases H with⟨c13,-,-,H⟩|⟨c13,-,-,H⟩
       ·have c13b0:((bt a0 x3_2)==35)=true:=beq_iff_eq.mpr c13
        have c13b1:((bt a0 x3_2) != 35)=false:=bne_eq_false_iff_eq.mpr c13
        clear c13
        obtain rfl:=Option.some.inj H
        have p12:0≤(x3_2:Int):=of_decide_eq_true gq3
        have q12:x3_2<(a0.size:Int):=of_decide_eq_true gq3
        have hx12:=bt_at a0 x3_2
        replace p12:=eq_true p12
        replace q12:=eq_true q12
        go_wp2
        go_ret
        exact⟨gq2,gBe⟩
       ·have c13b0:((bt a0 x3_2)==35)=false:=beq_eq_false_iff_ne.mpr c13
        have c13b1:((bt a0 x3_2) != 35)=true:=bne_iff_ne.mpr c13
        replace H:=gI H
        rcases H with⟨c15,-,-,H⟩|⟨c15,-,-,H⟩
        ·have c15b0:((bt a0 x3_2)==63)=true:=beq_iff_eq.mpr c15
         have c15b1:((bt a0 x3_2) != 63)=false:=bne_eq_false_iff_eq.mpr c15
         clear c15
         obtain rfl:=Option.some.inj H
         have p12:0≤(x3_2:Int):=of_decide_eq_true gq3
         have q12:x3_2<(a0.size:Int):=of_decide_eq_true gq3
         have hx12:=bt_at a0 x3_2
         replace p12:=eq_true p12
         replace q12:=eq_true q12
         have p14:0≤(x3_2:Int):=of_decide_eq_true gq3
         have q14:x3_2<(a0.size:Int):=of_decide_eq_true gq3
         have hx14:=bt_at a0 x3_2
         replace p14:=eq_true p14
         replace q14:=eq_true q14
         go_wp2
         go_ret
         exact⟨gq2,gBe⟩
        ·have c15b0:((bt a0 x3_2)==63)=false:=beq_eq_false_iff_ne.mpr c15
         have c15b1:((bt a0 x3_2) != 63)=true:=bne_iff_ne.mpr c15
         have H':=Aside0.mk H
         clear H
         have p12:0≤(x3_2:Int):=of_decide_eq_true gq3
         have q12:x3_2<(a0.size:Int):=of_decide_eq_true gq3
         have hx12:=bt_at a0 x3_2
         replace p12:=eq_true p12
         replace q12:=eq_true q12
         have p14:0≤(x3_2:Int):=of_decide_eq_true gq3
         have q14:x3_2<(a0.size:Int):=of_decide_eq_true gq3
         have hx14:=bt_at a0 x3_2
         replace p14:=eq_true p14
         replace q14:=eq_true q14
         go_wp2
         go_roundg k2
         case measure=>have:=HJ1.out;have:=HK2.out;omega
         case rel=>exact⟨(wrap64 (x3_2+1)),gq4,H',⟨gq44⟩,⟨gBe⟩⟩
      ·replace H:=gD H
       obtain⟨t270,A16,H⟩:=H
       replace H:=gI H
       rcases H with⟨-,c17b1,c17b0,H⟩|⟨c17,-,-,H⟩
       ·replace H:=gD H
        obtain⟨t271,A18,H⟩:=H
        have H':=Aside0.mk H
        clear H
        go_wp2_with(first|((with_reducible refine gate_callee (f:=182) rfl ?_);refine goesL_ (some 45) rfl rfl Tryz.func182 (by kernel_rfl) rfl #[.string a0] rfl gq0 ?_;(with_reducible refine(spec_l7percent.calls k2 a0 t270 _ A16.out).mono ?_);rintro e w19 ⟨rfl,hb⟩;refine⟨_,rfl,?_⟩;replace HB:=beA hb;(try clear hb);(try clear hb2);(try clear hk);(try clear hi))|((with_reducible refine gate_callee (f:=181) rfl ?_);refine goesL_ (some 47) rfl rfl Tryz.func181 (by kernel_rfl) rfl #[.string (t270.extract 1 t270.size),.int .u8 47] rfl gq0 ?_;(with_reducible refine(spec_l7split.calls k2 (t270.extract 1 t270.size) 47 t271 _ A18.out).mono ?_);rintro e w20 ⟨v272,rfl,ho0,hb⟩;refine⟨_,rfl,?_⟩;have HO273:=Aside0.mk (Kd.R_lower ho0 (below_size gBe));replace HB:=beA hb;(try clear hb);(try clear hb2);(try clear hk);(try clear hi);(try clear ho0)))
        go_loopg [5,6] k2 (fun kq v5 v6 w'=>∃(x5_3:List ByteArray) (x6_3:Int),v6 = .int .i64 x6_3∧Aside0 (spec_CleanPath.l1 kq t271 x5_3 x6_3=some r)∧Aside0 (kq≤k2)∧Aside0 (Kd.R Kd.string 9 w' w.heap.size (fun k_=>some k_≠(v5:Value).ownBlock) v272 t271)∧Aside0 (Kd.R Kd.string 9 w' w.heap.size (fun k_=>some k_≠(v272:Value).ownBlock) v5 x5_3)∧Aside0 (Below w.heap.size w w'))
        case atStart=>exact⟨(([]:List ByteArray)),(0),gq4,H',⟨Nat.le_refl _⟩,⟨by(with_reducible repeat(first|apply Kd.R_alloc|apply Kd.R_drewN|apply Kd.R_drew));exact Kd.R_mono HO273.out (fun _ hk=>(by simp[Value.ownBlock]))⟩,⟨gq11⟩,⟨gBe⟩⟩
        case round=>
         clear H'
         try clear c10b0
         try clear c17
         try clear c17b0
         try clear c17b1
         obtain⟨x5_3,x6_3,rfl,HA,HK3,HO_4,HO_5,HB⟩:=hrel
         cases gk with
         |zero=>exact absurd HA.out (by simp[spec_CleanPath.l1])
         |succ k3=>
          have H:=HA.out
          clear HA
          simp only[spec_CleanPath.l1] at H
          replace H:=gI H
          rcases H with⟨-,c21b0,-,H⟩|⟨-,c21b0,-,H⟩
          ·have HC22:=Aside0.mk H
           clear H
           obtain⟨Ao23,co23,eo23⟩:=Kd.R_slice HO_4.out
           subst eo23
           go_upto_region 13 with(fail)
           go_cut [7] (fun v7 wc=>∃(kq:Nat) (x7_21:Bool),v7 = .bool x7_21∧Aside0 (spec_CleanPath.j3 kq t271 x5_3 x6_3 x7_21=some r)∧Aside0 (kq≤k3)∧Aside0 (Kd.R Kd.string 9 wc w.heap.size (fun k_=>some k_≠(u5:Value).ownBlock) (.slice Ao23 t271.length co23) t271)∧Aside0 (Kd.R Kd.string 9 wc w.heap.size (fun k_=>some k_≠((.slice Ao23 t271.length co23):Value).ownBlock) u5 x5_3)∧Aside0 (Below w.heap.size w wc))
           case first=>
            have H:=HC22.out
            clear HC22
            replace H:=gN H
            obtain⟨-,c24b0,-,H⟩:=H
            (first|rw[c24b0]|(simp only[i64_w,i32_w];rw[c24b0])|skip)
            replace H:=gI H
            rcases H with⟨c25,-,-,H⟩|⟨c25,-,-,H⟩
            ·have c25b0:((rdOf ByteArray.empty t271 x6_3).toList==([46]:List UInt8))=true:=beq_iff_eq.mpr c25
             have c25b1:((rdOf ByteArray.empty t271 x6_3).toList != ([46]:List UInt8))=false:=bne_eq_false_iff_eq.mpr c25
             clear c25
             have H':=Aside0.mk H
             clear H
             have p274:0≤(x6_3:Int):=of_decide_eq_true gq3
             have q274:x6_3<(t271.length:Int):=of_decide_eq_true gq3
             obtain⟨ad274,e274,hx274_0⟩:=Kd.at_string (Kd.R_reads' HO_4.out).2.2 x6_3 p274 q274
             cases e274
             replace p274:=eq_true p274
             replace q274:=eq_true q274
             go_wp2
             go_meet
             case rel=>exact⟨_,(true),gq4,H',⟨by have:=HJ1.out;have:=HK2.out;have:=HK3.out;first|omega|exact Nat.le_refl _⟩,⟨gRo⟩,⟨gRo⟩,⟨gBe⟩⟩
            ·have c25b0:((rdOf ByteArray.empty t271 x6_3).toList==([46]:List UInt8))=false:=beq_eq_false_iff_ne.mpr c25
             have c25b1:((rdOf ByteArray.empty t271 x6_3).toList != ([46]:List UInt8))=true:=bne_iff_ne.mpr c25
             have H':=Aside0.mk H
             clear H
             have p274:0≤(x6_3:Int):=of_decide_eq_true gq3
             have q274:x6_3<(t271.length:Int):=of_decide_eq_true gq3
             obtain⟨ad274,e274,hx274_0⟩:=Kd.at_string (Kd.R_reads' HO_4.out).2.2 x6_3 p274 q274
             cases e274
             replace p274:=eq_true p274
             replace q274:=eq_true q274
             have p275:0≤(x6_3:Int):=of_decide_eq_true gq3
             have q275:x6_3<(t271.length:Int):=of_decide_eq_true gq3
             obtain⟨ad275,e275,hx275_0⟩:=Kd.at_string (Kd.R_reads' HO_4.out).2.2 x6_3 p275 q275
             obtain rfl:ad274=ad275:=(by injection e275)
             replace p275:=eq_true p275
             replace q275:=eq_true q275
             go_wp2
             go_meet
             case rel=>exact⟨_,(((rdOf ByteArray.empty t271 x6_3).toList==([46,46]:List UInt8))),gq4,H',⟨by have:=HJ1.out;have:=HK2.out;have:=HK3.out;first|omega|exact Nat.le_refl _⟩,⟨gRo⟩,⟨gRo⟩,⟨gBe⟩⟩
           case rest=>
            clear HC22
            try clear c10b0
            try clear c17
            try clear c17b0
            try clear c17b1
            try clear c21b0
            obtain⟨kq,x7_21,rfl,HA,HJ21,HO_4,HO_5,HB⟩:=hcut
            cases kq with
            |zero=>exact absurd HA.out (by simp[spec_CleanPath.j3])
            |succ kj21=>
             have H:=HA.out
             clear HA
             simp only[spec_CleanPath.j3] at H
             have HC26:=Aside0.mk H
             clear H
             go_upto_region 14 with(fail)
             go_cut [75] (fun v75 wc=>∃(kq:Nat) (x75_25:Bool),v75 = .bool x75_25∧Aside0 (spec_CleanPath.j4 kq t271 x5_3 x6_3 x7_21 x75_25=some r)∧Aside0 (kq≤kj21)∧Aside0 (Kd.R Kd.string 9 wc w.heap.size (fun k_=>some k_≠(u5:Value).ownBlock) (.slice Ao23 t271.length co23) t271)∧Aside0 (Kd.R Kd.string 9 wc w.heap.size (fun k_=>some k_≠((.slice Ao23 t271.length co23):Value).ownBlock) u5 x5_3)∧Aside0 (Below w.heap.size w wc))
             case first=>
              have H:=HC26.out
              clear HC26
              replace H:=gN H
              obtain⟨-,c27b0,-,H⟩:=H
              (first|rw[c27b0]|(simp only[i64_w,i32_w];rw[c27b0])|skip)
              replace H:=gN H
              obtain⟨-,c28b0,-,H⟩:=H
              replace H:=gI H
              rcases H with⟨c29,-,-,H⟩|⟨c29,-,-,H⟩
              ·have c29b0:((rdOf ByteArray.empty t271 x6_3).toList==([46,46]:List UInt8))=true:=beq_iff_eq.mpr c29
               have c29b1:((rdOf ByteArray.empty t271 x6_3).toList != ([46,46]:List UInt8))=false:=bne_eq_false_iff_eq.mpr c29
               clear c29
               have H':=Aside0.mk H
               clear H
               have p276:0≤(x6_3:Int):=of_decide_eq_true gq3
               have q276:x6_3<(t271.length:Int):=of_decide_eq_true gq3
               obtain⟨ad276,e276,hx276_0⟩:=Kd.at_string (Kd.R_reads' HO_4.out).2.2 x6_3 p276 q276
               cases e276
               replace p276:=eq_true p276
               replace q276:=eq_true q276
               obtain⟨Ao30,co30,eo30⟩:=Kd.R_slice HO_5.out
               subst eo30
               go_wp2
               go_meet
               case rel=>exact⟨_,(decide ((x5_3.length:Int)>0)),gq4,H',⟨by have:=HJ1.out;have:=HK2.out;have:=HK3.out;have:=HJ21.out;first|omega|exact Nat.le_refl _⟩,⟨gRo⟩,⟨gRo⟩,⟨gBe⟩⟩
              ·have c29b0:((rdOf ByteArray.empty t271 x6_3).toList==([46,46]:List UInt8))=false:=beq_eq_false_iff_ne.mpr c29
               have c29b1:((rdOf ByteArray.empty t271 x6_3).toList != ([46,46]:List UInt8))=true:=bne_iff_ne.mpr c29
               have H':=Aside0.mk H
               clear H
               have p276:0≤(x6_3:Int):=of_decide_eq_true gq3
               have q276:x6_3<(t271.length:Int):=of_decide_eq_true gq3
               obtain⟨ad276,e276,hx276_0⟩:=Kd.at_string (Kd.R_reads' HO_4.out).2.2 x6_3 p276 q276
               cases e276
               replace p276:=eq_true p276
               replace q276:=eq_true q276
               go_wp2
               go_meet
               case rel=>exact⟨_,(false),gq4,H',⟨by have:=HJ1.out;have:=HK2.out;have:=HK3.out;have:=HJ21.out;first|omega|exact Nat.le_refl _⟩,⟨gRo⟩,⟨gRo⟩,⟨gBe⟩⟩
             case rest=>
              clear HC26
              try clear c10b0
              try clear c17
              try clear c17b0
              try clear c17b1
              try clear c21b0
              obtain⟨kq,x75_25,rfl,HA,HJ25,HO_4,HO_5,HB⟩:=hcut
              cases kq with
              |zero=>exact absurd HA.out (by simp[spec_CleanPath.j4])
              |succ kj25=>
               have H:=HA.out
               clear HA
               simp only[spec_CleanPath.j4] at H
               have HC31:=Aside0.mk H
               clear H
               go_upto_if 75 with(fail)
               go_cut [5] (fun v5 wc=>∃(kq:Nat) (x5_30:List ByteArray),Aside0 (spec_CleanPath.j5 kq t271 x5_30 x6_3 x7_21=some r)∧Aside0 (kq≤kj25)∧Aside0 (Kd.R Kd.string 9 wc w.heap.size (fun k_=>some k_≠(v5:Value).ownBlock) (.slice Ao23 t271.length co23) t271)∧Aside0 (Kd.R Kd.string 9 wc w.heap.size (fun k_=>some k_≠((.slice Ao23 t271.length co23):Value).ownBlock) v5 x5_30)∧Aside0 (Below w.heap.size w wc))
               case first=>
                have H:=HC31.out
                clear HC31
                replace H:=gB H
                rcases H with⟨rfl,H⟩|⟨rfl,H⟩
                ·obtain⟨ji33,hji33⟩:∃ j_:Int,(wrap64 ((x5_3.length:Int)-1))=j_:=⟨_,rfl⟩
                 replace H:(if 0≤(ji33) then(if(ji33)≤(x5_3.length:Int) then(spec_CleanPath.j5 kj25 t271 (x5_3.take ((ji33):Int).toNat) x6_3 x7_21) else(none)) else(none))=some r:=by first|(rw[hji33] at H;exact H)|(simp only[hji33] at H ⊢;exact H)
                 have hji33w:(IntKind.i64.wrap ((x5_3.length:Int)-1))=ji33:=(i64_w _).trans hji33
                 replace H:=gN H
                 obtain⟨-,c34b1,c34b0,H⟩:=H
                 replace H:=gN H
                 obtain⟨-,c35b1,c35b0,H⟩:=H
                 obtain⟨y277,hy277⟩:∃ y_:List ByteArray,y_=(x5_3.take ((ji33):Int).toNat):=⟨_,rfl⟩
                 replace H:(spec_CleanPath.j5 kj25 t271 y277 x6_3 x7_21)=some r:=by first|(rw[hy277];with_reducible exact H)|(have H2_:=(Option.bind_some _ _).symm.trans H;rw[hy277];with_reducible exact H2_)|(have H2_:=(Option.bind_some _ _).symm.trans H;with_reducible exact H2_)|with_reducible exact H|(rw[hy277];exact H)|exact H
                 have Ny277:=Aside0.mk hy277
                 clear hy277
                 have H':=Aside0.mk H
                 clear H
                 obtain⟨Ao36,co36,eo36⟩:=Kd.R_slice HO_5.out
                 subst eo36
                 have q37:((ji33):Int)≤((x5_3.length:Int):Int):=of_decide_eq_true gq3
                 obtain⟨i037,hi037,_,hsz37,_⟩:=info_parts info9
                 have hcut37:=cut_to (P:=Tryz.prog) 76 9 .i64 Tryz.underlying76 hi037 Ao36 x5_3.length co36 (ji33) (of_decide_eq_true gq3) q37 (Kd.R_reads' HO_5.out).2.1
                 have hr37:=Kd.R_take (m:=((ji33):Int).toNat) HO_5.out (by omega)
                 have hy37:y277.length=((ji33):Int).toNat:=(by rw[Ny277.out,List.length_take];omega)
                 rw[← Ny277.out] at hr37
                 rw[← hy37] at hr37 hcut37
                 clear hy37 hi037 hsz37 HO_5
                 have HO279:=Aside0.mk hr37
                 clear hr37
                 replace q37:=eq_true q37
                 go_wp2
                 go_meet
                 case rel=>exact⟨_,(y277),H',⟨by have:=HJ1.out;have:=HK2.out;have:=HK3.out;have:=HJ21.out;have:=HJ25.out;first|omega|exact Nat.le_refl _⟩,⟨by first|exact gRo|exact R_ob (Aside0.out (by assumption))⟩,⟨by first|exact gRo|exact R_ob (Aside0.out (by assumption))⟩,⟨gBe⟩⟩
                ·have H':=Aside0.mk H
                 clear H
                 go_wp2
                 go_meet
                 case rel=>exact⟨_,(x5_3),H',⟨by have:=HJ1.out;have:=HK2.out;have:=HK3.out;have:=HJ21.out;have:=HJ25.out;first|omega|exact Nat.le_refl _⟩,⟨by first|exact gRo|exact R_ob (Aside0.out (by assumption))⟩,⟨by first|exact gRo|exact R_ob (Aside0.out (by assumption))⟩,⟨gBe⟩⟩
               case rest=>
                clear HC31
                try clear c10b0
                try clear c17
                try clear c17b0
                try clear c17b1
                try clear c21b0
                obtain⟨kq,x5_30,HA,HJ30,HO_4,HO_5,HB⟩:=hcut
                cases kq with
                |zero=>exact absurd HA.out (by simp[spec_CleanPath.j5])
                |succ kj30=>
                 have H:=HA.out
                 clear HA
                 simp only[spec_CleanPath.j5] at H
                 replace H:=gB H
                 rcases H with⟨rfl,H⟩|⟨rfl,H⟩
                 ·replace H:=gI H
                  rcases H with⟨c39,-,-,H⟩|⟨c39,-,-,H⟩
                  ·have c39b0:((wrap64 (x6_3+1))==(t271.length:Int))=true:=beq_iff_eq.mpr c39
                   have c39b1:((wrap64 (x6_3+1)) != (t271.length:Int))=false:=bne_eq_false_iff_eq.mpr c39
                   clear c39
                   replace H:=gN H
                   obtain⟨c40,-,-,H⟩:=H
                   have LMc40:=Aside0.mk c40
                   clear c40
                   obtain⟨y280,hy280⟩:∃ y_:List ByteArray,y_=(x5_30 ++ [(⟨#[]⟩:ByteArray)]):=⟨_,rfl⟩
                   replace H:(spec_CleanPath.l1 kj30 t271 y280 (wrap64 (x6_3+1)))=some r:=by first|(rw[hy280];with_reducible exact H)|(have H2_:=(Option.bind_some _ _).symm.trans H;rw[hy280];with_reducible exact H2_)|(have H2_:=(Option.bind_some _ _).symm.trans H;with_reducible exact H2_)|with_reducible exact H|(rw[hy280];exact H)|exact H
                   have Ny280:=Aside0.mk hy280
                   clear hy280
                   have H':=Aside0.mk H
                   clear H
                   go_wp2_with(first|((with_reducible refine gate_builtin (b:=.append) (xs:=#[.tmp 95,.tmp 96]) rfl ?_);(try(refine gate_guard (by rfl) ?_;dsimp only));at_builtin;refine Kd.R_append Kd.string (w0:=w) w.heap.size rfl (.tmp 95) (.tmp 96) 76 9 (.string ⟨#[]⟩) 16 rfl Tryz.underlying76 info9 rfl (by decide) (by omega) u5 x5_30 (⟨#[]⟩:ByteArray) [.string (⟨#[]⟩:ByteArray)] (fun k_=>some k_≠(.slice Ao23 t271.length co23:Value).ownBlock) (fun _=>False) rfl rfl ?aP (fun _ hk=>hk.elim) ?aF ?aO ?aB ?aS ?aL ?_;(case aP=>exact rfl);(case aB=>exact gBe);(case aF=>exact(fun k_ hk=>Kd.fresh' (Kd.R_lt gq20) k_ hk));(case aO=>exact gq16);(case aS=>exact(below_size gBe));(case aL=>have:=LMc40.out;omega);intro v281 w41 ho hb hg hat;rw[← Ny280.out] at ho;have n0_:=Aside0.mk (Kd.R_after (ok:=(fun _=>True)) gq41 hg hat);have n1_:=Aside0.mk (hb);have n2_:=Aside0.mk (ho);clear HO_4;clear HB;clear HO_5;have HO_4:=n0_;have HB:=n1_;have HO282:=n2_;clear n0_ n1_ n2_;clear ho hb hg hat))
                   go_roundg kj30
                   case measure=>have:=HJ1.out;have:=HK2.out;have:=HK3.out;have:=HJ21.out;have:=HJ25.out;have:=HJ30.out;omega
                   case rel=>exact⟨(y280),(wrap64 (x6_3+1)),gq4,H',⟨by have:=HJ1.out;have:=HK2.out;have:=HK3.out;have:=HJ21.out;have:=HJ25.out;have:=HJ30.out;omega⟩,⟨by(with_reducible repeat(first|apply Kd.R_alloc|apply Kd.R_drewN|apply Kd.R_drew));exact Kd.R_mono HO_4.out (fun _ hk=>hk.2)⟩,⟨gRo⟩,⟨gBe⟩⟩
                  ·have c39b0:((wrap64 (x6_3+1))==(t271.length:Int))=false:=beq_eq_false_iff_ne.mpr c39
                   have c39b1:((wrap64 (x6_3+1)) != (t271.length:Int))=true:=bne_iff_ne.mpr c39
                   have H':=Aside0.mk H
                   clear H
                   go_wp2
                   go_roundg kj30
                   case measure=>have:=HJ1.out;have:=HK2.out;have:=HK3.out;have:=HJ21.out;have:=HJ25.out;have:=HJ30.out;omega
                   case rel=>exact⟨(x5_30),(wrap64 (x6_3+1)),gq4,H',⟨by have:=HJ1.out;have:=HK2.out;have:=HK3.out;have:=HJ21.out;have:=HJ25.out;have:=HJ30.out;omega⟩,⟨gRo⟩,⟨gRo⟩,⟨gBe⟩⟩
                 ·replace H:=gN H
                  obtain⟨-,c42b0,-,H⟩:=H
                  replace H:=gN H
                  obtain⟨-,c43b0,-,H⟩:=H
                  replace H:=gN H
                  obtain⟨c44,-,-,H⟩:=H
                  have LMc44:=Aside0.mk c44
                  clear c44
                  obtain⟨y284,hy284⟩:∃ y_:List ByteArray,y_=(x5_30 ++ [rdOf ByteArray.empty t271 x6_3]):=⟨_,rfl⟩
                  replace H:(spec_CleanPath.l1 kj30 t271 y284 (wrap64 (x6_3+1)))=some r:=by first|(rw[hy284];with_reducible exact H)|(have H2_:=(Option.bind_some _ _).symm.trans H;rw[hy284];with_reducible exact H2_)|(have H2_:=(Option.bind_some _ _).symm.trans H;with_reducible exact H2_)|with_reducible exact H|(rw[hy284];exact H)|exact H
                  have Ny284:=Aside0.mk hy284
                  clear hy284
                  have H':=Aside0.mk H
                  clear H
                  have p283:0≤(x6_3:Int):=of_decide_eq_true gq3
                  have q283:x6_3<(t271.length:Int):=of_decide_eq_true gq3
                  obtain⟨ad283,e283,hx283_0⟩:=Kd.at_string (Kd.R_reads' HO_4.out).2.2 x6_3 p283 q283
                  cases e283
                  replace p283:=eq_true p283
                  replace q283:=eq_true q283
                  go_wp2_with(first|((with_reducible refine gate_builtin (b:=.append) (xs:=#[.tmp 83,.tmp 88]) rfl ?_);(try(refine gate_guard (by rfl) ?_;dsimp only));at_builtin;refine Kd.R_append Kd.string (w0:=w) w.heap.size rfl (.tmp 83) (.tmp 88) 76 9 (.string ⟨#[]⟩) 16 rfl Tryz.underlying76 info9 rfl (by decide) (by omega) u5 x5_30 (rdOf ByteArray.empty t271 x6_3) [.string (rdOf ByteArray.empty t271 x6_3)] (fun k_=>some k_≠(.slice (some ad283) t271.length co23:Value).ownBlock) (fun _=>False) rfl rfl ?aP (fun _ hk=>hk.elim) ?aF ?aO ?aB ?aS ?aL ?_;(case aP=>exact rfl);(case aB=>exact gBe);(case aF=>exact(fun k_ hk=>Kd.fresh' (Kd.R_lt gq20) k_ hk));(case aO=>exact gq16);(case aS=>exact(below_size gBe));(case aL=>have:=LMc44.out;omega);intro v285 w45 ho hb hg hat;rw[← Ny284.out] at ho;have n0_:=Aside0.mk (Kd.R_after (ok:=(fun _=>True)) gq41 hg hat);have n1_:=Aside0.mk (hb);have n2_:=Aside0.mk (ho);clear HO_4;clear HB;clear HO_5;have HO_4:=n0_;have HB:=n1_;have HO286:=n2_;clear n0_ n1_ n2_;clear ho hb hg hat))
                  go_roundg kj30
                  case measure=>have:=HJ1.out;have:=HK2.out;have:=HK3.out;have:=HJ21.out;have:=HJ25.out;have:=HJ30.out;omega
                  case rel=>exact⟨(y284),(wrap64 (x6_3+1)),gq4,H',⟨by have:=HJ1.out;have:=HK2.out;have:=HK3.out;have:=HJ21.out;have:=HJ25.out;have:=HJ30.out;omega⟩,⟨by(with_reducible repeat(first|apply Kd.R_alloc|apply Kd.R_drewN|apply Kd.R_drew));exact Kd.R_mono HO_4.out (fun _ hk=>hk.2)⟩,⟨gRo⟩,⟨gBe⟩⟩
          ·have H':=Aside0.mk H
           clear H
           obtain⟨Ao46,co46,eo46⟩:=Kd.R_slice HO_4.out
           subst eo46
           go_wp2
           go_loopg [8,9] k3 (fun kq v8 v9 w'=>∃(x8_4:ByteArray) (x9_4:Int),v8 = .string x8_4∧v9 = .int .i64 x9_4∧Aside0 (spec_CleanPath.l2 kq x5_3 x8_4 x9_4=some r)∧Aside0 (kq≤k3)∧Aside0 (Kd.R Kd.string 9 w' w.heap.size (fun _=>True) u5 x5_3)∧Aside0 (Below w.heap.size w w'))
           case atStart=>exact⟨((⟨#[]⟩:ByteArray)),(0),gq4,gq4,H',⟨Nat.le_refl _⟩,⟨by(with_reducible repeat(first|apply Kd.R_alloc|apply Kd.R_drewN|apply Kd.R_drew));exact Kd.R_mono HO_5.out (fun _ hk=>trivial)⟩,⟨gBe⟩⟩
           case round=>
            clear H'
            try clear c10b0
            try clear c17
            try clear c17b0
            try clear c17b1
            try clear c21b0
            obtain⟨x8_4,x9_4,rfl,rfl,HA,HK4,HO_5,HB⟩:=hrel
            cases gk with
            |zero=>exact absurd HA.out (by simp[spec_CleanPath.l2])
            |succ k4=>
             have H:=HA.out
             clear HA
             simp only[spec_CleanPath.l2] at H
             replace H:=gI H
             rcases H with⟨-,c47b0,-,H⟩|⟨-,c47b0,-,H⟩
             ·replace H:=gN H
              obtain⟨c48,c48b1,c48b0,H⟩:=H
              try have c48b2:(9223372036854775807<x8_4.size+1)=False:=eq_false (Nat.not_lt.2 c48)
              replace H:=gN H
              obtain⟨-,c49b0,-,H⟩:=H
              replace H:=gN H
              obtain⟨c50,c50b1,c50b0,H⟩:=H
              try have c50b2:(9223372036854775807<(x8_4++(⟨#[47]⟩:ByteArray)).size+(rdOf ByteArray.empty x5_3 x9_4).size)=False:=eq_false (Nat.not_lt.2 c50)
              try have c50b3:(9223372036854775807<x8_4.size+1+(rdOf ByteArray.empty x5_3 x9_4).size)=False:=by have h_:=c50;simp only[ByteArray.size_append] at h_;exact eq_false (Nat.not_lt.2 h_)
              have H':=Aside0.mk H
              clear H
              obtain⟨Ao51,co51,eo51⟩:=Kd.R_slice HO_5.out
              subst eo51
              have p287:0≤(x9_4:Int):=of_decide_eq_true gq3
              have q287:x9_4<(x5_3.length:Int):=of_decide_eq_true gq3
              obtain⟨ad287,e287,hx287_0⟩:=Kd.at_string (Kd.R_reads' HO_5.out).2.2 x9_4 p287 q287
              cases e287
              replace p287:=eq_true p287
              replace q287:=eq_true q287
              go_wp2
              go_roundg k4
              case measure=>have:=HJ1.out;have:=HK2.out;have:=HK3.out;have:=HK4.out;omega
              case rel=>exact⟨((x8_4++(⟨#[47]⟩:ByteArray))++(rdOf ByteArray.empty x5_3 x9_4)),(wrap64 (x9_4+1)),gq4,gq4,H',⟨by have:=HJ1.out;have:=HK2.out;have:=HK3.out;have:=HK4.out;omega⟩,⟨gRo⟩,⟨gBe⟩⟩
             ·replace H:=gI H
              rcases H with⟨c52,-,-,H⟩|⟨c52,-,-,H⟩
              ·have c52b0:(x8_4.toList==([]:List UInt8))=true:=beq_iff_eq.mpr c52
               have c52b1:(x8_4.toList != ([]:List UInt8))=false:=bne_eq_false_iff_eq.mpr c52
               clear c52
               obtain rfl:=Option.some.inj H
               obtain⟨Ao53,co53,eo53⟩:=Kd.R_slice HO_5.out
               subst eo53
               go_wp2
               go_ret
               exact⟨gq2,gBe⟩
              ·have c52b0:(x8_4.toList==([]:List UInt8))=false:=beq_eq_false_iff_ne.mpr c52
               have c52b1:(x8_4.toList != ([]:List UInt8))=true:=bne_iff_ne.mpr c52
               obtain rfl:=Option.some.inj H
               obtain⟨Ao54,co54,eo54⟩:=Kd.R_slice HO_5.out
               subst eo54
               go_wp2
               go_ret
               exact⟨gq2,gBe⟩
       ·exact absurd H (by simp)

end Go.Proofs.YtfhllanhldbkkaaGreatDoor.P
