/- Words of our own, third file: short forms for what the printed walks say again and again. A premise that is nearly always shown the same way has that way as its default. -/
import Derived.Test.YtfhllanhldbkkaaGreatDoorWMore
import Derived.Test.YtfhllanhldbkkaaGreatDoorWLast
import Derived.Test.YtfhllanhldbkkaaGreatDoorWGuard
import Derived.Tactics
import Derived.KernelRfl
import Derived.RowKit3
namespace Go.Proofs.YtfhllanhldbkkaaGreatDoorW.PrintMore
open Go.RowKit Go.Proofs.YtfhllanhldbkkaaGreatDoorW.PrintWords Go.Proofs.YtfhllanhldbkkaaGreatDoorW.PrintLast
set_option linter.unusedVariables false
theorem gBe {p:Prop} (h:p:=by repeat(first|(with_reducible first|exact HB.out|apply below_alloc|apply pw_below_drewN|apply below_drew1|refine below_set ?_ (Aside0.out (by assumption)))|exact HB.out)):p:=h
theorem blk_farA {w:World} {g h i:Nat} {t:TypeId} {cs:Array Value} (hp:Aside0 (g≠h)) (hw:w.heap[g]? = some (.cells cs t (0,0))) (u:Value):(w.setCell ⟨h,i,none⟩ u).heap[g]? = some (.cells cs t (0,0)):=blk_far hw hp.out u
theorem gBk {p:Prop} (h:p:=by repeat(first|(with_reducible first|exact Aside0.out (by assumption)|apply blk_put|(apply blk_farA;assumption)|apply blk_drewN|apply blk_drew|apply blk_alloc)|exact(rfl:(_:Array Value)=_))):p:=h
theorem gRo {p:Prop} (h:p:=by(with_reducible repeat(first|apply Kd.R_alloc|apply Kd.R_drewN|apply Kd.R_drew));exact Aside0.out (by assumption)):p:=h
theorem beA {w W w2:World} (hb:Below W.heap.size W w2) (h:Below w.heap.size w W:=by exact gBe):Aside0 (Below w.heap.size w w2):=⟨below_step h hb⟩
theorem geA {w W:World} {g:Nat} (hg:g=W.heap.size) (h:Below w.heap.size w W:=by exact gBe):Aside0 (w.heap.size≤g):=⟨by rw[hg];exact below_size h⟩
theorem neA {W:World} {g h:Nat} {o:Obj} (hg:h=W.heap.size) (hk:W.heap[g]? = some o:=by exact gBk):Aside0 (g≠h):=⟨by rw[hg];exact Nat.ne_of_lt (blk_lt hk)⟩
theorem neB {g h:Nat} (k:Aside0 (g≠h)):Aside0 (h≠g):=⟨fun e=>k.out e.symm⟩
theorem blA {W w1:World} {g:Nat} {o:Obj} (hb:Below W.heap.size W w1) (h:W.heap[g]? = some o:=by exact gBk):Aside0 (w1.heap[g]? = some o):=⟨blk_below h hb⟩
section
variable {w:World} {g:Nat} {t:TypeId} {l:List Value} {v0 v1 v2 v3 v4 v5 v6 v7:Value}
theorem cz0 (h:Aside0 (w.heap[g]? = some (.cells (List.toArray (v0::l)) t (0,0)))):w.cell? ⟨g,0,none⟩=some v0:=(blk_cell h.out 0).trans rfl
theorem cz1 (h:Aside0 (w.heap[g]? = some (.cells (List.toArray (v0::v1::l)) t (0,0)))):w.cell? ⟨g,1,none⟩=some v1:=(blk_cell h.out 1).trans rfl
theorem cz2 (h:Aside0 (w.heap[g]? = some (.cells (List.toArray (v0::v1::v2::l)) t (0,0)))):w.cell? ⟨g,2,none⟩=some v2:=(blk_cell h.out 2).trans rfl
theorem cz3 (h:Aside0 (w.heap[g]? = some (.cells (List.toArray (v0::v1::v2::v3::l)) t (0,0)))):w.cell? ⟨g,3,none⟩=some v3:=(blk_cell h.out 3).trans rfl
theorem cz4 (h:Aside0 (w.heap[g]? = some (.cells (List.toArray (v0::v1::v2::v3::v4::l)) t (0,0)))):w.cell? ⟨g,4,none⟩=some v4:=(blk_cell h.out 4).trans rfl
theorem cz5 (h:Aside0 (w.heap[g]? = some (.cells (List.toArray (v0::v1::v2::v3::v4::v5::l)) t (0,0)))):w.cell? ⟨g,5,none⟩=some v5:=(blk_cell h.out 5).trans rfl
theorem cz6 (h:Aside0 (w.heap[g]? = some (.cells (List.toArray (v0::v1::v2::v3::v4::v5::v6::l)) t (0,0)))):w.cell? ⟨g,6,none⟩=some v6:=(blk_cell h.out 6).trans rfl
end
section
variable {p:Prop} [Decidable p] {α:Type} {a b r:α}
theorem gI (h:(if p then a else b)=r):(p∧decide p=true∧p=True∧a=r)∨(¬p∧decide p=false∧p=False∧b=r):=by
  by_cases hp:p
  · exact .inl ⟨hp,decide_eq_true hp,eq_true hp,(if_pos hp).symm.trans h⟩
  · exact .inr ⟨hp,decide_eq_false hp,eq_false hp,(if_neg hp).symm.trans h⟩
end
theorem gN {p:Prop} [Decidable p] {α:Type} {a:Option α} {r:α} (h:(if p then a else none)=some r):p∧decide p=true∧p=True∧a=some r:=by
  rcases gI h with h|h
  · exact h
  · cases h.2.2.2
theorem gB {x:Bool} {α:Type} {a b r:α} (h:(if x=true then a else b)=r):(x=true∧a=r)∨(x=false∧b=r):=by
  cases x
  · exact .inr ⟨rfl,h⟩
  · exact .inl ⟨rfl,h⟩
theorem gD {α β:Type} {o:Option α} {f:α→Option β} {r:β} (h:o.bind f=some r):∃ x,Aside0 (o=some x)∧f x=some r:=by
  obtain⟨x,h1,h2⟩:=Option.bind_eq_some_iff.mp h
  exact⟨x,⟨h1⟩,h2⟩
section
variable {w:World} {g:Nat} {t:TypeId} {l:List Value} {cs:Array Value} {v0 v1 v2 v3 v4 v5 v6 v7:Value}
theorem czA2 (h:Aside0 (w.heap[g]? = some (.cells (List.toArray (v0::v1::l)) t (0,0)))):w.cell? ⟨g,0,none⟩=some v0∧w.cell? ⟨g,1,none⟩=some v1:=⟨cz0 h,cz1 h⟩
theorem czA3 (h:Aside0 (w.heap[g]? = some (.cells (List.toArray (v0::v1::v2::l)) t (0,0)))):w.cell? ⟨g,0,none⟩=some v0∧w.cell? ⟨g,1,none⟩=some v1∧w.cell? ⟨g,2,none⟩=some v2:=⟨cz0 h,cz1 h,cz2 h⟩
theorem czA5 (h:Aside0 (w.heap[g]? = some (.cells (List.toArray (v0::v1::v2::v3::v4::l)) t (0,0)))):w.cell? ⟨g,0,none⟩=some v0∧w.cell? ⟨g,1,none⟩=some v1∧w.cell? ⟨g,2,none⟩=some v2∧w.cell? ⟨g,3,none⟩=some v3∧w.cell? ⟨g,4,none⟩=some v4:=⟨cz0 h,cz1 h,cz2 h,cz3 h,cz4 h⟩
theorem czA7 (h:Aside0 (w.heap[g]? = some (.cells (List.toArray (v0::v1::v2::v3::v4::v5::v6::l)) t (0,0)))):w.cell? ⟨g,0,none⟩=some v0∧w.cell? ⟨g,1,none⟩=some v1∧w.cell? ⟨g,2,none⟩=some v2∧w.cell? ⟨g,3,none⟩=some v3∧w.cell? ⟨g,4,none⟩=some v4∧w.cell? ⟨g,5,none⟩=some v5∧w.cell? ⟨g,6,none⟩=some v6:=⟨cz0 h,cz1 h,cz2 h,cz3 h,cz4 h,cz5 h,cz6 h⟩
theorem cfA2 (h:Aside0 (w.heap[g]? = some (.cells cs t (0,0)))):w.frozen? ⟨g,0,none⟩=false∧w.frozen? ⟨g,1,none⟩=false:=⟨blk_frozen h.out 0,blk_frozen h.out 1⟩
theorem cfA5 (h:Aside0 (w.heap[g]? = some (.cells cs t (0,0)))):w.frozen? ⟨g,0,none⟩=false∧w.frozen? ⟨g,1,none⟩=false∧w.frozen? ⟨g,2,none⟩=false∧w.frozen? ⟨g,3,none⟩=false∧w.frozen? ⟨g,4,none⟩=false:=⟨blk_frozen h.out 0,blk_frozen h.out 1,blk_frozen h.out 2,blk_frozen h.out 3,blk_frozen h.out 4⟩
theorem cfA7 (h:Aside0 (w.heap[g]? = some (.cells cs t (0,0)))):w.frozen? ⟨g,0,none⟩=false∧w.frozen? ⟨g,1,none⟩=false∧w.frozen? ⟨g,2,none⟩=false∧w.frozen? ⟨g,3,none⟩=false∧w.frozen? ⟨g,4,none⟩=false∧w.frozen? ⟨g,5,none⟩=false∧w.frozen? ⟨g,6,none⟩=false:=⟨blk_frozen h.out 0,blk_frozen h.out 1,blk_frozen h.out 2,blk_frozen h.out 3,blk_frozen h.out 4,blk_frozen h.out 5,blk_frozen h.out 6⟩
end
theorem gFar {α:Type} {d:Kd α} {e:TypeId} {w0 w:World} {base:Nat} {ok ok':Nat→Prop} {v:Value} {xs:List α} (q:d.R e w0 base ok v xs) (G:∀ k,ok k→ok' k)
    (h:d.R e w0 base ok v xs→d.R e w base ok v xs:=by intro q_;repeat(first|with_reducible exact q_|(with_reducible first|apply Kd.R_drewN|apply Kd.R_drew|apply Kd.R_alloc)|refine Kd.R_far ?_ (by first|exact fun _ hk=>hk.2|exact fun _ hk=>hk.1.2|exact fun _ hk=>hk.1.1.2) _)):d.R e w base ok' v xs:=Kd.R_mono (h q) G
section
variable {P:Program} {ops:Array Oper} {rest:List Oper} {o:Oper} {a:Act} {Q:Exit→Act→World→Prop}
theorem boxA {W:World} (cs:Array Value) (t:TypeId) (h:∀ g,g=W.heap.size→∀ w1,w1.heap[g]? = some (.cells cs t (0,0))→Below W.heap.size W w1→wpList P ops Q rest (a.put o.dst (.pointer (some ⟨g,0,none⟩))) w1) (hg:o.guard=none:=by rfl)
    (hrun:(execOp a.eval o).run P W = .ok (.value (.pointer (some ⟨W.heap.size,0,none⟩))) (W.alloc (.cells cs t (0,0))):=by first|(go_simp;done)|(go_simp;rfl)):wpList P ops Q (o::rest) a W:=Kd.event_run hg hrun (h _ rfl _ (blk_new W _) (below_alloc (Below.refl _ _) _))
theorem boxG {W:World} (cs:Array Value) (t:TypeId) (h:∀ g,g=W.heap.size→∀ w1,w1.heap[g]? = some (.cells cs t (0,0))→Below W.heap.size W w1→wpList P ops Q rest (a.put o.dst (.pointer (some ⟨g,0,none⟩))) w1) (hw:Region.wanted o (yielded ops a.tmps)=true:=by rfl)
    (hrun:(execOp a.eval { o with guard:=none }).run P W = .ok (.value (.pointer (some ⟨W.heap.size,0,none⟩))) (W.alloc (.cells cs t (0,0))):=by first|(dsimp only;go_simp;done)|(dsimp only;go_simp;rfl)):wpList P ops Q (o::rest) a W:=
  gate_guard hw (Kd.event_run (o:={ o with guard:=none }) rfl hrun (h _ rfl _ (blk_new W _) (below_alloc (Below.refl _ _) _)))
end
section
variable {P:Program} {ops:Array Oper} {Q:Exit→Act→World→Prop} {md:Region.Mode} {S:World→Prop} {ds:List Nat}
theorem pureT {oi:Oper} {v:Value} {fuel:Nat} {l l':Array Bool} {a a':Act} {w:World} (i:Nat) (N:Option Tmp) (h:wpAnyLast P md ops Q S ds fuel l' a' w) (hi:ops[i]? = some oi:=by rfl) (hN:oi.dst=N:=by rfl)
    (hl:l.setIfInBounds i true=l':=by(simp only[List.setIfInBounds_toArray,List.set_cons_zero,List.set_cons_succ];rfl))
    (hc:anyB md ops l l' i=true:=by exact any_of HT_.out (by kernel_rfl)) (hQ:∀ c a w,Q (.panic c) (a.put oi.dst v) w→Q (.panic c) a w:=by exact fun _ _ _ h=>h)
    (hy:Yields P ops oi v a:=by exact Or.inl ⟨by rfl,by intro w';go_simp;with_reducible rfl⟩)
    (ha:a.put N v=a':=by(simp only[Act.put,List.setIfInBounds_toArray,List.set_cons_zero,List.set_cons_succ,i64_w,i32_w];rfl)):wpAnyLast P md ops Q S ds (fuel+1) l a w:=pure_ l' hi hN hc hQ hy ha h
theorem pureK {oi:Oper} {v:Value} {fuel:Nat} {l l':Array Bool} {a a':Act} {w:World} (i:Nat) (N:Option Tmp) (h:wpAnyLast P md ops Q S ds fuel l' a' w) (hi:ops[i]? = some oi:=by rfl) (hN:oi.dst=N:=by rfl)
    (hl:l.setIfInBounds i true=l':=by(simp only[List.setIfInBounds_toArray,List.set_cons_zero,List.set_cons_succ];rfl))
    (hc:anyB md ops l l' i=true:=by kernel_rfl) (hQ:∀ c a w,Q (.panic c) (a.put oi.dst v) w→Q (.panic c) a w:=by exact fun _ _ _ h=>h)
    (hy:Yields P ops oi v a:=by exact Or.inl ⟨by rfl,by intro w';go_simp;with_reducible rfl⟩)
    (ha:a.put N v=a':=by(simp only[Act.put,List.setIfInBounds_toArray,List.set_cons_zero,List.set_cons_succ,i64_w,i32_w];rfl)):wpAnyLast P md ops Q S ds (fuel+1) l a w:=pure_ l' hi hN hc hQ hy ha h
theorem takeT_ {oi:Oper} {v:Value} {fuel:Nat} {l l':Array Bool} {a a':Act} {w:World} (i:Nat) (N:Option Tmp) (h:wpAnyLast P md ops Q S ds fuel l' a' w) (hi:ops[i]? = some oi:=by rfl) (hN:oi.dst=N:=by rfl) (hy:YieldsIf P ops S oi v a)
    (hl:l.setIfInBounds i true=l':=by(simp only[List.setIfInBounds_toArray,List.set_cons_zero,List.set_cons_succ];rfl))
    (hc:takeB md ops ds l l' i=true:=by exact take_ofW HT_.out HW_.out (by kernel_rfl)) (hQ:∀ c a w,Q (.panic c) (a.put oi.dst v) w→Q (.panic c) a w:=by exact fun _ _ _ h=>h)
    (hS:S w:=by exact hHeld)
    (ha:a.put N v=a':=by(simp only[Act.put,List.setIfInBounds_toArray,List.set_cons_zero,List.set_cons_succ,i64_w,i32_w];rfl)):wpAnyLast P md ops Q S ds (fuel+1) l a w:=take_ l' hi hN hc hQ hy hS ha h
theorem takeK_ {oi:Oper} {v:Value} {fuel:Nat} {l l':Array Bool} {a a':Act} {w:World} (i:Nat) (N:Option Tmp) (h:wpAnyLast P md ops Q S ds fuel l' a' w) (hi:ops[i]? = some oi:=by rfl) (hN:oi.dst=N:=by rfl) (hy:YieldsIf P ops S oi v a)
    (hl:l.setIfInBounds i true=l':=by(simp only[List.setIfInBounds_toArray,List.set_cons_zero,List.set_cons_succ];rfl))
    (hc:takeB md ops ds l l' i=true:=by kernel_rfl) (hQ:∀ c a w,Q (.panic c) (a.put oi.dst v) w→Q (.panic c) a w:=by exact fun _ _ _ h=>h)
    (hS:S w:=by exact hHeld)
    (ha:a.put N v=a':=by(simp only[Act.put,List.setIfInBounds_toArray,List.set_cons_zero,List.set_cons_succ,i64_w,i32_w];rfl)):wpAnyLast P md ops Q S ds (fuel+1) l a w:=take_ l' hi hN hc hQ hy hS ha h
theorem normA {fuel:Nat} {l:Array Bool} {a a':Act} {v:Value} {w:World} (N:Option Tmp) (h:wpAnyLast P md ops Q S ds fuel l a' w) (ha:a.put N v=a':=by(simp only[Act.put,List.setIfInBounds_toArray,List.set_cons_zero,List.set_cons_succ,i64_w,i32_w];rfl)):wpAnyLast P md ops Q S ds fuel l (a.put N v) w:=norm_ ha h
end
section
variable {P:Program} {fn:Func} {R:Ending→World→Prop} {a:Act} {w:World} {p u v:Tmp} {ty:TypeId} {d:TypeDesc}
theorem rctA (g:Nat) (t:TypeId) (cs:Array Value) (hu:P.underlying ty=some d) (hR:R (.returned (.tuple #[.agg cs,a.tmps.getD u undef])) w) (h:fn.results = #[.cell p ty,.tmp u]:=by rfl)
    (hp:a.tmps.getD p undef = .pointer (some ⟨g,0,none⟩):=by rfl) (hg:w.heap[g]? = some (.cells cs t (0,0)):=by exact gBk)
    (hd:(match d with|.struct _|.array _ _=>true|_=>false)=true:=by rfl) (hi:(P.info? ty).map (·.size)=some cs.size:=by kernel_rfl) (hq:a.defers = []:=by rfl):bodyPost P fn R .ret a w:=
  bodyPost_ret (results_ct h _ _ g t cs (0,0) _ hp hg hu hd hi) hq hR
end
section
variable {P:Program} {ops:Array Oper} {Q:Exit→Act→World→Prop} {md:Region.Mode} {S:World→Prop} {ds:List Nat}
theorem pureF {oi:Oper} {v:Value} {fuel:Nat} {l l':Array Bool} {a a':Act} {w:World} {i:Nat} {N:Tmp} (h:wpAnyLast P md ops Q S ds fuel l' a' w)
    (h0:List.idxOf false l.toList=i:=by(simp only[List.idxOf_cons,beq_self_eq_true,Bool.true_beq,Bool.false_beq,Bool.not_false,Bool.not_true,cond_true,cond_false,Nat.reduceAdd,Nat.zero_add];rfl)) (hi:ops[i]? = some oi:=by rfl) (hN:oi.dst=some N:=by rfl)
    (hl:l.setIfInBounds i true=l':=by(simp only[List.setIfInBounds_toArray,List.set_cons_zero,List.set_cons_succ];rfl))
    (hy:Yields P ops oi v a:=by first|exact Or.inl ⟨by rfl,by intro w';go_simp;with_reducible rfl⟩|exact Or.inr ⟨by rfl,rfl⟩)
    (hc:anyB md ops l l' i=true:=by exact any_of HT_.out (by kernel_rfl)) (hQ:∀ c a w,Q (.panic c) (a.put oi.dst v) w→Q (.panic c) a w:=by exact fun _ _ _ h=>h)
    (ha:a.put (some N) v=a':=by(simp only[Act.put,List.setIfInBounds_toArray,List.set_cons_zero,List.set_cons_succ,i64_w,i32_w];rfl)):wpAnyLast P md ops Q S ds (fuel+1) l a w:=pure_ l' hi hN hc hQ hy ha h
theorem takeF {oi:Oper} {v:Value} {fuel:Nat} {l l':Array Bool} {a a':Act} {w:World} {i:Nat} {N:Tmp} (h:wpAnyLast P md ops Q S ds fuel l' a' w)
    (h0:List.idxOf false l.toList=i:=by(simp only[List.idxOf_cons,beq_self_eq_true,Bool.true_beq,Bool.false_beq,Bool.not_false,Bool.not_true,cond_true,cond_false,Nat.reduceAdd,Nat.zero_add];rfl)) (hi:ops[i]? = some oi:=by rfl) (hN:oi.dst=some N:=by rfl)
    (hl:l.setIfInBounds i true=l':=by(simp only[List.setIfInBounds_toArray,List.set_cons_zero,List.set_cons_succ];rfl)) (hy:YieldsIf P ops S oi v a)
    (hc:takeB md ops ds l l' i=true:=by exact take_ofW HT_.out HW_.out (by kernel_rfl)) (hQ:∀ c a w,Q (.panic c) (a.put oi.dst v) w→Q (.panic c) a w:=by exact fun _ _ _ h=>h)
    (hS:S w:=by exact hHeld)
    (ha:a.put (some N) v=a':=by(simp only[Act.put,List.setIfInBounds_toArray,List.set_cons_zero,List.set_cons_succ,i64_w,i32_w];rfl)):wpAnyLast P md ops Q S ds (fuel+1) l a w:=take_ l' hi hN hc hQ hy hS ha h
theorem oneF {oi:Oper} {fuel:Nat} {l l':Array Bool} {a:Act} {w:World} {i:Nat} {N:Tmp}
    (h:∀ K:Act→World→Prop,Shut (∀ a' w',S w'→(S w'→wpAnyLast P md ops Q S ds fuel l' a' w')→K a' w')→if Region.wanted oi (yielded ops a.tmps)=true then Oper.wp P oi a w K Q else K (a.put (some N) undef) w)
    (h0:List.idxOf false l.toList=i:=by(simp only[List.idxOf_cons,beq_self_eq_true,Bool.true_beq,Bool.false_beq,Bool.not_false,Bool.not_true,cond_true,cond_false,Nat.reduceAdd,Nat.zero_add];rfl)) (hi:ops[i]? = some oi:=by rfl) (hN:oi.dst=some N:=by rfl)
    (hl:l.setIfInBounds i true=l':=by(simp only[List.setIfInBounds_toArray,List.set_cons_zero,List.set_cons_succ];rfl))
    (hc:readyB md ops l l' i=true:=by exact one_of HT_.out (by kernel_rfl)) (hd:i∉ds:=by decide):wpAnyLast P md ops Q S ds (fuel+1) l a w:=one_ l' hi hN hc hd h
theorem normF {fuel:Nat} {l:Array Bool} {a a':Act} {v:Value} {w:World} {N:Tmp} (h:wpAnyLast P md ops Q S ds fuel l a' w) (ha:a.put (some N) v=a':=by(simp only[Act.put,List.setIfInBounds_toArray,List.set_cons_zero,List.set_cons_succ,i64_w,i32_w];rfl)):wpAnyLast P md ops Q S ds fuel l (a.put (some N) v) w:=norm_ ha h
theorem startF {id n:Nat} {a:Act} {w:World} {l:Array Bool} (hS:S w.drew) (h:S w.drew→wpAnyLast P .any ops Q S ds n l a w.drew) (hm:P.follows .mixedOrders=true:=by kernel_rfl) (hn:ops.size=n:=by rfl)
    (hl:Array.replicate n false=l:=by(simp only[← List.toArray_replicate,List.replicate];rfl)):(Code.region id ops true).wp P Q a w:=start_ l hm hn hl hS h
end
theorem czA11 {w:World} {g:Nat} {t:TypeId} {l:List Value} {v0 v1 v2 v3 v4 v5 v6 v7 v8 v9 v10:Value} (h:Aside0 (w.heap[g]? = some (.cells (List.toArray (v0::v1::v2::v3::v4::v5::v6::v7::v8::v9::v10::l)) t (0,0)))):w.cell? ⟨g,0,none⟩=some v0∧w.cell? ⟨g,1,none⟩=some v1∧w.cell? ⟨g,2,none⟩=some v2∧w.cell? ⟨g,3,none⟩=some v3∧w.cell? ⟨g,4,none⟩=some v4∧w.cell? ⟨g,5,none⟩=some v5∧w.cell? ⟨g,6,none⟩=some v6∧w.cell? ⟨g,7,none⟩=some v7∧w.cell? ⟨g,8,none⟩=some v8∧w.cell? ⟨g,9,none⟩=some v9∧w.cell? ⟨g,10,none⟩=some v10:=⟨(blk_cell h.out 0).trans rfl,(blk_cell h.out 1).trans rfl,(blk_cell h.out 2).trans rfl,(blk_cell h.out 3).trans rfl,(blk_cell h.out 4).trans rfl,(blk_cell h.out 5).trans rfl,(blk_cell h.out 6).trans rfl,(blk_cell h.out 7).trans rfl,(blk_cell h.out 8).trans rfl,(blk_cell h.out 9).trans rfl,(blk_cell h.out 10).trans rfl⟩
theorem cfA11 {w:World} {g:Nat} {t:TypeId} {cs:Array Value} (h:Aside0 (w.heap[g]? = some (.cells cs t (0,0)))):w.frozen? ⟨g,0,none⟩=false∧w.frozen? ⟨g,1,none⟩=false∧w.frozen? ⟨g,2,none⟩=false∧w.frozen? ⟨g,3,none⟩=false∧w.frozen? ⟨g,4,none⟩=false∧w.frozen? ⟨g,5,none⟩=false∧w.frozen? ⟨g,6,none⟩=false∧w.frozen? ⟨g,7,none⟩=false∧w.frozen? ⟨g,8,none⟩=false∧w.frozen? ⟨g,9,none⟩=false∧w.frozen? ⟨g,10,none⟩=false:=⟨blk_frozen h.out 0,blk_frozen h.out 1,blk_frozen h.out 2,blk_frozen h.out 3,blk_frozen h.out 4,blk_frozen h.out 5,blk_frozen h.out 6,blk_frozen h.out 7,blk_frozen h.out 8,blk_frozen h.out 9,blk_frozen h.out 10⟩
theorem gq0 {p:Prop} (h:p:=by(try simp only[List.map_toArray,List.map_cons,List.map_nil]);first|done|rfl|(simp only[List.length_drop,List.length_take];rfl)):p:=h
theorem gq2 {p:Prop} (h:p:=by first|rfl|(simp[errW_none,errW_some] <;> rfl)|(simp[*,errW_none,errW_some] <;> rfl)):p:=h
theorem gq3 {p:Prop} (h:p:=by first|(with_reducible assumption)|assumption):p:=h
theorem gq4 {p:Prop} (h:p:=by first|rfl|(simp;done)|(simp[*];done)):p:=h
theorem gq5 {p:Prop} (h:p:=by repeat(first|exact Drawn0.refl _|apply Drawn0.step)):p:=h
theorem gq7 {p:Prop} (h:p:=by rintro w' ⟨s0,s1,s2,s3,s4⟩;go_simp;with_reducible rfl):p:=h
theorem gq8 {p:Prop} (h:p:=by first|omega|exact Nat.le_refl _):p:=h
theorem gq9 {p:Prop} (h:p:=by(with_reducible repeat(first|apply Kd.R_alloc|apply Kd.R_drewN|apply Kd.R_drew));exact HO_3.out):p:=h
theorem gq11 {p:Prop} (h:p:=by first|exact Kd.R_nil _ _ _ _ _|exact Kd.N_nil _ _ _ _ _|exact Kd.V_nil _ _ _ _ _|exact Kd.Q_nil _ _ _ _ _|exact Kd.S_nil _ _ _ _ _):p:=h
theorem gq12 {p:Prop} (h:p:=by rintro w' ⟨s0,s1,s2,s3,s4,s5,s6,s7,s8,s9,s10,s11,s12,s13,s14,s15,s16,s17,s18,s19,s20,s21⟩;go_simp;with_reducible rfl):p:=h
theorem gq13 {p:Prop} (h:p:=by(try simp only[List.map_toArray,List.map_cons,List.map_nil]);first|done|rfl):p:=h
theorem gq16 {p:Prop} (h:p:=by(with_reducible repeat(first|apply Kd.R_alloc|apply Kd.R_drewN|apply Kd.R_drew));exact HO_5.out):p:=h
theorem gq20 {p:Prop} (h:p:=by(with_reducible repeat(first|apply Kd.R_alloc|apply Kd.R_drewN|apply Kd.R_drew));exact HO_4.out):p:=h
theorem gq32 {p:Prop} (h:p:=by(with_reducible repeat(first|apply Kd.R_alloc|apply Kd.R_drewN|apply Kd.R_drew));exact HO947.out):p:=h
theorem gq33 {p:Prop} (h:p:=by(with_reducible repeat(first|apply Kd.R_alloc|apply Kd.R_drewN|apply Kd.R_drew));exact HO955.out):p:=h
theorem gq34 {p:Prop} (h:p:=by rintro w' ⟨s0,s1⟩;go_simp;with_reducible rfl):p:=h
theorem gq40 {p:Prop} (h:p:=by have:=HK1.out;first|omega|exact Nat.le_refl _):p:=h
theorem gq41 {p:Prop} (h:p:=by(with_reducible repeat(first|apply Kd.R_alloc|apply Kd.R_drewN|apply Kd.R_drew));exact Kd.R_mono HO_4.out (fun _ hk=>⟨trivial,hk⟩)):p:=h
theorem gq44 {p:Prop} (h:p:=by have:=HJ1.out;have:=HK2.out;omega):p:=h
theorem gq46 {p:Prop} (h:p:=by(try simp only[List.map_toArray,List.map_cons,List.map_nil]);first|done|(simp only[hji13];rfl)|rfl|(simp only[List.length_drop,List.length_take];rfl)):p:=h
theorem gq47 {p:Prop} (h:p:=by(with_reducible repeat(first|apply Kd.R_alloc|apply Kd.R_drewN|apply Kd.R_drew));exact HO_21.out):p:=h
theorem gq48 {p:Prop} (h:p:=by(with_reducible repeat(first|apply Kd.R_alloc|apply Kd.R_drewN|apply Kd.R_drew));exact HO_29.out):p:=h
theorem gq50 {p:Prop} (h:p:=by simp only[putAll,Act.put,List.setIfInBounds_toArray,List.set_cons_zero,List.set_cons_succ]):p:=h
theorem gq53 {p:Prop} (h:p:=by have:=HJ1.out;first|omega|exact Nat.le_refl _):p:=h
theorem gq68 {p:Prop} (h:p:=by(with_reducible repeat(first|apply Kd.R_alloc|apply Kd.R_drewN|apply Kd.R_drew));exact HO963.out):p:=h
theorem gq69 {p:Prop} (h:p:=by(with_reducible repeat(first|apply Kd.R_alloc|apply Kd.R_drewN|apply Kd.R_drew));exact HO971.out):p:=h
theorem gq70 {p:Prop} (h:p:=by(with_reducible repeat(first|apply Kd.R_alloc|apply Kd.R_drewN|apply Kd.R_drew));exact HO200.out):p:=h
theorem gq75 {p:Prop} (h:p:=by have:=HJ1.out;have:=HK2.out;have:=HK3.out;omega):p:=h
theorem gq76 {p:Prop} (h:p:=by have:=HK1.out;have:=HJ2.out;omega):p:=h
theorem gq78 {p:Prop} (h:p:=by rintro w' ⟨s0,s1,s2,s3⟩;go_simp;with_reducible rfl):p:=h
theorem gq79 {p:Prop} (h:p:=by rw[← add_field _ _ 1 (by omega)];exact hc 1 _ rfl):p:=h
theorem gq80 {p:Prop} (h:p:=by first|exact HB.out|exact gBe):p:=h
end Go.Proofs.YtfhllanhldbkkaaGreatDoorW.PrintMore
