/- Words of our own, third file: short forms for what the printed walks say again and again. A premise that is nearly always shown the same way has that way as its default. -/
import Derived.Test.YtfhllanhldbkkaaGreatDoorWMore
import Derived.Test.YtfhllanhldbkkaaGreatDoorWLast
import Derived.Test.YtfhllanhldbkkaaGreatDoorWGuard
import Derived.Tactics
import Derived.KernelRfl
import Derived.RowKit3
namespace Go.Proofs.YtfhllanhldbkkaaGreatDoorW.aH
open Go.RowKit Go.Proofs.YtfhllanhldbkkaaGreatDoorW.ax Go.Proofs.YtfhllanhldbkkaaGreatDoorW.aD
set_option linter.unusedVariables false
theorem dN {p:Prop} (h:p:=by repeat(first|(with_reducible first|exact HB.out|apply oq|apply Cv|apply di|refine IK ?_ (ae.out (by assumption)))|exact HB.out)):p:=h
theorem Nk {w:World} {g h i:Nat} {t:TypeId} {cs:Array Value} (hp:ae (g≠h)) (hw:w.heap[g]? = some (.cells cs t (0,0))) (u:Value):(w.setCell ⟨h,i,none⟩ u).heap[g]? = some (.cells cs t (0,0)):=wT hw hp.out u
theorem yg {p:Prop} (h:p:=by repeat(first|(with_reducible first|exact ae.out (by assumption)|apply lK|(apply Nk;assumption)|apply dm|apply bJ|apply dD)|exact(rfl:(_:Array Value)=_))):p:=h
theorem Ah {p:Prop} (h:p:=by(with_reducible repeat(first|apply Kd.dW|apply Kd.dU|apply Kd.ek));exact ae.out (by assumption)):p:=h
theorem dS {w W w2:World} (hb:Below W.heap.size W w2) (h:Below w.heap.size w W:=by exact dN):ae (Below w.heap.size w w2):=⟨Rk h hb⟩
theorem jL {w W:World} {g:Nat} (hg:g=W.heap.size) (h:Below w.heap.size w W:=by exact dN):ae (w.heap.size≤g):=⟨by rw[hg];exact bY h⟩
theorem J3 {W:World} {g h:Nat} {o:Obj} (hg:h=W.heap.size) (hk:W.heap[g]? = some o:=by exact yg):ae (g≠h):=⟨by rw[hg];exact Nat.ne_of_lt (F4 hk)⟩
theorem LG {g h:Nat} (k:ae (g≠h)):ae (h≠g):=⟨fun e=>k.out e.symm⟩
theorem iG {W w1:World} {g:Nat} {o:Obj} (hb:Below W.heap.size W w1) (h:W.heap[g]? = some o:=by exact yg):ae (w1.heap[g]? = some o):=⟨IG h hb⟩
section
variable {w:World} {g:Nat} {t:TypeId} {l:List Value} {v0 v1 v2 v3 v4 v5 v6 v7:Value}
theorem Nl (h:ae (w.heap[g]? = some (.cells (List.toArray (v0::l)) t (0,0)))):w.cell? ⟨g,0,none⟩=some v0:=(ai h.out 0).trans rfl
theorem Nn (h:ae (w.heap[g]? = some (.cells (List.toArray (v0::v1::l)) t (0,0)))):w.cell? ⟨g,1,none⟩=some v1:=(ai h.out 1).trans rfl
theorem WH (h:ae (w.heap[g]? = some (.cells (List.toArray (v0::v1::v2::l)) t (0,0)))):w.cell? ⟨g,2,none⟩=some v2:=(ai h.out 2).trans rfl
theorem Zo (h:ae (w.heap[g]? = some (.cells (List.toArray (v0::v1::v2::v3::l)) t (0,0)))):w.cell? ⟨g,3,none⟩=some v3:=(ai h.out 3).trans rfl
theorem WI (h:ae (w.heap[g]? = some (.cells (List.toArray (v0::v1::v2::v3::v4::l)) t (0,0)))):w.cell? ⟨g,4,none⟩=some v4:=(ai h.out 4).trans rfl
theorem Rt (h:ae (w.heap[g]? = some (.cells (List.toArray (v0::v1::v2::v3::v4::v5::l)) t (0,0)))):w.cell? ⟨g,5,none⟩=some v5:=(ai h.out 5).trans rfl
theorem cz6 (h:ae (w.heap[g]? = some (.cells (List.toArray (v0::v1::v2::v3::v4::v5::v6::l)) t (0,0)))):w.cell? ⟨g,6,none⟩=some v6:=(ai h.out 6).trans rfl
end
section
variable {p:Prop} [Decidable p] {α:Type} {a b r:α}
theorem gI (h:(if p then a else b)=r):(p∧decide p=true∧p=True∧a=r)∨(¬p∧decide p=false∧p=False∧b=r):=by
  by_cases hp:p
  · exact .inl ⟨hp,decide_eq_true hp,eq_true hp,(if_pos hp).symm.trans h⟩
  · exact .inr ⟨hp,decide_eq_false hp,eq_false hp,(if_neg hp).symm.trans h⟩
end
theorem gN {p:Prop} [Decidable p] {α:Type} {a:Option α} {r:α} (h:(if p then a else none)=some r):p∧decide p=true∧p=True∧a=some r:=by
  rcases gI h with h|h
  · exact h
  · cases h.2.2.2
theorem gB {x:Bool} {α:Type} {a b r:α} (h:(if x=true then a else b)=r):(x=true∧a=r)∨(x=false∧b=r):=by
  cases x
  · exact .inr ⟨rfl,h⟩
  · exact .inl ⟨rfl,h⟩
theorem rD {α:Type} [BEq α] [LawfulBEq α] {a b:α} (h:a=b):(a==b)=true∧(a != b)=false:=⟨beq_iff_eq.mpr h,bne_eq_false_iff_eq.mpr h⟩
theorem rO {α:Type} [BEq α] [LawfulBEq α] {a b:α} (h:¬ a=b):(a==b)=false∧(a != b)=true:=⟨beq_eq_false_iff_ne.mpr h,bne_iff_ne.mpr h⟩
theorem gD {α β:Type} {o:Option α} {f:α→Option β} {r:β} (h:o.bind f=some r):∃ x,ae (o=some x)∧f x=some r:=by
  obtain⟨x,h1,h2⟩:=Option.bind_eq_some_iff.mp h
  exact⟨x,⟨h1⟩,h2⟩
section
variable {w:World} {g:Nat} {t:TypeId} {l:List Value} {cs:Array Value} {v0 v1 v2 v3 v4 v5 v6 v7:Value}
theorem EB (h:ae (w.heap[g]? = some (.cells (List.toArray (v0::v1::l)) t (0,0)))):w.cell? ⟨g,0,none⟩=some v0∧w.cell? ⟨g,1,none⟩=some v1:=⟨Nl h,Nn h⟩
theorem VG (h:ae (w.heap[g]? = some (.cells (List.toArray (v0::v1::v2::l)) t (0,0)))):w.cell? ⟨g,0,none⟩=some v0∧w.cell? ⟨g,1,none⟩=some v1∧w.cell? ⟨g,2,none⟩=some v2:=⟨Nl h,Nn h,WH h⟩
theorem mV (h:ae (w.heap[g]? = some (.cells (List.toArray (v0::v1::v2::v3::v4::l)) t (0,0)))):w.cell? ⟨g,0,none⟩=some v0∧w.cell? ⟨g,1,none⟩=some v1∧w.cell? ⟨g,2,none⟩=some v2∧w.cell? ⟨g,3,none⟩=some v3∧w.cell? ⟨g,4,none⟩=some v4:=⟨Nl h,Nn h,WH h,Zo h,WI h⟩
theorem kY (h:ae (w.heap[g]? = some (.cells (List.toArray (v0::v1::v2::v3::v4::v5::l)) t (0,0)))):w.cell? ⟨g,0,none⟩=some v0∧w.cell? ⟨g,1,none⟩=some v1∧w.cell? ⟨g,2,none⟩=some v2∧w.cell? ⟨g,3,none⟩=some v3∧w.cell? ⟨g,4,none⟩=some v4∧w.cell? ⟨g,5,none⟩=some v5:=⟨Nl h,Nn h,WH h,Zo h,WI h,Rt h⟩
theorem rM (h:ae (w.heap[g]? = some (.cells (List.toArray (v0::v1::v2::v3::v4::v5::v6::l)) t (0,0)))):w.cell? ⟨g,0,none⟩=some v0∧w.cell? ⟨g,1,none⟩=some v1∧w.cell? ⟨g,2,none⟩=some v2∧w.cell? ⟨g,3,none⟩=some v3∧w.cell? ⟨g,4,none⟩=some v4∧w.cell? ⟨g,5,none⟩=some v5∧w.cell? ⟨g,6,none⟩=some v6:=⟨Nl h,Nn h,WH h,Zo h,WI h,Rt h,cz6 h⟩
theorem Jt (h:ae (w.heap[g]? = some (.cells cs t (0,0)))):w.frozen? ⟨g,0,none⟩=false∧w.frozen? ⟨g,1,none⟩=false:=⟨aM h.out 0,aM h.out 1⟩
theorem vz (h:ae (w.heap[g]? = some (.cells cs t (0,0)))):w.frozen? ⟨g,0,none⟩=false∧w.frozen? ⟨g,1,none⟩=false∧w.frozen? ⟨g,2,none⟩=false∧w.frozen? ⟨g,3,none⟩=false∧w.frozen? ⟨g,4,none⟩=false:=⟨aM h.out 0,aM h.out 1,aM h.out 2,aM h.out 3,aM h.out 4⟩
theorem qK (h:ae (w.heap[g]? = some (.cells cs t (0,0)))):w.frozen? ⟨g,0,none⟩=false∧w.frozen? ⟨g,1,none⟩=false∧w.frozen? ⟨g,2,none⟩=false∧w.frozen? ⟨g,3,none⟩=false∧w.frozen? ⟨g,4,none⟩=false∧w.frozen? ⟨g,5,none⟩=false:=⟨aM h.out 0,aM h.out 1,aM h.out 2,aM h.out 3,aM h.out 4,aM h.out 5⟩
theorem tL (h:ae (w.heap[g]? = some (.cells cs t (0,0)))):w.frozen? ⟨g,0,none⟩=false∧w.frozen? ⟨g,1,none⟩=false∧w.frozen? ⟨g,2,none⟩=false∧w.frozen? ⟨g,3,none⟩=false∧w.frozen? ⟨g,4,none⟩=false∧w.frozen? ⟨g,5,none⟩=false∧w.frozen? ⟨g,6,none⟩=false:=⟨aM h.out 0,aM h.out 1,aM h.out 2,aM h.out 3,aM h.out 4,aM h.out 5,aM h.out 6⟩
end
theorem Fz {α:Type} {d:Kd α} {e:TypeId} {w0 w:World} {base:Nat} {ok ok':Nat→Prop} {v:Value} {xs:List α} (q:d.R e w0 base ok v xs) (G:∀ k,ok k→ok' k)
    (h:d.R e w0 base ok v xs→d.R e w base ok v xs:=by intro q_;repeat(first|with_reducible exact q_|(with_reducible first|apply Kd.dU|apply Kd.ek|apply Kd.dW)|refine Kd.anp ?_ (by first|exact fun _ hk=>hk.2|exact fun _ hk=>hk.1.2|exact fun _ hk=>hk.1.1.2) _)):d.R e w base ok' v xs:=Kd.lF (h q) G
section
variable {P:Program} {ops:Array Oper} {rest:List Oper} {o:Oper} {a:Act} {Q:Exit→Act→World→Prop}
theorem jX {W:World} (cs:Array Value) (t:TypeId) (h:∀ g,g=W.heap.size→∀ w1,w1.heap[g]? = some (.cells cs t (0,0))→Below W.heap.size W w1→wpList P ops Q rest (a.put o.dst (.pointer (some ⟨g,0,none⟩))) w1) (hg:o.guard=none:=by rfl)
    (hrun:(execOp a.eval o).run P W = .ok (.value (.pointer (some ⟨W.heap.size,0,none⟩))) (W.alloc (.cells cs t (0,0))):=by first|(go_simp;done)|(go_simp;rfl)):wpList P ops Q (o::rest) a W:=Kd.Pd hg hrun (h _ rfl _ (VA W _) (oq (Below.refl _ _) _))
theorem FN {W:World} (cs:Array Value) (t:TypeId) (h:∀ g,g=W.heap.size→∀ w1,w1.heap[g]? = some (.cells cs t (0,0))→Below W.heap.size W w1→wpList P ops Q rest (a.put o.dst (.pointer (some ⟨g,0,none⟩))) w1) (hw:Region.wanted o (yielded ops a.tmps)=true:=by rfl)
    (hrun:(execOp a.eval { o with guard:=none }).run P W = .ok (.value (.pointer (some ⟨W.heap.size,0,none⟩))) (W.alloc (.cells cs t (0,0))):=by first|(dsimp only;go_simp;done)|(dsimp only;go_simp;rfl)):wpList P ops Q (o::rest) a W:=
  uz hw (Kd.Pd (o:={ o with guard:=none }) rfl hrun (h _ rfl _ (VA W _) (oq (Below.refl _ _) _)))
end
section
variable {P:Program} {ops:Array Oper} {Q:Exit→Act→World→Prop} {md:Region.Mode} {S:World→Prop} {ds:List Nat}
theorem dn {oi:Oper} {v:Value} {fuel:Nat} {l l':Array Bool} {a a':Act} {w:World} (i:Nat) (N:Option Tmp) (h:dX P md ops Q S ds fuel l' a' w) (hi:ops[i]? = some oi:=by rfl) (hN:oi.dst=N:=by rfl)
    (hl:l.setIfInBounds i true=l':=by(simp only[List.setIfInBounds_toArray,List.set_cons_zero,List.set_cons_succ];rfl))
    (hc:Zx md ops l l' i=true:=by exact adh HT_.out (by kernel_rfl)) (hQ:∀ c a w,Q (.panic c) (a.put oi.dst v) w→Q (.panic c) a w:=by exact fun _ _ _ h=>h)
    (hy:Yields P ops oi v a:=by exact Or.inl ⟨by rfl,by intro w';go_simp;with_reducible rfl⟩)
    (ha:a.put N v=a':=by(simp only[Act.put,List.setIfInBounds_toArray,List.set_cons_zero,List.set_cons_succ,iE,jF];rfl)):dX P md ops Q S ds (fuel+1) l a w:=adb l' hi hN hc hQ hy ha h
theorem adk {oi:Oper} {v:Value} {fuel:Nat} {l l':Array Bool} {a a':Act} {w:World} (i:Nat) (N:Option Tmp) (h:dX P md ops Q S ds fuel l' a' w) (hi:ops[i]? = some oi:=by rfl) (hN:oi.dst=N:=by rfl)
    (hl:l.setIfInBounds i true=l':=by(simp only[List.setIfInBounds_toArray,List.set_cons_zero,List.set_cons_succ];rfl))
    (hc:Zx md ops l l' i=true:=by kernel_rfl) (hQ:∀ c a w,Q (.panic c) (a.put oi.dst v) w→Q (.panic c) a w:=by exact fun _ _ _ h=>h)
    (hy:Yields P ops oi v a:=by exact Or.inl ⟨by rfl,by intro w';go_simp;with_reducible rfl⟩)
    (ha:a.put N v=a':=by(simp only[Act.put,List.setIfInBounds_toArray,List.set_cons_zero,List.set_cons_succ,iE,jF];rfl)):dX P md ops Q S ds (fuel+1) l a w:=adb l' hi hN hc hQ hy ha h
theorem iC {oi:Oper} {v:Value} {fuel:Nat} {l l':Array Bool} {a a':Act} {w:World} (i:Nat) (N:Option Tmp) (h:dX P md ops Q S ds fuel l' a' w) (hi:ops[i]? = some oi:=by rfl) (hN:oi.dst=N:=by rfl) (hy:YieldsIf P ops S oi v a)
    (hl:l.setIfInBounds i true=l':=by(simp only[List.setIfInBounds_toArray,List.set_cons_zero,List.set_cons_succ];rfl))
    (hc:takeB md ops ds l l' i=true:=by exact WG HT_.out HW_.out (by kernel_rfl)) (hQ:∀ c a w,Q (.panic c) (a.put oi.dst v) w→Q (.panic c) a w:=by exact fun _ _ _ h=>h)
    (hS:S w:=by exact hHeld)
    (ha:a.put N v=a':=by(simp only[Act.put,List.setIfInBounds_toArray,List.set_cons_zero,List.set_cons_succ,iE,jF];rfl)):dX P md ops Q S ds (fuel+1) l a w:=Wx l' hi hN hc hQ hy hS ha h
theorem Pg {oi:Oper} {v:Value} {fuel:Nat} {l l':Array Bool} {a a':Act} {w:World} (i:Nat) (N:Option Tmp) (h:dX P md ops Q S ds fuel l' a' w) (hi:ops[i]? = some oi:=by rfl) (hN:oi.dst=N:=by rfl) (hy:YieldsIf P ops S oi v a)
    (hl:l.setIfInBounds i true=l':=by(simp only[List.setIfInBounds_toArray,List.set_cons_zero,List.set_cons_succ];rfl))
    (hc:takeB md ops ds l l' i=true:=by kernel_rfl) (hQ:∀ c a w,Q (.panic c) (a.put oi.dst v) w→Q (.panic c) a w:=by exact fun _ _ _ h=>h)
    (hS:S w:=by exact hHeld)
    (ha:a.put N v=a':=by(simp only[Act.put,List.setIfInBounds_toArray,List.set_cons_zero,List.set_cons_succ,iE,jF];rfl)):dX P md ops Q S ds (fuel+1) l a w:=Wx l' hi hN hc hQ hy hS ha h
theorem Cx {fuel:Nat} {l:Array Bool} {a a':Act} {v:Value} {w:World} (N:Option Tmp) (h:dX P md ops Q S ds fuel l a' w) (ha:a.put N v=a':=by(simp only[Act.put,List.setIfInBounds_toArray,List.set_cons_zero,List.set_cons_succ,iE,jF];rfl)):dX P md ops Q S ds fuel l (a.put N v) w:=Uy ha h
end
section
variable {P:Program} {fn:Func} {R:Ending→World→Prop} {a:Act} {w:World} {p u v:Tmp} {ty:TypeId} {d:TypeDesc}
theorem VH (g:Nat) (t:TypeId) (cs:Array Value) (hu:P.underlying ty=some d) (hR:R (.returned (.tuple #[.agg cs,a.tmps.getD u undef])) w) (h:fn.results = #[.cell p ty,.tmp u]:=by rfl)
    (hp:a.tmps.getD p undef = .pointer (some ⟨g,0,none⟩):=by rfl) (hg:w.heap[g]? = some (.cells cs t (0,0)):=by exact yg)
    (hd:(match d with|.struct _|.array _ _=>true|_=>false)=true:=by rfl) (hi:(P.info? ty).map (·.size)=some cs.size:=by kernel_rfl) (hq:a.defers = []:=by rfl):bodyPost P fn R .ret a w:=
  bodyPost_ret (Zt h _ _ g t cs (0,0) _ hp hg hu hd hi) hq hR
end
section
variable {P:Program} {ops:Array Oper} {Q:Exit→Act→World→Prop} {md:Region.Mode} {S:World→Prop} {ds:List Nat}
theorem fA {oi:Oper} {v:Value} {fuel:Nat} {l l':Array Bool} {a a':Act} {w:World} {i:Nat} {N:Tmp} (h:dX P md ops Q S ds fuel l' a' w)
    (h0:List.idxOf false l.toList=i:=by(simp only[List.idxOf_cons,beq_self_eq_true,Bool.true_beq,Bool.false_beq,Bool.not_false,Bool.not_true,cond_true,cond_false,Nat.reduceAdd,Nat.zero_add];rfl)) (hi:ops[i]? = some oi:=by rfl) (hN:oi.dst=some N:=by rfl)
    (hl:l.setIfInBounds i true=l':=by(simp only[List.setIfInBounds_toArray,List.set_cons_zero,List.set_cons_succ];rfl))
    (hy:Yields P ops oi v a:=by first|exact Or.inl ⟨by rfl,by intro w';go_simp;with_reducible rfl⟩|exact Or.inr ⟨by rfl,rfl⟩)
    (hc:Zx md ops l l' i=true:=by exact adh HT_.out (by kernel_rfl)) (hQ:∀ c a w,Q (.panic c) (a.put oi.dst v) w→Q (.panic c) a w:=by exact fun _ _ _ h=>h)
    (ha:a.put (some N) v=a':=by(simp only[Act.put,List.setIfInBounds_toArray,List.set_cons_zero,List.set_cons_succ,iE,jF];rfl)):dX P md ops Q S ds (fuel+1) l a w:=adb l' hi hN hc hQ hy ha h
theorem nU {oi:Oper} {v:Value} {fuel:Nat} {l l':Array Bool} {a a':Act} {w:World} {i:Nat} {N:Tmp} (h:dX P md ops Q S ds fuel l' a' w)
    (h0:List.idxOf false l.toList=i:=by(simp only[List.idxOf_cons,beq_self_eq_true,Bool.true_beq,Bool.false_beq,Bool.not_false,Bool.not_true,cond_true,cond_false,Nat.reduceAdd,Nat.zero_add];rfl)) (hi:ops[i]? = some oi:=by rfl) (hN:oi.dst=some N:=by rfl)
    (hl:l.setIfInBounds i true=l':=by(simp only[List.setIfInBounds_toArray,List.set_cons_zero,List.set_cons_succ];rfl)) (hy:YieldsIf P ops S oi v a)
    (hc:takeB md ops ds l l' i=true:=by exact WG HT_.out HW_.out (by kernel_rfl)) (hQ:∀ c a w,Q (.panic c) (a.put oi.dst v) w→Q (.panic c) a w:=by exact fun _ _ _ h=>h)
    (hS:S w:=by exact hHeld)
    (ha:a.put (some N) v=a':=by(simp only[Act.put,List.setIfInBounds_toArray,List.set_cons_zero,List.set_cons_succ,iE,jF];rfl)):dX P md ops Q S ds (fuel+1) l a w:=Wx l' hi hN hc hQ hy hS ha h
theorem iM {oi:Oper} {fuel:Nat} {l l':Array Bool} {a:Act} {w:World} {i:Nat} {N:Tmp}
    (h:∀ K:Act→World→Prop,Shut (∀ a' w',S w'→(S w'→dX P md ops Q S ds fuel l' a' w')→K a' w')→if Region.wanted oi (yielded ops a.tmps)=true then Oper.wp P oi a w K Q else K (a.put (some N) undef) w)
    (h0:List.idxOf false l.toList=i:=by(simp only[List.idxOf_cons,beq_self_eq_true,Bool.true_beq,Bool.false_beq,Bool.not_false,Bool.not_true,cond_true,cond_false,Nat.reduceAdd,Nat.zero_add];rfl)) (hi:ops[i]? = some oi:=by rfl) (hN:oi.dst=some N:=by rfl)
    (hl:l.setIfInBounds i true=l':=by(simp only[List.setIfInBounds_toArray,List.set_cons_zero,List.set_cons_succ];rfl))
    (hc:Ro md ops l l' i=true:=by exact Cw HT_.out (by kernel_rfl)) (hd:i∉ds:=by decide):dX P md ops Q S ds (fuel+1) l a w:=IL l' hi hN hc hd h
theorem eP {fuel:Nat} {l:Array Bool} {a a':Act} {v:Value} {w:World} {N:Tmp} (h:dX P md ops Q S ds fuel l a' w) (ha:a.put (some N) v=a':=by(simp only[Act.put,List.setIfInBounds_toArray,List.set_cons_zero,List.set_cons_succ,iE,jF];rfl)):dX P md ops Q S ds fuel l (a.put (some N) v) w:=Uy ha h
theorem lL {id n:Nat} {a:Act} {w:World} {l:Array Bool} (hS:S w.drew) (h:S w.drew→dX P .any ops Q S ds n l a w.drew) (hm:P.follows .mixedOrders=true:=by kernel_rfl) (hn:ops.size=n:=by rfl)
    (hl:Array.replicate n false=l:=by(simp only[← List.toArray_replicate,List.replicate];rfl)):(Code.region id ops true).wp P Q a w:=F6 l hm hn hl hS h
end
theorem jo {w:World} {g:Nat} {t:TypeId} {l:List Value} {v0 v1 v2 v3 v4 v5 v6 v7 v8 v9 v10:Value} (h:ae (w.heap[g]? = some (.cells (List.toArray (v0::v1::v2::v3::v4::v5::v6::v7::v8::v9::v10::l)) t (0,0)))):w.cell? ⟨g,0,none⟩=some v0∧w.cell? ⟨g,1,none⟩=some v1∧w.cell? ⟨g,2,none⟩=some v2∧w.cell? ⟨g,3,none⟩=some v3∧w.cell? ⟨g,4,none⟩=some v4∧w.cell? ⟨g,5,none⟩=some v5∧w.cell? ⟨g,6,none⟩=some v6∧w.cell? ⟨g,7,none⟩=some v7∧w.cell? ⟨g,8,none⟩=some v8∧w.cell? ⟨g,9,none⟩=some v9∧w.cell? ⟨g,10,none⟩=some v10:=⟨(ai h.out 0).trans rfl,(ai h.out 1).trans rfl,(ai h.out 2).trans rfl,(ai h.out 3).trans rfl,(ai h.out 4).trans rfl,(ai h.out 5).trans rfl,(ai h.out 6).trans rfl,(ai h.out 7).trans rfl,(ai h.out 8).trans rfl,(ai h.out 9).trans rfl,(ai h.out 10).trans rfl⟩
theorem kz {w:World} {g:Nat} {t:TypeId} {cs:Array Value} (h:ae (w.heap[g]? = some (.cells cs t (0,0)))):w.frozen? ⟨g,0,none⟩=false∧w.frozen? ⟨g,1,none⟩=false∧w.frozen? ⟨g,2,none⟩=false∧w.frozen? ⟨g,3,none⟩=false∧w.frozen? ⟨g,4,none⟩=false∧w.frozen? ⟨g,5,none⟩=false∧w.frozen? ⟨g,6,none⟩=false∧w.frozen? ⟨g,7,none⟩=false∧w.frozen? ⟨g,8,none⟩=false∧w.frozen? ⟨g,9,none⟩=false∧w.frozen? ⟨g,10,none⟩=false:=⟨aM h.out 0,aM h.out 1,aM h.out 2,aM h.out 3,aM h.out 4,aM h.out 5,aM h.out 6,aM h.out 7,aM h.out 8,aM h.out 9,aM h.out 10⟩
theorem eu {p:Prop} (h:p:=by(try simp only[List.map_toArray,List.map_cons,List.map_nil]);first|done|rfl|(simp only[List.length_drop,List.length_take];rfl)):p:=h
theorem gq1 {p:Prop} (h:p:=by first|exact Kd.Nf (Kd.ac3 j6.out fw.out (by decide))|(rw[add_block];exact Kd.Nf (Kd.ac3 j6.out fw.out (by decide)))|(show(Addr.add _ _).block≠_;rw[add_block];exact Kd.Nf (Kd.ac3 j6.out fw.out (by decide)))|(dsimp only;exact Kd.Nf (Kd.ac3 j6.out fw.out (by decide)))):p:=h
theorem nG {p:Prop} (h:p:=by first|rfl|(simp[jy,jA] <;> rfl)|(simp[*,jy,jA] <;> rfl)):p:=h
theorem gL {p:Prop} (h:p:=by first|(with_reducible assumption)|assumption):p:=h
theorem fI {p:Prop} (h:p:=by first|rfl|(simp;done)|(simp[*];done)):p:=h
theorem lG {p:Prop} (h:p:=by repeat(first|exact ed.refl _|apply ed.step)):p:=h
theorem VI {p:Prop} (h:p:=by rintro w' ⟨s0,s1,s2,s3,s4,s5⟩;go_simp;with_reducible rfl):p:=h
theorem EP {p:Prop} (h:p:=by rintro w' ⟨s0,s1,s2,s3,s4⟩;go_simp;with_reducible rfl):p:=h
theorem EC {p:Prop} (h:p:=by first|omega|exact Nat.le_refl _):p:=h
theorem UC {p:Prop} (h:p:=by(with_reducible repeat(first|apply Kd.dW|apply Kd.dU|apply Kd.ek));exact ou.out):p:=h
theorem Ud {p:Prop} (h:p:=by first|exact Kd.aaW _ _ _ _ _|exact Kd.anz _ _ _ _ _|exact Kd.ann _ _ _ _ _|exact Kd.ant _ _ _ _ _|exact Kd.anx _ _ _ _ _):p:=h
theorem acn {p:Prop} (h:p:=by rintro w' ⟨s0,s1,s2,s3,s4,s5,s6,s7,s8,s9,s10,s11,s12,s13,s14,s15,s16,s17,s18,s19,s20,s21⟩;go_simp;with_reducible rfl):p:=h
theorem Ru {p:Prop} (h:p:=by(try simp only[List.map_toArray,List.map_cons,List.map_nil]);first|done|rfl):p:=h
theorem Ue {p:Prop} (h:p:=by(with_reducible repeat(first|apply Kd.dW|apply Kd.dU|apply Kd.ek));exact yX.out):p:=h
theorem Uf {p:Prop} (h:p:=by rintro w' ⟨s0,s1,s2,s3,s4,s5,s6,s7,s8,s9,s10⟩;go_simp;with_reducible rfl):p:=h
theorem ahv {p:Prop} (h:p:=by(try simp only[List.map_toArray,List.map_cons,List.map_nil]);first|done|(simp only[WJ];rfl)|rfl|(simp only[List.length_drop,List.length_take];rfl)):p:=h
theorem WK {p:Prop} (h:p:=by(with_reducible repeat(first|apply Kd.dW|apply Kd.dU|apply Kd.ek));exact Au.out):p:=h
theorem ZB {p:Prop} (h:p:=by rw[← hq_];exact(by(with_reducible repeat(first|refine dm ?_ _|refine bJ ?_|refine dD ?_ _));exact o6.out)):p:=h
theorem VJ {p:Prop} (h:p:=by(with_reducible repeat(first|apply Kd.dW|apply Kd.dU|apply Kd.ek));exact Cy.out):p:=h
theorem VK {p:Prop} (h:p:=by(with_reducible repeat(first|apply Kd.dW|apply Kd.dU|apply Kd.ek));exact Cz.out):p:=h
theorem VL {p:Prop} (h:p:=by(with_reducible repeat(first|apply Kd.dW|apply Kd.dU|apply Kd.ek));exact CB.out):p:=h
theorem VM {p:Prop} (h:p:=by(with_reducible repeat(first|apply Kd.dW|apply Kd.dU|apply Kd.ek));exact CE.out):p:=h
theorem VN {p:Prop} (h:p:=by(with_reducible repeat(first|apply Kd.dW|apply Kd.dU|apply Kd.ek));exact CF.out):p:=h
theorem VO {p:Prop} (h:p:=by(with_reducible repeat(first|apply Kd.dW|apply Kd.dU|apply Kd.ek));exact CG.out):p:=h
theorem ZC {p:Prop} (h:p:=by rintro w' ⟨s0,s1⟩;go_simp;with_reducible rfl):p:=h
theorem VP {p:Prop} (h:p:=by have:=qj.out;first|omega|exact Nat.le_refl _):p:=h
theorem adl {p:Prop} (h:p:=by(with_reducible repeat(first|apply Kd.dW|apply Kd.dU|apply Kd.ek));exact Kd.lF Au.out (fun _ hk=>⟨trivial,hk⟩)):p:=h
theorem adm {p:Prop} (h:p:=by rw[← hq_];exact(by(with_reducible repeat(first|refine dm ?_ _|refine bJ ?_|refine dD ?_ _));exact lH.out)):p:=h
theorem QE {p:Prop} (h:p:=by have:=Bu.out;have:=Eo.out;omega):p:=h
theorem ahw {p:Prop} (h:p:=by(try simp only[List.map_toArray,List.map_cons,List.map_nil]);first|done|(simp only[WL];rfl)|rfl|(simp only[List.length_drop,List.length_take];rfl)):p:=h
theorem aco {p:Prop} (h:p:=by(with_reducible repeat(first|apply Kd.dW|apply Kd.dU|apply Kd.ek));exact Np.out):p:=h
theorem acp {p:Prop} (h:p:=by(with_reducible repeat(first|apply Kd.dW|apply Kd.dU|apply Kd.ek));exact ER.out):p:=h
theorem akL {p:Prop} (h:p:=by simp only[Rp,Act.put,List.setIfInBounds_toArray,List.set_cons_zero,List.set_cons_succ]):p:=h
theorem ahx {p:Prop} (h:p:=by rw[← hq_];exact(by(with_reducible repeat(first|refine dm ?_ _|refine bJ ?_|refine dD ?_ _));exact uA.out)):p:=h
theorem ahy {p:Prop} (h:p:=by rw[← hq_];exact(by(with_reducible repeat(first|refine dm ?_ _|refine bJ ?_|refine dD ?_ _));exact mD.out)):p:=h
theorem Ug {p:Prop} (h:p:=by have:=Bu.out;first|omega|exact Nat.le_refl _):p:=h
theorem adn {p:Prop} (h:p:=by(with_reducible repeat(first|apply Kd.dW|apply Kd.dU|apply Kd.ek));exact MC.out):p:=h
theorem ado {p:Prop} (h:p:=by(with_reducible repeat(first|apply Kd.dW|apply Kd.dU|apply Kd.ek));exact ME.out):p:=h
theorem adp {p:Prop} (h:p:=by(with_reducible repeat(first|apply Kd.dW|apply Kd.dU|apply Kd.ek));exact j6.out):p:=h
theorem adq {p:Prop} (h:p:=by(with_reducible repeat(first|apply Kd.dW|apply Kd.dU|apply Kd.ek));exact CJ.out):p:=h
theorem adr {p:Prop} (h:p:=by(with_reducible repeat(first|apply Kd.dW|apply Kd.dU|apply Kd.ek));exact CK.out):p:=h
theorem ads {p:Prop} (h:p:=by(with_reducible repeat(first|apply Kd.dW|apply Kd.dU|apply Kd.ek));exact CL.out):p:=h
theorem adt {p:Prop} (h:p:=by(with_reducible repeat(first|apply Kd.dW|apply Kd.dU|apply Kd.ek));exact CO.out):p:=h
theorem adu {p:Prop} (h:p:=by(with_reducible repeat(first|apply Kd.dW|apply Kd.dU|apply Kd.ek));exact CP.out):p:=h
theorem adv {p:Prop} (h:p:=by(with_reducible repeat(first|apply Kd.dW|apply Kd.dU|apply Kd.ek));exact CQ.out):p:=h
theorem adw {p:Prop} (h:p:=by(with_reducible repeat(first|apply Kd.dW|apply Kd.dU|apply Kd.ek));exact PM.out):p:=h
theorem VQ {p:Prop} (h:p:=by have:=qj.out;have:=Eo.out;omega):p:=h
theorem ahz {p:Prop} (h:p:=by(with_reducible repeat(first|apply Kd.dW|apply Kd.dU|apply Kd.ek));exact Ph.out):p:=h
theorem akM {p:Prop} (h:p:=by have:=Bu.out;have:=Eo.out;have:=VR.out;omega):p:=h
theorem ZE {p:Prop} (h:p:=by have:=qj.out;have:=HJ2.out;omega):p:=h
theorem anD {p:Prop} (h:p:=by rintro w' ⟨s0,s1,s2,s3⟩;go_simp;with_reducible rfl):p:=h
theorem anB {p:Prop} (h:p:=by rw[← acf _ _ 1 (by omega)];exact hc 1 _ rfl):p:=h
theorem asH {p:Prop} (h:p:=by first|exact HB.out|exact dN):p:=h
end Go.Proofs.YtfhllanhldbkkaaGreatDoorW.aH
