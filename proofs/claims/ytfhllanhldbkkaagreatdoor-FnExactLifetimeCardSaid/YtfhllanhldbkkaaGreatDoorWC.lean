import Derived.Test.YtfhllanhldbkkaaGreatDoorWMore
import Derived.Test.YtfhllanhldbkkaaGreatDoorWGuard
namespace Go.Proofs.YtfhllanhldbkkaaGreatDoorW.kG
open Go.RowKit Go.Proofs.YtfhllanhldbkkaaGreatDoorW.bf Go.Proofs.YtfhllanhldbkkaaGreatDoorW.iK
set_option linter.unusedVariables false
theorem aX {p:Prop} (h:p:=by repeat(first|(with_reducible first|exact HB.out|apply jA|apply sI|apply bE|refine mQ ?_ (aa.out (by assumption)))|exact HB.out)):p:=h
theorem Bh {w:World} {g h i:Nat} {t:TypeId} {cs:Array Value} (hp:aa (g≠h)) (hw:w.heap[g]? = some (.cells cs t (0,0))) (u:Value):(w.setCell ⟨h,i,none⟩ u).heap[g]? = some (.cells cs t (0,0)):=ajE hw hp.out u
theorem oQ {p:Prop} (h:p:=by repeat(first|(with_reducible first|exact aa.out (by assumption)|apply qL|(apply Bh;assumption)|apply kH|apply eu|apply lX)|exact(rfl:(_:Array Value)=_))):p:=h
theorem qE {p:Prop} (h:p:=by(with_reducible repeat(first|apply Kd.cK|apply Kd.cz|apply Kd.dB));exact aa.out (by assumption)):p:=h
theorem fw {w W w2:World} (hb:Below W.heap.size W w2) (h:Below w.heap.size w W:=by exact aX):aa (Below w.heap.size w w2):=⟨wZ h hb⟩
theorem lJ {w W:World} {g:Nat} (hg:g=W.heap.size) (h:Below w.heap.size w W:=by exact aX):aa (w.heap.size<=g):=⟨by rw[hg];exact aN h⟩
theorem CZ {W:World} {g h:Nat} {o:Obj} (hg:h=W.heap.size) (hk:W.heap[g]? = some o:=by exact oQ):aa (g≠h):=⟨by rw[hg];exact Nat.ne_of_lt (vG hk)⟩
theorem DL {g h:Nat} (k:aa (g≠h)):aa (h≠g):=⟨fun e=>k.out e.symm⟩
theorem eF {W w1:World} {g:Nat} {o:Obj} (hb:Below W.heap.size W w1) (h:W.heap[g]? = some o:=by exact oQ):aa (w1.heap[g]? = some o):=⟨ou h hb⟩
section
variable {w:World} {g:Nat} {t:TypeId} {l:List Value} {v0 v1 v2 v3 v4 v5 v6 v7:Value}
theorem Dz (h:aa (w.heap[g]? = some (.cells (List.toArray (v0::l)) t (0,0)))):w.cell? ⟨g,0,none⟩=some v0:=(ah h.out 0).trans rfl
theorem DC (h:aa (w.heap[g]? = some (.cells (List.toArray (v0::v1::l)) t (0,0)))):w.cell? ⟨g,1,none⟩=some v1:=(ah h.out 1).trans rfl
theorem L8 (h:aa (w.heap[g]? = some (.cells (List.toArray (v0::v1::v2::l)) t (0,0)))):w.cell? ⟨g,2,none⟩=some v2:=(ah h.out 2).trans rfl
theorem MV (h:aa (w.heap[g]? = some (.cells (List.toArray (v0::v1::v2::v3::l)) t (0,0)))):w.cell? ⟨g,3,none⟩=some v3:=(ah h.out 3).trans rfl
theorem L9 (h:aa (w.heap[g]? = some (.cells (List.toArray (v0::v1::v2::v3::v4::l)) t (0,0)))):w.cell? ⟨g,4,none⟩=some v4:=(ah h.out 4).trans rfl
theorem Gj (h:aa (w.heap[g]? = some (.cells (List.toArray (v0::v1::v2::v3::v4::v5::l)) t (0,0)))):w.cell? ⟨g,5,none⟩=some v5:=(ah h.out 5).trans rfl
theorem cz6 (h:aa (w.heap[g]? = some (.cells (List.toArray (v0::v1::v2::v3::v4::v5::v6::l)) t (0,0)))):w.cell? ⟨g,6,none⟩=some v6:=(ah h.out 6).trans rfl
theorem cz7 (h:aa (w.heap[g]? = some (.cells (List.toArray (v0::v1::v2::v3::v4::v5::v6::v7::l)) t (0,0)))):w.cell? ⟨g,7,none⟩=some v7:=(ah h.out 7).trans rfl
end
section
variable {p:Prop} [Decidable p] {α:Type} {a b r:α}
theorem gI (h:(if p then a else b)=r):(p/\decide p=true/\p=True/\a=r)∨(¬p/\decide p=false/\p=False/\b=r):=by
  by_cases hp:p
  · exact .inl ⟨hp,decide_eq_true hp,eq_true hp,(if_pos hp).symm.trans h⟩
  · exact .inr ⟨hp,decide_eq_false hp,eq_false hp,(if_neg hp).symm.trans h⟩
end
theorem gN {p:Prop} [Decidable p] {α:Type} {a:Option α} {r:α} (h:(if p then a else none)=some r):p/\decide p=true/\p=True/\a=some r:=by
  rcases gI h with h|h
  · exact h
  · cases h.2.2.2
theorem gB {x:Bool} {α:Type} {a b r:α} (h:(if x=true then a else b)=r):(x=true/\a=r)∨(x=false/\b=r):=by
  cases x
  · exact .inr ⟨rfl,h⟩
  · exact .inl ⟨rfl,h⟩
theorem kT {α:Type} [BEq α] [LawfulBEq α] {a b:α} (h:a=b):(a==b)=true/\(a != b)=false:=⟨beq_iff_eq.mpr h,bne_eq_false_iff_eq.mpr h⟩
theorem kU {α:Type} [BEq α] [LawfulBEq α] {a b:α} (h:¬ a=b):(a==b)=false/\(a != b)=true:=⟨beq_eq_false_iff_ne.mpr h,bne_iff_ne.mpr h⟩
theorem gD {α β:Type} {o:Option α} {f:α->Option β} {r:β} (h:o.bind f=some r):∃ x,aa (o=some x)/\f x=some r:=by
  obtain⟨x,h1,h2⟩:=Option.bind_eq_some_iff.mp h
  exact⟨x,⟨h1⟩,h2⟩
section
variable {w:World} {g:Nat} {t:TypeId} {l:List Value} {cs:Array Value} {v0 v1 v2 v3 v4 v5 v6 v7:Value}
theorem xc (h:aa (w.heap[g]? = some (.cells (List.toArray (v0::v1::l)) t (0,0)))):w.cell? ⟨g,0,none⟩=some v0/\w.cell? ⟨g,1,none⟩=some v1:=⟨Dz h,DC h⟩
theorem TB (h:aa (w.heap[g]? = some (.cells (List.toArray (v0::v1::v2::l)) t (0,0)))):w.cell? ⟨g,0,none⟩=some v0/\w.cell? ⟨g,1,none⟩=some v1/\w.cell? ⟨g,2,none⟩=some v2:=⟨Dz h,DC h,L8 h⟩
theorem jK (h:aa (w.heap[g]? = some (.cells (List.toArray (v0::v1::v2::v3::v4::l)) t (0,0)))):w.cell? ⟨g,0,none⟩=some v0/\w.cell? ⟨g,1,none⟩=some v1/\w.cell? ⟨g,2,none⟩=some v2/\w.cell? ⟨g,3,none⟩=some v3/\w.cell? ⟨g,4,none⟩=some v4:=⟨Dz h,DC h,L8 h,MV h,L9 h⟩
theorem pI (h:aa (w.heap[g]? = some (.cells (List.toArray (v0::v1::v2::v3::v4::v5::l)) t (0,0)))):w.cell? ⟨g,0,none⟩=some v0/\w.cell? ⟨g,1,none⟩=some v1/\w.cell? ⟨g,2,none⟩=some v2/\w.cell? ⟨g,3,none⟩=some v3/\w.cell? ⟨g,4,none⟩=some v4/\w.cell? ⟨g,5,none⟩=some v5:=⟨Dz h,DC h,L8 h,MV h,L9 h,Gj h⟩
theorem mI (h:aa (w.heap[g]? = some (.cells (List.toArray (v0::v1::v2::v3::v4::v5::v6::l)) t (0,0)))):w.cell? ⟨g,0,none⟩=some v0/\w.cell? ⟨g,1,none⟩=some v1/\w.cell? ⟨g,2,none⟩=some v2/\w.cell? ⟨g,3,none⟩=some v3/\w.cell? ⟨g,4,none⟩=some v4/\w.cell? ⟨g,5,none⟩=some v5/\w.cell? ⟨g,6,none⟩=some v6:=⟨Dz h,DC h,L8 h,MV h,L9 h,Gj h,cz6 h⟩
theorem Cf (h:aa (w.heap[g]? = some (.cells cs t (0,0)))):w.frozen? ⟨g,0,none⟩=false/\w.frozen? ⟨g,1,none⟩=false:=⟨ag h.out 0,ag h.out 1⟩
theorem pJ (h:aa (w.heap[g]? = some (.cells cs t (0,0)))):w.frozen? ⟨g,0,none⟩=false/\w.frozen? ⟨g,1,none⟩=false/\w.frozen? ⟨g,2,none⟩=false/\w.frozen? ⟨g,3,none⟩=false/\w.frozen? ⟨g,4,none⟩=false:=⟨ag h.out 0,ag h.out 1,ag h.out 2,ag h.out 3,ag h.out 4⟩
theorem TC (h:aa (w.heap[g]? = some (.cells cs t (0,0)))):w.frozen? ⟨g,0,none⟩=false/\w.frozen? ⟨g,1,none⟩=false/\w.frozen? ⟨g,2,none⟩=false/\w.frozen? ⟨g,3,none⟩=false/\w.frozen? ⟨g,4,none⟩=false/\w.frozen? ⟨g,5,none⟩=false:=⟨ag h.out 0,ag h.out 1,ag h.out 2,ag h.out 3,ag h.out 4,ag h.out 5⟩
theorem nV (h:aa (w.heap[g]? = some (.cells cs t (0,0)))):w.frozen? ⟨g,0,none⟩=false/\w.frozen? ⟨g,1,none⟩=false/\w.frozen? ⟨g,2,none⟩=false/\w.frozen? ⟨g,3,none⟩=false/\w.frozen? ⟨g,4,none⟩=false/\w.frozen? ⟨g,5,none⟩=false/\w.frozen? ⟨g,6,none⟩=false:=⟨ag h.out 0,ag h.out 1,ag h.out 2,ag h.out 3,ag h.out 4,ag h.out 5,ag h.out 6⟩
end
theorem Cg {α:Type} {d:Kd α} {e:TypeId} {w0 w:World} {base:Nat} {ok ok':Nat->Prop} {v:Value} {xs:List α} (q:d.R e w0 base ok v xs) (G:∀ k,ok k->ok' k)
    (h:d.R e w0 base ok v xs->d.R e w base ok v xs:=by intro q_;repeat(first|with_reducible exact q_|(with_reducible first|apply Kd.cz|apply Kd.dB|apply Kd.cK)|refine Kd.aeL ?_ (by first|exact fun _ hk=>hk.2|exact fun _ hk=>hk.1.2|exact fun _ hk=>hk.1.1.2) _)):d.R e w base ok' v xs:=Kd.kg (h q) G
section
variable {P:Program} {ops:Array Oper} {rest:List Oper} {o:Oper} {a:Act} {Q:Exit->Act->World->Prop}
theorem jL {W:World} (cs:Array Value) (t:TypeId) (h:∀ g,g=W.heap.size->∀ w1,w1.heap[g]? = some (.cells cs t (0,0))->Below W.heap.size W w1->wpList P ops Q rest (a.put o.dst (.pointer (some ⟨g,0,none⟩))) w1) (hg:o.guard=none:=by rfl)
    (hrun:(execOp a.eval o).run P W = .ok (.value (.pointer (some ⟨W.heap.size,0,none⟩))) (W.alloc (.cells cs t (0,0))):=by first|(go_simp;done)|(go_simp;rfl)):wpList P ops Q (o::rest) a W:=Kd.JU hg hrun (h _ rfl _ (ET W _) (jA (Below.refl _ _) _))
theorem yM {W:World} (cs:Array Value) (t:TypeId) (h:∀ g,g=W.heap.size->∀ w1,w1.heap[g]? = some (.cells cs t (0,0))->Below W.heap.size W w1->wpList P ops Q rest (a.put o.dst (.pointer (some ⟨g,0,none⟩))) w1) (hw:Region.wanted o (yielded ops a.tmps)=true:=by rfl)
    (hrun:(execOp a.eval { o with guard:=none }).run P W = .ok (.value (.pointer (some ⟨W.heap.size,0,none⟩))) (W.alloc (.cells cs t (0,0))):=by first|(dsimp only;go_simp;done)|(dsimp only;go_simp;rfl)):wpList P ops Q (o::rest) a W:=
  kK hw (Kd.JU (o:={ o with guard:=none }) rfl hrun (h _ rfl _ (ET W _) (jA (Below.refl _ _) _)))
end
section
variable {P:Program} {ops:Array Oper} {Q:Exit->Act->World->Prop} {md:Region.Mode} {S:World->Prop} {ds:List Nat}
theorem bq {oi:Oper} {v:Value} {fuel:Nat} {l l':Array Bool} {a a':Act} {w:World} (i:Nat) (N:Option Tmp) (h:bP P md ops Q S ds fuel l' a' w) (hi:ops[i]? = some oi:=by rfl) (hN:oi.dst=N:=by rfl)
    (hl:l.setIfInBounds i true=l':=by(simp only[List.setIfInBounds_toArray,List.set_cons_zero,List.set_cons_succ];rfl))
    (hc:Y9 md ops l l' i=true:=by exact aeY HT_.out (by kernel_rfl)) (hQ:∀ c a w,Q (.panic c) (a.put oi.dst v) w->Q (.panic c) a w:=by exact fun _ _ _ h=>h)
    (hy:Yields P ops oi v a:=by exact Or.inl ⟨by rfl,by intro w';go_simp;with_reducible rfl⟩)
    (ha:a.put N v=a':=by(simp only[Act.put,List.setIfInBounds_toArray,List.set_cons_zero,List.set_cons_succ,dU,fK];rfl)):bP P md ops Q S ds (fuel+1) l a w:=aeU l' hi hN hc hQ hy ha h
theorem asG {oi:Oper} {v:Value} {fuel:Nat} {l l':Array Bool} {a a':Act} {w:World} (i:Nat) (N:Option Tmp) (h:bP P md ops Q S ds fuel l' a' w) (hi:ops[i]? = some oi:=by rfl) (hN:oi.dst=N:=by rfl)
    (hl:l.setIfInBounds i true=l':=by(simp only[List.setIfInBounds_toArray,List.set_cons_zero,List.set_cons_succ];rfl))
    (hc:Y9 md ops l l' i=true:=by kernel_rfl) (hQ:∀ c a w,Q (.panic c) (a.put oi.dst v) w->Q (.panic c) a w:=by exact fun _ _ _ h=>h)
    (hy:Yields P ops oi v a:=by exact Or.inl ⟨by rfl,by intro w';go_simp;with_reducible rfl⟩)
    (ha:a.put N v=a':=by(simp only[Act.put,List.setIfInBounds_toArray,List.set_cons_zero,List.set_cons_succ,dU,fK];rfl)):bP P md ops Q S ds (fuel+1) l a w:=aeU l' hi hN hc hQ hy ha h
theorem fB {oi:Oper} {v:Value} {fuel:Nat} {l l':Array Bool} {a a':Act} {w:World} (i:Nat) (N:Option Tmp) (h:bP P md ops Q S ds fuel l' a' w) (hi:ops[i]? = some oi:=by rfl) (hN:oi.dst=N:=by rfl) (hy:YieldsIf P ops S oi v a)
    (hl:l.setIfInBounds i true=l':=by(simp only[List.setIfInBounds_toArray,List.set_cons_zero,List.set_cons_succ];rfl))
    (hc:takeB md ops ds l l' i=true:=by exact Vt HT_.out HW_.out (by kernel_rfl)) (hQ:∀ c a w,Q (.panic c) (a.put oi.dst v) w->Q (.panic c) a w:=by exact fun _ _ _ h=>h)
    (hS:S w:=by exact hHeld)
    (ha:a.put N v=a':=by(simp only[Act.put,List.setIfInBounds_toArray,List.set_cons_zero,List.set_cons_succ,dU,fK];rfl)):bP P md ops Q S ds (fuel+1) l a w:=Vl l' hi hN hc hQ hy hS ha h
theorem ae1 {oi:Oper} {v:Value} {fuel:Nat} {l l':Array Bool} {a a':Act} {w:World} (i:Nat) (N:Option Tmp) (h:bP P md ops Q S ds fuel l' a' w) (hi:ops[i]? = some oi:=by rfl) (hN:oi.dst=N:=by rfl) (hy:YieldsIf P ops S oi v a)
    (hl:l.setIfInBounds i true=l':=by(simp only[List.setIfInBounds_toArray,List.set_cons_zero,List.set_cons_succ];rfl))
    (hc:takeB md ops ds l l' i=true:=by kernel_rfl) (hQ:∀ c a w,Q (.panic c) (a.put oi.dst v) w->Q (.panic c) a w:=by exact fun _ _ _ h=>h)
    (hS:S w:=by exact hHeld)
    (ha:a.put N v=a':=by(simp only[Act.put,List.setIfInBounds_toArray,List.set_cons_zero,List.set_cons_succ,dU,fK];rfl)):bP P md ops Q S ds (fuel+1) l a w:=Vl l' hi hN hc hQ hy hS ha h
theorem zk {fuel:Nat} {l:Array Bool} {a a':Act} {v:Value} {w:World} (N:Option Tmp) (h:bP P md ops Q S ds fuel l a' w) (ha:a.put N v=a':=by(simp only[Act.put,List.setIfInBounds_toArray,List.set_cons_zero,List.set_cons_succ,dU,fK];rfl)):bP P md ops Q S ds fuel l (a.put N v) w:=Rf ha h
end
section
variable {P:Program} {fn:Func} {R:Ending->World->Prop} {a:Act} {w:World} {p u v:Tmp} {ty:TypeId} {d:TypeDesc}
theorem TD (g:Nat) (t:TypeId) (cs:Array Value) (hu:P.underlying ty=some d) (hR:R (.returned (.tuple #[.agg cs,a.tmps.getD u undef])) w) (h:fn.results = #[.cell p ty,.tmp u]:=by rfl)
    (hp:a.tmps.getD p undef = .pointer (some ⟨g,0,none⟩):=by rfl) (hg:w.heap[g]? = some (.cells cs t (0,0)):=by exact oQ)
    (hd:(match d with|.struct _|.array _ _=>true|_=>false)=true:=by rfl) (hi:(P.info? ty).map (·.size)=some cs.size:=by kernel_rfl) (hq:a.defers = []:=by rfl):bodyPost P fn R .ret a w:=
  bodyPost_ret (Y5 h _ _ g t cs (0,0) _ hp hg hu hd hi) hq hR
end
section
variable {P:Program} {ops:Array Oper} {Q:Exit->Act->World->Prop} {md:Region.Mode} {S:World->Prop} {ds:List Nat}
theorem dA {oi:Oper} {v:Value} {fuel:Nat} {l l':Array Bool} {a a':Act} {w:World} {i:Nat} {N:Tmp} (h:bP P md ops Q S ds fuel l' a' w)
    (h0:List.idxOf false l.toList=i:=by(simp only[List.idxOf_cons,beq_self_eq_true,Bool.true_beq,Bool.false_beq,Bool.not_false,Bool.not_true,cond_true,cond_false,Nat.reduceAdd,Nat.zero_add];rfl)) (hi:ops[i]? = some oi:=by rfl) (hN:oi.dst=some N:=by rfl)
    (hl:l.setIfInBounds i true=l':=by(simp only[List.setIfInBounds_toArray,List.set_cons_zero,List.set_cons_succ];rfl))
    (hy:Yields P ops oi v a:=by first|exact Or.inl ⟨by rfl,by intro w';go_simp;with_reducible rfl⟩|exact Or.inr ⟨by rfl,rfl⟩)
    (hc:Y9 md ops l l' i=true:=by exact aeY HT_.out (by kernel_rfl)) (hQ:∀ c a w,Q (.panic c) (a.put oi.dst v) w->Q (.panic c) a w:=by exact fun _ _ _ h=>h)
    (ha:a.put (some N) v=a':=by(simp only[Act.put,List.setIfInBounds_toArray,List.set_cons_zero,List.set_cons_succ,dU,fK];rfl)):bP P md ops Q S ds (fuel+1) l a w:=aeU l' hi hN hc hQ hy ha h
theorem lC {oi:Oper} {v:Value} {fuel:Nat} {l l':Array Bool} {a a':Act} {w:World} {i:Nat} {N:Tmp} (h:bP P md ops Q S ds fuel l' a' w)
    (h0:List.idxOf false l.toList=i:=by(simp only[List.idxOf_cons,beq_self_eq_true,Bool.true_beq,Bool.false_beq,Bool.not_false,Bool.not_true,cond_true,cond_false,Nat.reduceAdd,Nat.zero_add];rfl)) (hi:ops[i]? = some oi:=by rfl) (hN:oi.dst=some N:=by rfl)
    (hl:l.setIfInBounds i true=l':=by(simp only[List.setIfInBounds_toArray,List.set_cons_zero,List.set_cons_succ];rfl)) (hy:YieldsIf P ops S oi v a)
    (hc:takeB md ops ds l l' i=true:=by exact Vt HT_.out HW_.out (by kernel_rfl)) (hQ:∀ c a w,Q (.panic c) (a.put oi.dst v) w->Q (.panic c) a w:=by exact fun _ _ _ h=>h)
    (hS:S w:=by exact hHeld)
    (ha:a.put (some N) v=a':=by(simp only[Act.put,List.setIfInBounds_toArray,List.set_cons_zero,List.set_cons_succ,dU,fK];rfl)):bP P md ops Q S ds (fuel+1) l a w:=Vl l' hi hN hc hQ hy hS ha h
theorem fG {oi:Oper} {fuel:Nat} {l l':Array Bool} {a:Act} {w:World} {i:Nat} {N:Tmp}
    (h:∀ K:Act->World->Prop,Shut (∀ a' w',S w'->(S w'->bP P md ops Q S ds fuel l' a' w')->K a' w')->if Region.wanted oi (yielded ops a.tmps)=true then Oper.wp P oi a w K Q else K (a.put (some N) undef) w)
    (h0:List.idxOf false l.toList=i:=by(simp only[List.idxOf_cons,beq_self_eq_true,Bool.true_beq,Bool.false_beq,Bool.not_false,Bool.not_true,cond_true,cond_false,Nat.reduceAdd,Nat.zero_add];rfl)) (hi:ops[i]? = some oi:=by rfl) (hN:oi.dst=some N:=by rfl)
    (hl:l.setIfInBounds i true=l':=by(simp only[List.setIfInBounds_toArray,List.set_cons_zero,List.set_cons_succ];rfl))
    (hc:NH md ops l l' i=true:=by exact vJ HT_.out (by kernel_rfl)) (hd:i∉ds:=by decide):bP P md ops Q S ds (fuel+1) l a w:=Fh l' hi hN hc hd h
theorem bY {fuel:Nat} {l:Array Bool} {a a':Act} {v:Value} {w:World} {N:Tmp} (h:bP P md ops Q S ds fuel l a' w) (ha:a.put (some N) v=a':=by(simp only[Act.put,List.setIfInBounds_toArray,List.set_cons_zero,List.set_cons_succ,dU,fK];rfl)):bP P md ops Q S ds fuel l (a.put (some N) v) w:=Rf ha h
theorem jP {id n:Nat} {a:Act} {w:World} {l:Array Bool} (hS:S w.drew) (h:S w.drew->bP P .any ops Q S ds n l a w.drew) (hm:P.follows .mixedOrders=true:=by kernel_rfl) (hn:ops.size=n:=by rfl)
    (hl:Array.replicate n false=l:=by(simp only[<- List.toArray_replicate,List.replicate];rfl)):(Code.region id ops true).wp P Q a w:=Ce l hm hn hl hS h
end
theorem xJ {w:World} {g:Nat} {t:TypeId} {l:List Value} {v0 v1 v2 v3 v4 v5 v6 v7 v8 v9:Value} (h:aa (w.heap[g]? = some (.cells (List.toArray (v0::v1::v2::v3::v4::v5::v6::v7::v8::v9::l)) t (0,0)))):w.cell? ⟨g,0,none⟩=some v0/\w.cell? ⟨g,1,none⟩=some v1/\w.cell? ⟨g,2,none⟩=some v2/\w.cell? ⟨g,3,none⟩=some v3/\w.cell? ⟨g,4,none⟩=some v4/\w.cell? ⟨g,5,none⟩=some v5/\w.cell? ⟨g,6,none⟩=some v6/\w.cell? ⟨g,7,none⟩=some v7/\w.cell? ⟨g,8,none⟩=some v8/\w.cell? ⟨g,9,none⟩=some v9:=⟨(ah h.out 0).trans rfl,(ah h.out 1).trans rfl,(ah h.out 2).trans rfl,(ah h.out 3).trans rfl,(ah h.out 4).trans rfl,(ah h.out 5).trans rfl,(ah h.out 6).trans rfl,(ah h.out 7).trans rfl,(ah h.out 8).trans rfl,(ah h.out 9).trans rfl⟩
theorem asH {w:World} {g:Nat} {t:TypeId} {cs:Array Value} (h:aa (w.heap[g]? = some (.cells cs t (0,0)))):w.frozen? ⟨g,0,none⟩=false/\w.frozen? ⟨g,1,none⟩=false/\w.frozen? ⟨g,2,none⟩=false/\w.frozen? ⟨g,3,none⟩=false/\w.frozen? ⟨g,4,none⟩=false/\w.frozen? ⟨g,5,none⟩=false/\w.frozen? ⟨g,6,none⟩=false/\w.frozen? ⟨g,7,none⟩=false/\w.frozen? ⟨g,8,none⟩=false/\w.frozen? ⟨g,9,none⟩=false:=⟨ag h.out 0,ag h.out 1,ag h.out 2,ag h.out 3,ag h.out 4,ag h.out 5,ag h.out 6,ag h.out 7,ag h.out 8,ag h.out 9⟩
theorem asI {w:World} {g:Nat} {t:TypeId} {l:List Value} {v0 v1 v2 v3 v4 v5 v6 v7 v8 v9 v10:Value} (h:aa (w.heap[g]? = some (.cells (List.toArray (v0::v1::v2::v3::v4::v5::v6::v7::v8::v9::v10::l)) t (0,0)))):w.cell? ⟨g,0,none⟩=some v0/\w.cell? ⟨g,1,none⟩=some v1/\w.cell? ⟨g,2,none⟩=some v2/\w.cell? ⟨g,3,none⟩=some v3/\w.cell? ⟨g,4,none⟩=some v4/\w.cell? ⟨g,5,none⟩=some v5/\w.cell? ⟨g,6,none⟩=some v6/\w.cell? ⟨g,7,none⟩=some v7/\w.cell? ⟨g,8,none⟩=some v8/\w.cell? ⟨g,9,none⟩=some v9/\w.cell? ⟨g,10,none⟩=some v10:=⟨(ah h.out 0).trans rfl,(ah h.out 1).trans rfl,(ah h.out 2).trans rfl,(ah h.out 3).trans rfl,(ah h.out 4).trans rfl,(ah h.out 5).trans rfl,(ah h.out 6).trans rfl,(ah h.out 7).trans rfl,(ah h.out 8).trans rfl,(ah h.out 9).trans rfl,(ah h.out 10).trans rfl⟩
theorem asJ {w:World} {g:Nat} {t:TypeId} {cs:Array Value} (h:aa (w.heap[g]? = some (.cells cs t (0,0)))):w.frozen? ⟨g,0,none⟩=false/\w.frozen? ⟨g,1,none⟩=false/\w.frozen? ⟨g,2,none⟩=false/\w.frozen? ⟨g,3,none⟩=false/\w.frozen? ⟨g,4,none⟩=false/\w.frozen? ⟨g,5,none⟩=false/\w.frozen? ⟨g,6,none⟩=false/\w.frozen? ⟨g,7,none⟩=false/\w.frozen? ⟨g,8,none⟩=false/\w.frozen? ⟨g,9,none⟩=false/\w.frozen? ⟨g,10,none⟩=false:=⟨ag h.out 0,ag h.out 1,ag h.out 2,ag h.out 3,ag h.out 4,ag h.out 5,ag h.out 6,ag h.out 7,ag h.out 8,ag h.out 9,ag h.out 10⟩
theorem Bd {p:Prop} (h:p:=by(try simp only[List.map_toArray,List.map_cons,List.map_nil]);first|done|rfl|(simp only[List.length_drop,List.length_take];rfl)):p:=h
theorem gq1 {p:Prop} (h:p:=by first|exact Kd.Hu (Kd.aeM iH.out dx.out (by decide))|(rw[add_block];exact Kd.Hu (Kd.aeM iH.out dx.out (by decide)))|(show(Addr.add _ _).block≠_;rw[add_block];exact Kd.Hu (Kd.aeM iH.out dx.out (by decide)))|(dsimp only;exact Kd.Hu (Kd.aeM iH.out dx.out (by decide)))):p:=h
theorem jv {p:Prop} (h:p:=by first|rfl|(simp[dP,dQ] <;> rfl)|(simp[*,dP,dQ] <;> rfl)):p:=h
theorem bM {p:Prop} (h:p:=by first|(with_reducible assumption)|assumption):p:=h
theorem bR {p:Prop} (h:p:=by first|rfl|(simp;done)|(simp[*];done)):p:=h
theorem iL {p:Prop} (h:p:=by repeat(first|exact bH.refl _|apply bH.step)):p:=h
theorem TE {p:Prop} (h:p:=by rintro w' ⟨s0,s1,s2,s3,s4,s5⟩;go_simp;with_reducible rfl):p:=h
theorem xK {p:Prop} (h:p:=by rintro w' ⟨s0,s1,s2,s3,s4⟩;go_simp;with_reducible rfl):p:=h
theorem tT {p:Prop} (h:p:=by first|omega|exact Nat.le_refl _):p:=h
theorem Ma {p:Prop} (h:p:=by(with_reducible repeat(first|apply Kd.cK|apply Kd.cz|apply Kd.dB));exact iV.out):p:=h
theorem TF {p:Prop} (h:p:=by(with_reducible repeat(first|apply Kd.cK|apply Kd.cz|apply Kd.dB));exact(Cg (Kd.mJ iV.out aT.out (by decide)) (fun _ h_=>h_.1))):p:=h
theorem Hz {p:Prop} (h:p:=by first|exact Kd.Rc _ _ _ _ _|exact Kd.asC _ _ _ _ _|exact Kd.ast _ _ _ _ _|exact Kd.asx _ _ _ _ _|exact Kd.asB _ _ _ _ _):p:=h
theorem asK {p:Prop} (h:p:=by rintro w' ⟨s0,s1,s2,s3,s4,s5,s6,s7,s8,s9,s10,s11,s12,s13,s14,s15,s16,s17,s18,s19,s20,s21⟩;go_simp;with_reducible rfl):p:=h
theorem JX {p:Prop} (h:p:=by(try simp only[List.map_toArray,List.map_cons,List.map_nil]);first|done|rfl):p:=h
theorem Mc {p:Prop} (h:p:=by(with_reducible repeat(first|apply Kd.cK|apply Kd.cz|apply Kd.dB));exact ow.out):p:=h
theorem ajK {p:Prop} (h:p:=by(try simp only[List.map_toArray,List.map_cons,List.map_nil]);first|done|(simp only[Vu];rfl)|rfl|(simp only[List.length_drop,List.length_take];rfl)):p:=h
theorem Qs {p:Prop} (h:p:=by(with_reducible repeat(first|apply Kd.cK|apply Kd.cz|apply Kd.dB));exact rJ.out):p:=h
theorem Zd {p:Prop} (h:p:=by rw[<- hq_];exact(by(with_reducible repeat(first|refine kH ?_ _|refine eu ?_|refine lX ?_ _));exact nz.out)):p:=h
theorem TG {p:Prop} (h:p:=by(with_reducible repeat(first|apply Kd.cK|apply Kd.cz|apply Kd.dB));exact vK.out):p:=h
theorem TH {p:Prop} (h:p:=by(with_reducible repeat(first|apply Kd.cK|apply Kd.cz|apply Kd.dB));exact vL.out):p:=h
theorem Ze {p:Prop} (h:p:=by rintro w' ⟨s0,s1⟩;go_simp;with_reducible rfl):p:=h
theorem Zf {p:Prop} (h:p:=by(with_reducible repeat(first|apply Kd.cK|apply Kd.cz|apply Kd.dB));exact oD.out):p:=h
theorem Md {p:Prop} (h:p:=by have:=ig.out;first|omega|exact Nat.le_refl _):p:=h
theorem ae2 {p:Prop} (h:p:=by(with_reducible repeat(first|apply Kd.cK|apply Kd.cz|apply Kd.dB));exact Kd.kg rJ.out (fun _ hk=>⟨trivial,hk⟩)):p:=h
theorem ae3 {p:Prop} (h:p:=by rw[<- hq_];exact(by(with_reducible repeat(first|refine kH ?_ _|refine eu ?_|refine lX ?_ _));exact jX.out)):p:=h
theorem Fj {p:Prop} (h:p:=by have:=tC.out;have:=tO.out;omega):p:=h
theorem apC {p:Prop} (h:p:=by(with_reducible repeat(first|apply Kd.cK|apply Kd.cz|apply Kd.dB));exact(Cg (Kd.mJ oD.out aT.out (by decide)) (fun _ h_=>h_.1))):p:=h
theorem ajL {p:Prop} (h:p:=by(try simp only[List.map_toArray,List.map_cons,List.map_nil]);first|done|(simp only[Vv];rfl)|rfl|(simp only[List.length_drop,List.length_take];rfl)):p:=h
theorem adt {p:Prop} (h:p:=by(with_reducible repeat(first|apply Kd.cK|apply Kd.cz|apply Kd.dB));exact HY.out):p:=h
theorem adu {p:Prop} (h:p:=by(with_reducible repeat(first|apply Kd.cK|apply Kd.cz|apply Kd.dB));exact xL.out):p:=h
theorem apD {p:Prop} (h:p:=by simp only[NI,Act.put,List.setIfInBounds_toArray,List.set_cons_zero,List.set_cons_succ]):p:=h
theorem ajM {p:Prop} (h:p:=by rw[<- hq_];exact(by(with_reducible repeat(first|refine kH ?_ _|refine eu ?_|refine lX ?_ _));exact sM.out)):p:=h
theorem ajN {p:Prop} (h:p:=by rw[<- hq_];exact(by(with_reducible repeat(first|refine kH ?_ _|refine eu ?_|refine lX ?_ _));exact kD.out)):p:=h
theorem Qt {p:Prop} (h:p:=by have:=tC.out;first|omega|exact Nat.le_refl _):p:=h
theorem ae4 {p:Prop} (h:p:=by(with_reducible repeat(first|apply Kd.cK|apply Kd.cz|apply Kd.dB));exact Gl.out):p:=h
theorem ae5 {p:Prop} (h:p:=by(with_reducible repeat(first|apply Kd.cK|apply Kd.cz|apply Kd.dB));exact Gm.out):p:=h
theorem ae6 {p:Prop} (h:p:=by(with_reducible repeat(first|apply Kd.cK|apply Kd.cz|apply Kd.dB));exact iH.out):p:=h
theorem ae7 {p:Prop} (h:p:=by(with_reducible repeat(first|apply Kd.cK|apply Kd.cz|apply Kd.dB));exact vM.out):p:=h
theorem ae8 {p:Prop} (h:p:=by(with_reducible repeat(first|apply Kd.cK|apply Kd.cz|apply Kd.dB));exact vN.out):p:=h
theorem ae9 {p:Prop} (h:p:=by(with_reducible repeat(first|apply Kd.cK|apply Kd.cz|apply Kd.dB));exact KP.out):p:=h
theorem TI {p:Prop} (h:p:=by have:=ig.out;have:=tO.out;omega):p:=h
theorem ajO {p:Prop} (h:p:=by(with_reducible repeat(first|apply Kd.cK|apply Kd.cz|apply Kd.dB));exact JY.out):p:=h
theorem apE {p:Prop} (h:p:=by have:=tC.out;have:=tO.out;have:=TJ.out;omega):p:=h
theorem Zg {p:Prop} (h:p:=by have:=ig.out;have:=HJ2.out;omega):p:=h
theorem adv {p:Prop} (h:p:=by have:=ig.out;have:=HJ3.out;omega):p:=h
theorem asL {p:Prop} (h:p:=by rintro w' ⟨s0,s1,s2,s3⟩;go_simp;with_reducible rfl):p:=h
theorem asE {p:Prop} (h:p:=by rw[<- adl _ _ 1 (by omega)];exact hc 1 _ rfl):p:=h
theorem axI {p:Prop} (h:p:=by first|exact HB.out|exact aX):p:=h
section
variable {P:Program} {ops:Array Oper} {Q:Exit->Act->World->Prop} {rest:List Oper} {oi:Oper} {a:Act} {w:World} {f:FuncId} {fn:Func} {as:Array Operand} {ts:Array TypeId} {args:Array Value} {x:Value} {post:Ending->World->Prop}
theorem NL (N : Tmp) (hd : oi.dst = some N) (hf : P.funcs[f]? = some fn) (hc : Calls P f args w post) (k : ∀ e w', post e w' -> ∃ v, e = .returned v /\ wpList P ops Q rest (a.put (some N) v) w') (hg : oi.guard = none := by rfl) (hname : (fn.name == "runtime.NumGoroutine") = false := by kernel_rfl) (hb : fn.body.isSome = true := by rfl) (hop : oi.op = .call { callee := .value (.func f), args := as, argTypes := ts } := by rfl) (hargs : as.map a.eval = args := by exact Bd) : wpList P ops Q (oi :: rest) a w := nU (some N) hd hg hf hname hb args hop hargs (hc.mono k)
theorem mM (N : Tmp) (hd : oi.dst = some N) (hf : P.funcs[f]? = some fn) (hc : Calls P f args w fun e w' => e = .returned x /\ bH w w') (k : ∀ nd, wpList P ops Q rest (a.put (some N) x) (w.drewN nd)) (hg : oi.guard = none := by rfl) (hname : (fn.name == "runtime.NumGoroutine") = false := by kernel_rfl) (hb : fn.body.isSome = true := by rfl) (hop : oi.op = .call { callee := .value (.func f), args := as, argTypes := ts } := by rfl) (hargs : as.map a.eval = args := by exact Bd) : wpList P ops Q (oi :: rest) a w := nU (some N) hd hg hf hname hb args hop hargs (hc.mono fun e w' h => by obtain ⟨he, ⟨nd, rfl⟩⟩ := h; exact ⟨x, he, k nd⟩)
theorem iW {w0 : World} (N : Tmp) (hd : oi.dst = some N) (hf : P.funcs[f]? = some fn) (hc : Calls P f args w fun e w' => e = .returned x /\ Below w.heap.size w w') (k : ∀ w', Below w.heap.size w w' -> aa (Below w0.heap.size w0 w') -> wpList P ops Q rest (a.put (some N) x) w') (hB : Below w0.heap.size w0 w := by exact aX) (hg : oi.guard = none := by rfl) (hname : (fn.name == "runtime.NumGoroutine") = false := by kernel_rfl) (hb : fn.body.isSome = true := by rfl) (hop : oi.op = .call { callee := .value (.func f), args := as, argTypes := ts } := by rfl) (hargs : as.map a.eval = args := by exact Bd) : wpList P ops Q (oi :: rest) a w := nU (some N) hd hg hf hname hb args hop hargs (hc.mono fun e w' h => ⟨x, h.1, k w' h.2 (fw h.2 hB)⟩)
variable {N:Option Tmp} {K:Act->World->Prop}
theorem zrl (hf : P.funcs[f]? = some fn) (hc : Calls P f args w post) (k : ∀ e w', post e w' -> ∃ v, e = .returned v /\ K (a.put N v) w') (hname : (fn.name == "runtime.NumGoroutine") = false := by kernel_rfl) (hb : fn.body.isSome = true := by rfl) (hw : Region.wanted oi (yielded ops a.tmps) = true := by rfl) (hN : oi.dst = N := by rfl) (hop : oi.op = .call { callee := .value (.func f), args := as, argTypes := ts } := by rfl) (hargs : as.map a.eval = args := by exact Bd) : if Region.wanted oi (yielded ops a.tmps) = true then Oper.wp P oi a w K Q else K (a.put N undef) w := jZ hf hname hb args hw hN hop hargs (hc.mono k)
theorem BZ (hf : P.funcs[f]? = some fn) (hc : Calls P f args w fun e w' => e = .returned x /\ bH w w') (k : ∀ nd, K (a.put N x) (w.drewN nd)) (hname : (fn.name == "runtime.NumGoroutine") = false := by kernel_rfl) (hb : fn.body.isSome = true := by rfl) (hw : Region.wanted oi (yielded ops a.tmps) = true := by rfl) (hN : oi.dst = N := by rfl) (hop : oi.op = .call { callee := .value (.func f), args := as, argTypes := ts } := by rfl) (hargs : as.map a.eval = args := by exact Bd) : if Region.wanted oi (yielded ops a.tmps) = true then Oper.wp P oi a w K Q else K (a.put N undef) w := jZ hf hname hb args hw hN hop hargs (hc.mono fun e w' h => by obtain ⟨he, ⟨nd, rfl⟩⟩ := h; exact ⟨x, he, k nd⟩)
theorem EY (hf : P.funcs[f]? = some fn) (hc : Calls P f args w fun e w' => e = .returned x /\ Below w.heap.size w w') (k : ∀ w', Below w.heap.size w w' -> K (a.put N x) w') (hname : (fn.name == "runtime.NumGoroutine") = false := by kernel_rfl) (hb : fn.body.isSome = true := by rfl) (hw : Region.wanted oi (yielded ops a.tmps) = true := by rfl) (hN : oi.dst = N := by rfl) (hop : oi.op = .call { callee := .value (.func f), args := as, argTypes := ts } := by rfl) (hargs : as.map a.eval = args := by exact Bd) : if Region.wanted oi (yielded ops a.tmps) = true then Oper.wp P oi a w K Q else K (a.put N undef) w := jZ hf hname hb args hw hN hop hargs (hc.mono fun e w' h => ⟨x, h.1, k w' h.2⟩)
theorem cZ (f:FuncId) {as:Array Operand} {ts:Array TypeId} (ho:oi.op = .call { callee:=.value (.func f),args:=as,argTypes:=ts }) (h:wpList P ops Q (oi::rest) a w):wpList P ops Q (oi::rest) a w:=h
theorem lT (N:Tmp) (hd:oi.dst=some N) (h:wpList P ops Q (oi::rest) a w):wpList P ops Q (oi::rest) a w:=h
theorem Fp {W w0:World} (cs:Array Value) (t:TypeId) (h:∀ g w1,aa (w1.heap[g]? = some (.cells cs t (0,0)))->aa (w0.heap.size<=g)->aa (Below w0.heap.size w0 w1)->wpList P ops Q rest (a.put oi.dst (.pointer (some ⟨g,0,none⟩))) w1) (hB:Below w0.heap.size w0 W:=by exact aX) (hg:oi.guard=none:=by rfl)
    (hrun:(execOp a.eval oi).run P W = .ok (.value (.pointer (some ⟨W.heap.size,0,none⟩))) (W.alloc (.cells cs t (0,0))):=by first|(go_simp;done)|(go_simp;rfl)):wpList P ops Q (oi::rest) a W:=jL cs t (fun g hg w1 hbox hb=>h g w1 ⟨hbox⟩ (lJ hg hB) (fw hb hB)) hg hrun
end
theorem gBz {p:Prop} (h:p:=by repeat(first|(with_reducible first|exact aa.out (by assumption)|apply qL|(apply Bh;assumption)|apply kH|apply eu|apply lX)|(simp only[List.setIfInBounds_toArray,List.set_cons_zero,List.set_cons_succ];with_reducible rfl)|(simp only[List.setIfInBounds_toArray,List.set_cons_zero,List.set_cons_succ];done)|exact(rfl:(_:Array Value)=_))):p:=h
theorem si (l:List UInt8):(ByteArray.mk (List.toArray l)).size=l.length:=by simp[ByteArray.size]
theorem nN {w:World} {g:Nat} {t:TypeId} {l:List Value} {v0 v1 v2 v3 v4 v5:Value} (h:aa (w.heap[g]? = some (.cells (List.toArray (v0::v1::v2::v3::v4::v5::l)) t (0,0)))):(w.cell? ⟨g,0,none⟩=some v0/\w.cell? ⟨g,1,none⟩=some v1/\w.cell? ⟨g,2,none⟩=some v2/\w.cell? ⟨g,3,none⟩=some v3/\w.cell? ⟨g,4,none⟩=some v4/\w.cell? ⟨g,5,none⟩=some v5)/\(w.frozen? ⟨g,0,none⟩=false/\w.frozen? ⟨g,1,none⟩=false/\w.frozen? ⟨g,2,none⟩=false/\w.frozen? ⟨g,3,none⟩=false/\w.frozen? ⟨g,4,none⟩=false/\w.frozen? ⟨g,5,none⟩=false):=⟨pI h,TC h⟩
theorem zl {w:World} {g:Nat} {t:TypeId} {l:List Value} {v0 v1 v2 v3 v4 v5 v6 v7 v8 v9:Value} (h:aa (w.heap[g]? = some (.cells (List.toArray (v0::v1::v2::v3::v4::v5::v6::v7::v8::v9::l)) t (0,0)))):(w.cell? ⟨g,0,none⟩=some v0/\w.cell? ⟨g,1,none⟩=some v1/\w.cell? ⟨g,2,none⟩=some v2/\w.cell? ⟨g,3,none⟩=some v3/\w.cell? ⟨g,4,none⟩=some v4/\w.cell? ⟨g,5,none⟩=some v5/\w.cell? ⟨g,6,none⟩=some v6/\w.cell? ⟨g,7,none⟩=some v7/\w.cell? ⟨g,8,none⟩=some v8/\w.cell? ⟨g,9,none⟩=some v9)/\(w.frozen? ⟨g,0,none⟩=false/\w.frozen? ⟨g,1,none⟩=false/\w.frozen? ⟨g,2,none⟩=false/\w.frozen? ⟨g,3,none⟩=false/\w.frozen? ⟨g,4,none⟩=false/\w.frozen? ⟨g,5,none⟩=false/\w.frozen? ⟨g,6,none⟩=false/\w.frozen? ⟨g,7,none⟩=false/\w.frozen? ⟨g,8,none⟩=false/\w.frozen? ⟨g,9,none⟩=false):=⟨xJ h,asH h⟩
theorem jQ {w:World} {g:Nat} {t:TypeId} {l:List Value} {v0 v1 v2 v3 v4 v5 v6 v7 v8 v9 v10:Value} (h:aa (w.heap[g]? = some (.cells (List.toArray (v0::v1::v2::v3::v4::v5::v6::v7::v8::v9::v10::l)) t (0,0)))):(w.cell? ⟨g,0,none⟩=some v0/\w.cell? ⟨g,1,none⟩=some v1/\w.cell? ⟨g,2,none⟩=some v2/\w.cell? ⟨g,3,none⟩=some v3/\w.cell? ⟨g,4,none⟩=some v4/\w.cell? ⟨g,5,none⟩=some v5/\w.cell? ⟨g,6,none⟩=some v6/\w.cell? ⟨g,7,none⟩=some v7/\w.cell? ⟨g,8,none⟩=some v8/\w.cell? ⟨g,9,none⟩=some v9/\w.cell? ⟨g,10,none⟩=some v10)/\(w.frozen? ⟨g,0,none⟩=false/\w.frozen? ⟨g,1,none⟩=false/\w.frozen? ⟨g,2,none⟩=false/\w.frozen? ⟨g,3,none⟩=false/\w.frozen? ⟨g,4,none⟩=false/\w.frozen? ⟨g,5,none⟩=false/\w.frozen? ⟨g,6,none⟩=false/\w.frozen? ⟨g,7,none⟩=false/\w.frozen? ⟨g,8,none⟩=false/\w.frozen? ⟨g,9,none⟩=false/\w.frozen? ⟨g,10,none⟩=false):=⟨asI h,asJ h⟩
theorem zs0 {p:Prop} (h:p:=by repeat(first|exact(Kd.kV DN.out HB.out)|(with_reducible refine Kd.lK ?_ _)|(with_reducible refine Kd.lL ?_ _)|(with_reducible refine Kd.nM ?_))):p:=h
theorem Qo {p:Prop} (h:p:=by repeat(first|exact(Kd.kV C8.out HB.out)|(with_reducible refine Kd.lK ?_ _)|(with_reducible refine Kd.lL ?_ _)|(with_reducible refine Kd.nM ?_))):p:=h
theorem Ch {p:Prop} (h:p:=by repeat(first|exact(Kd.kV yA.out HB.out)|(with_reducible refine Kd.lK ?_ _)|(with_reducible refine Kd.lL ?_ _)|(with_reducible refine Kd.nM ?_))):p:=h
theorem zs3 {p:Prop} (h:p:=by repeat(first|exact(Kd.kV asM.out HB.out)|(with_reducible refine Kd.lK ?_ _)|(with_reducible refine Kd.lL ?_ _)|(with_reducible refine Kd.nM ?_))):p:=h
theorem zs4 {p:Prop} (h:p:=by repeat(first|exact(Kd.kV asN.out HB.out)|(with_reducible refine Kd.lK ?_ _)|(with_reducible refine Kd.lL ?_ _)|(with_reducible refine Kd.nM ?_))):p:=h
theorem zs5 {p:Prop} (h:p:=by repeat(first|exact(Kd.kV asO.out HB.out)|(with_reducible refine Kd.lK ?_ _)|(with_reducible refine Kd.lL ?_ _)|(with_reducible refine Kd.nM ?_))):p:=h
theorem Rk {p:Prop} (h:p:=by repeat(first|exact wR.out|(with_reducible refine Kd.lK ?_ _)|(with_reducible refine Kd.lL ?_ _)|(with_reducible refine Kd.nM ?_))):p:=h
theorem zs7 {p:Prop} (h:p:=by repeat(first|exact(Kd.kV DN.out aX)|(with_reducible refine Kd.lK ?_ _)|(with_reducible refine Kd.lL ?_ _)|(with_reducible refine Kd.nM ?_))):p:=h
theorem zs8 {p:Prop} (h:p:=by repeat(first|exact(Kd.aH Vw.out).2.2|(with_reducible refine Kd.lK ?_ _)|(with_reducible refine Kd.lL ?_ _)|(with_reducible refine Kd.nM ?_))):p:=h
theorem zs9 {p:Prop} (h:p:=by repeat(first|exact(Kd.aH Vx.out).2.2|(with_reducible refine Kd.lK ?_ _)|(with_reducible refine Kd.lL ?_ _)|(with_reducible refine Kd.nM ?_))):p:=h
theorem apF {p:Prop} (h:p:=by repeat(first|exact(Kd.aH iV.out).2.2|(with_reducible refine Kd.lK ?_ _)|(with_reducible refine Kd.lL ?_ _)|(with_reducible refine Kd.nM ?_))):p:=h
theorem axJ {p:Prop} (h:p:=by repeat(first|exact(Kd.aH afa.out).2.2|(with_reducible refine Kd.lK ?_ _)|(with_reducible refine Kd.lL ?_ _)|(with_reducible refine Kd.nM ?_))):p:=h
theorem afb {p:Prop} (h:p:=by repeat(first|exact(Kd.kV C8.out aX)|(with_reducible refine Kd.lK ?_ _)|(with_reducible refine Kd.lL ?_ _)|(with_reducible refine Kd.nM ?_))):p:=h
theorem axK {p:Prop} (h:p:=by repeat(first|exact(Kd.aH Zh.out).2.2|(with_reducible refine Kd.lK ?_ _)|(with_reducible refine Kd.lL ?_ _)|(with_reducible refine Kd.nM ?_))):p:=h
theorem axL {p:Prop} (h:p:=by repeat(first|exact(Kd.aH vK.out).2.2|(with_reducible refine Kd.lK ?_ _)|(with_reducible refine Kd.lL ?_ _)|(with_reducible refine Kd.nM ?_))):p:=h
theorem axM {p:Prop} (h:p:=by repeat(first|exact(Kd.aH vL.out).2.2|(with_reducible refine Kd.lK ?_ _)|(with_reducible refine Kd.lL ?_ _)|(with_reducible refine Kd.nM ?_))):p:=h
theorem axN {p:Prop} (h:p:=by refine(Kd.aH (e:=72) (base:=w.heap.size) (ok:=fun k_=>((some k_≠(.slice ajP KQ.length afc:Value).ownBlock/\some k_≠(.slice apG Vy.length apH:Value).ownBlock)/\some k_≠(.slice apI Vz.length apJ:Value).ownBlock)) (n:=KR.length) (c:=afd) ?_).2.2;exact(by(with_reducible repeat(first|apply Kd.cK|apply Kd.cz|apply Kd.dB));exact(Cg (Kd.mJ vM.out jb.out (by decide)) (fun _ h_=>h_.1)))):p:=h
theorem axO {p:Prop} (h:p:=by refine(Kd.aH (e:=72) (base:=w.heap.size) (ok:=fun k_=>((some k_≠(.slice ajQ KR.length afd:Value).ownBlock/\some k_≠(.slice apG Vy.length apH:Value).ownBlock)/\some k_≠(.slice apI Vz.length apJ:Value).ownBlock)) (n:=KQ.length) (c:=afc) ?_).2.2;exact(by(with_reducible repeat(first|apply Kd.cK|apply Kd.cz|apply Kd.dB));exact(Cg (Kd.mJ vN.out jb.out (by decide)) (fun _ h_=>h_.1)))):p:=h
theorem axP {p:Prop} (h:p:=by repeat(first|exact(Kd.aH vM.out).2.2|(with_reducible refine Kd.lK ?_ _)|(with_reducible refine Kd.lL ?_ _)|(with_reducible refine Kd.nM ?_))):p:=h
theorem axQ {p:Prop} (h:p:=by repeat(first|exact(Kd.aH vN.out).2.2|(with_reducible refine Kd.lK ?_ _)|(with_reducible refine Kd.lL ?_ _)|(with_reducible refine Kd.nM ?_))):p:=h
theorem axR {p:Prop} (h:p:=by repeat(first|exact(Kd.aH NM.out).2.2|(with_reducible refine Kd.lK ?_ _)|(with_reducible refine Kd.lL ?_ _)|(with_reducible refine Kd.nM ?_))):p:=h
theorem axS {p:Prop} (h:p:=by repeat(first|exact(Kd.aH NN.out).2.2|(with_reducible refine Kd.lK ?_ _)|(with_reducible refine Kd.lL ?_ _)|(with_reducible refine Kd.nM ?_))):p:=h
theorem asP {p:Prop} (h:p:=by repeat(first|exact(Kd.kV wR.out HB.out)|(with_reducible refine Kd.lK ?_ _)|(with_reducible refine Kd.lL ?_ _)|(with_reducible refine Kd.nM ?_))):p:=h
theorem adw {p:Prop} (h:p:=by repeat(first|exact(Kd.aH oD.out).2.2|(with_reducible refine Kd.lK ?_ _)|(with_reducible refine Kd.lL ?_ _)|(with_reducible refine Kd.nM ?_))):p:=h
theorem asQ {p:Prop} (h:p:=by refine(Kd.aH (e:=9) (base:=w.heap.size) (ok:=fun k_=>True) (n:=kL.length) (c:=Bi) ?_).2.2;exact apC):p:=h
theorem adx {p:Prop} (h:p:=by refine(Kd.aH (e:=9) (base:=w.heap.size) (ok:=fun k_=>True) (n:=kL.length) (c:=Bi) ?_).2.2;exact TF):p:=h
theorem axT {p:Prop} (h:p:=by repeat(first|exact(Kd.kV yA.out aX)|(with_reducible refine Kd.lK ?_ _)|(with_reducible refine Kd.lL ?_ _)|(with_reducible refine Kd.nM ?_))):p:=h
theorem xE {β:Type} {o:Option Bool} {a b:Bool->Option β} {r:β} (h:(o.bind fun t=>if t=true then a t else b t)=some r):(aa (o=some true)/\a true=some r)∨(aa (o=some false)/\b false=some r):=by
  obtain⟨x,h1,h2⟩:=gD h
  cases x
  · exact .inr ⟨h1,h2⟩
  · exact .inl ⟨h1,h2⟩
section
variable {p:Prop} [Decidable p] {α β:Type} {x:Bool}
theorem nP {o:Option α} {f:α->Option β} {r:β} (h:aa (o.bind f=some r)):∃ x,aa (o=some x)/\aa (f x=some r):=by
  obtain⟨x,h1,h2⟩:=gD h.out
  exact⟨x,h1,⟨h2⟩⟩
theorem jw {a b r:α} (h:aa ((if p then a else b)=r)):(p/\decide p=true/\p=True/\aa (a=r))∨(¬p/\decide p=false/\p=False/\aa (b=r)):=by
  rcases gI h.out with⟨h1,h2,h3,h4⟩|⟨h1,h2,h3,h4⟩
  · exact .inl ⟨h1,h2,h3,⟨h4⟩⟩
  · exact .inr ⟨h1,h2,h3,⟨h4⟩⟩
theorem nZ {a:Option α} {r:α} (h:aa ((if p then a else none)=some r)):p/\decide p=true/\p=True/\aa (a=some r):=by
  obtain⟨h1,h2,h3,h4⟩:=gN h.out
  exact⟨h1,h2,h3,⟨h4⟩⟩
theorem lu {o:Option Bool} {a b:Bool->Option β} {r:β} (h:aa ((o.bind fun t=>if t=true then a t else b t)=some r)):(aa (o=some true)/\aa (a true=some r))∨(aa (o=some false)/\aa (b false=some r)):=by
  rcases xE h.out with⟨h1,h2⟩|⟨h1,h2⟩
  · exact .inl ⟨h1,⟨h2⟩⟩
  · exact .inr ⟨h1,⟨h2⟩⟩
end
end Go.Proofs.YtfhllanhldbkkaaGreatDoorW.kG
