import Derived.Test.YtfhllanhldbkkaaGreatDoorWMore
import Derived.Test.YtfhllanhldbkkaaGreatDoorWGuard
namespace Go.Proofs.YtfhllanhldbkkaaGreatDoorW.fO
open Go.RowKit Go.Proofs.YtfhllanhldbkkaaGreatDoorW.aW Go.Proofs.YtfhllanhldbkkaaGreatDoorW.eQ
set_option linter.unusedVariables false
theorem dL {p:Prop} (h:p:=by repeat(first|(with_reducible first|exact HB.out|apply gL|apply jX|apply bn|refine kH ?_ (ae.out (by assumption)))|exact HB.out)):p:=h
theorem uf {w:World} {g h i:Nat} {t:TypeId} {cs:Array Value} (hp:ae (g≠h)) (hw:w.heap[g]? = some (.cells cs t (0,0))) (u:Value):(w.setCell ⟨h,i,none⟩ u).heap[g]? = some (.cells cs t (0,0)):=ak9 hw hp.out u
theorem yz {p:Prop} (h:p:=by repeat(first|(with_reducible first|exact ae.out (by assumption)|apply oK|(apply uf;assumption)|apply jV|apply dh|apply kU)|exact(rfl:(_:Array Value)=_))):p:=h
theorem wh {p:Prop} (h:p:=by(with_reducible repeat(first|apply Kd.bR|apply Kd.bP|apply Kd.bV));exact ae.out (by assumption)):p:=h
theorem iC {w W w2:World} (hb:Below W.heap.size W w2) (h:Below w.heap.size w W:=by exact dL):ae (Below w.heap.size w w2):=⟨Cs h hb⟩
theorem rE {w W:World} {g:Nat} (hg:g=W.heap.size) (h:Below w.heap.size w W:=by exact dL):ae (w.heap.size<=g):=⟨by rw[hg];exact bq h⟩
theorem O9 {W:World} {g h:Nat} {o:Obj} (hg:h=W.heap.size) (hk:W.heap[g]? = some o:=by exact yz):ae (g≠h):=⟨by rw[hg];exact Nat.ne_of_lt (zF hk)⟩
theorem QD {g h:Nat} (k:ae (g≠h)):ae (h≠g):=⟨fun e=>k.out e.symm⟩
theorem jr {W w1:World} {g:Nat} {o:Obj} (hb:Below W.heap.size W w1) (h:W.heap[g]? = some o:=by exact yz):ae (w1.heap[g]? = some o):=⟨pU h hb⟩
section
variable {w:World} {g:Nat} {t:TypeId} {l:List Value} {v0 v1 v2 v3 v4 v5 v6 v7:Value}
theorem Js (h:ae (w.heap[g]? = some (.cells (List.toArray (v0::l)) t (0,0)))):w.cell? ⟨g,0,none⟩=some v0:=(ag h.out 0).trans rfl
theorem Jt (h:ae (w.heap[g]? = some (.cells (List.toArray (v0::v1::l)) t (0,0)))):w.cell? ⟨g,1,none⟩=some v1:=(ag h.out 1).trans rfl
theorem Qx (h:ae (w.heap[g]? = some (.cells (List.toArray (v0::v1::v2::l)) t (0,0)))):w.cell? ⟨g,2,none⟩=some v2:=(ag h.out 2).trans rfl
theorem QE (h:ae (w.heap[g]? = some (.cells (List.toArray (v0::v1::v2::v3::l)) t (0,0)))):w.cell? ⟨g,3,none⟩=some v3:=(ag h.out 3).trans rfl
theorem QF (h:ae (w.heap[g]? = some (.cells (List.toArray (v0::v1::v2::v3::v4::l)) t (0,0)))):w.cell? ⟨g,4,none⟩=some v4:=(ag h.out 4).trans rfl
theorem Pb (h:ae (w.heap[g]? = some (.cells (List.toArray (v0::v1::v2::v3::v4::v5::l)) t (0,0)))):w.cell? ⟨g,5,none⟩=some v5:=(ag h.out 5).trans rfl
theorem cz6 (h:ae (w.heap[g]? = some (.cells (List.toArray (v0::v1::v2::v3::v4::v5::v6::l)) t (0,0)))):w.cell? ⟨g,6,none⟩=some v6:=(ag h.out 6).trans rfl
theorem cz7 (h:ae (w.heap[g]? = some (.cells (List.toArray (v0::v1::v2::v3::v4::v5::v6::v7::l)) t (0,0)))):w.cell? ⟨g,7,none⟩=some v7:=(ag h.out 7).trans rfl
end
section
variable {p:Prop} [Decidable p] {α:Type} {a b r:α}
theorem gI (h:(if p then a else b)=r):(p/\decide p=true/\p=True/\a=r)∨(¬p/\decide p=false/\p=False/\b=r):=by
  by_cases hp:p
  · exact .inl ⟨hp,decide_eq_true hp,eq_true hp,(if_pos hp).symm.trans h⟩
  · exact .inr ⟨hp,decide_eq_false hp,eq_false hp,(if_neg hp).symm.trans h⟩
end
theorem gN {p:Prop} [Decidable p] {α:Type} {a:Option α} {r:α} (h:(if p then a else none)=some r):p/\decide p=true/\p=True/\a=some r:=by
  rcases gI h with h|h
  · exact h
  · cases h.2.2.2
theorem gB {x:Bool} {α:Type} {a b r:α} (h:(if x=true then a else b)=r):(x=true/\a=r)∨(x=false/\b=r):=by
  cases x
  · exact .inr ⟨rfl,h⟩
  · exact .inl ⟨rfl,h⟩
theorem Cu {α:Type} [BEq α] [LawfulBEq α] {a b:α} (h:a=b):(a==b)=true/\(a != b)=false:=⟨beq_iff_eq.mpr h,bne_eq_false_iff_eq.mpr h⟩
theorem Di {α:Type} [BEq α] [LawfulBEq α] {a b:α} (h:¬ a=b):(a==b)=false/\(a != b)=true:=⟨beq_eq_false_iff_ne.mpr h,bne_iff_ne.mpr h⟩
theorem gD {α β:Type} {o:Option α} {f:α->Option β} {r:β} (h:o.bind f=some r):∃ x,ae (o=some x)/\f x=some r:=by
  obtain⟨x,h1,h2⟩:=Option.bind_eq_some_iff.mp h
  exact⟨x,⟨h1⟩,h2⟩
section
variable {w:World} {g:Nat} {t:TypeId} {l:List Value} {cs:Array Value} {v0 v1 v2 v3 v4 v5 v6 v7:Value}
theorem SF (h:ae (w.heap[g]? = some (.cells (List.toArray (v0::v1::l)) t (0,0)))):w.cell? ⟨g,0,none⟩=some v0/\w.cell? ⟨g,1,none⟩=some v1:=⟨Js h,Jt h⟩
theorem asc (h:ae (w.heap[g]? = some (.cells (List.toArray (v0::v1::v2::l)) t (0,0)))):w.cell? ⟨g,0,none⟩=some v0/\w.cell? ⟨g,1,none⟩=some v1/\w.cell? ⟨g,2,none⟩=some v2:=⟨Js h,Jt h,Qx h⟩
theorem tL (h:ae (w.heap[g]? = some (.cells (List.toArray (v0::v1::v2::v3::v4::l)) t (0,0)))):w.cell? ⟨g,0,none⟩=some v0/\w.cell? ⟨g,1,none⟩=some v1/\w.cell? ⟨g,2,none⟩=some v2/\w.cell? ⟨g,3,none⟩=some v3/\w.cell? ⟨g,4,none⟩=some v4:=⟨Js h,Jt h,Qx h,QE h,QF h⟩
theorem pY (h:ae (w.heap[g]? = some (.cells (List.toArray (v0::v1::v2::v3::v4::v5::l)) t (0,0)))):w.cell? ⟨g,0,none⟩=some v0/\w.cell? ⟨g,1,none⟩=some v1/\w.cell? ⟨g,2,none⟩=some v2/\w.cell? ⟨g,3,none⟩=some v3/\w.cell? ⟨g,4,none⟩=some v4/\w.cell? ⟨g,5,none⟩=some v5:=⟨Js h,Jt h,Qx h,QE h,QF h,Pb h⟩
theorem Pd (h:ae (w.heap[g]? = some (.cells (List.toArray (v0::v1::v2::v3::v4::v5::v6::l)) t (0,0)))):w.cell? ⟨g,0,none⟩=some v0/\w.cell? ⟨g,1,none⟩=some v1/\w.cell? ⟨g,2,none⟩=some v2/\w.cell? ⟨g,3,none⟩=some v3/\w.cell? ⟨g,4,none⟩=some v4/\w.cell? ⟨g,5,none⟩=some v5/\w.cell? ⟨g,6,none⟩=some v6:=⟨Js h,Jt h,Qx h,QE h,QF h,Pb h,cz6 h⟩
theorem ali (h:ae (w.heap[g]? = some (.cells cs t (0,0)))):w.frozen? ⟨g,0,none⟩=false/\w.frozen? ⟨g,1,none⟩=false:=⟨ah h.out 0,ah h.out 1⟩
theorem agc (h:ae (w.heap[g]? = some (.cells cs t (0,0)))):w.frozen? ⟨g,0,none⟩=false/\w.frozen? ⟨g,1,none⟩=false/\w.frozen? ⟨g,2,none⟩=false/\w.frozen? ⟨g,3,none⟩=false/\w.frozen? ⟨g,4,none⟩=false:=⟨ah h.out 0,ah h.out 1,ah h.out 2,ah h.out 3,ah h.out 4⟩
theorem Le (h:ae (w.heap[g]? = some (.cells cs t (0,0)))):w.frozen? ⟨g,0,none⟩=false/\w.frozen? ⟨g,1,none⟩=false/\w.frozen? ⟨g,2,none⟩=false/\w.frozen? ⟨g,3,none⟩=false/\w.frozen? ⟨g,4,none⟩=false/\w.frozen? ⟨g,5,none⟩=false:=⟨ah h.out 0,ah h.out 1,ah h.out 2,ah h.out 3,ah h.out 4,ah h.out 5⟩
theorem agd (h:ae (w.heap[g]? = some (.cells cs t (0,0)))):w.frozen? ⟨g,0,none⟩=false/\w.frozen? ⟨g,1,none⟩=false/\w.frozen? ⟨g,2,none⟩=false/\w.frozen? ⟨g,3,none⟩=false/\w.frozen? ⟨g,4,none⟩=false/\w.frozen? ⟨g,5,none⟩=false/\w.frozen? ⟨g,6,none⟩=false:=⟨ah h.out 0,ah h.out 1,ah h.out 2,ah h.out 3,ah h.out 4,ah h.out 5,ah h.out 6⟩
end
theorem EZ {α:Type} {d:Kd α} {e:TypeId} {w0 w:World} {base:Nat} {ok ok':Nat->Prop} {v:Value} {xs:List α} (q:d.R e w0 base ok v xs) (G:∀ k,ok k->ok' k)
    (h:d.R e w0 base ok v xs->d.R e w base ok v xs:=by intro q_;repeat(first|with_reducible exact q_|(with_reducible first|apply Kd.bP|apply Kd.bV|apply Kd.bR)|refine Kd.agZ ?_ (by first|exact fun _ hk=>hk.2|exact fun _ hk=>hk.1.2|exact fun _ hk=>hk.1.1.2) _)):d.R e w base ok' v xs:=Kd.iR (h q) G
section
variable {P:Program} {ops:Array Oper} {rest:List Oper} {o:Oper} {a:Act} {Q:Exit->Act->World->Prop}
theorem qo {W:World} (cs:Array Value) (t:TypeId) (h:∀ g,g=W.heap.size->∀ w1,w1.heap[g]? = some (.cells cs t (0,0))->Below W.heap.size W w1->wpList P ops Q rest (a.put o.dst (.pointer (some ⟨g,0,none⟩))) w1) (hg:o.guard=none:=by rfl)
    (hrun:(execOp a.eval o).run P W = .ok (.value (.pointer (some ⟨W.heap.size,0,none⟩))) (W.alloc (.cells cs t (0,0))):=by first|(go_simp;done)|(go_simp;rfl)):wpList P ops Q (o::rest) a W:=Kd.Qz hg hrun (h _ rfl _ (Jw W _) (gL (Below.refl _ _) _))
theorem Iz {W:World} (cs:Array Value) (t:TypeId) (h:∀ g,g=W.heap.size->∀ w1,w1.heap[g]? = some (.cells cs t (0,0))->Below W.heap.size W w1->wpList P ops Q rest (a.put o.dst (.pointer (some ⟨g,0,none⟩))) w1) (hw:Region.wanted o (yielded ops a.tmps)=true:=by rfl)
    (hrun:(execOp a.eval { o with guard:=none }).run P W = .ok (.value (.pointer (some ⟨W.heap.size,0,none⟩))) (W.alloc (.cells cs t (0,0))):=by first|(dsimp only;go_simp;done)|(dsimp only;go_simp;rfl)):wpList P ops Q (o::rest) a W:=
  mH hw (Kd.Qz (o:={ o with guard:=none }) rfl hrun (h _ rfl _ (Jw W _) (gL (Below.refl _ _) _)))
end
section
variable {P:Program} {ops:Array Oper} {Q:Exit->Act->World->Prop} {md:Region.Mode} {S:World->Prop} {ds:List Nat}
theorem bN {oi:Oper} {v:Value} {fuel:Nat} {l l':Array Bool} {a a':Act} {w:World} (i:Nat) (N:Option Tmp) (h:dm P md ops Q S ds fuel l' a' w) (hi:ops[i]? = some oi:=by rfl) (hN:oi.dst=N:=by rfl)
    (hl:l.setIfInBounds i true=l':=by(simp only[List.setIfInBounds_toArray,List.set_cons_zero,List.set_cons_succ];rfl))
    (hc:acS md ops l l' i=true:=by exact ahg HT_.out (by kernel_rfl)) (hQ:∀ c a w,Q (.panic c) (a.put oi.dst v) w->Q (.panic c) a w:=by exact fun _ _ _ h=>h)
    (hy:Yields P ops oi v a:=by exact Or.inl ⟨by rfl,by intro w';go_simp;with_reducible rfl⟩)
    (ha:a.put N v=a':=by(simp only[Act.put,List.setIfInBounds_toArray,List.set_cons_zero,List.set_cons_succ,jJ,lY];rfl)):dm P md ops Q S ds (fuel+1) l a w:=ag8 l' hi hN hc hQ hy ha h
theorem Xk {oi:Oper} {v:Value} {fuel:Nat} {l l':Array Bool} {a a':Act} {w:World} (i:Nat) (N:Option Tmp) (h:dm P md ops Q S ds fuel l' a' w) (hi:ops[i]? = some oi:=by rfl) (hN:oi.dst=N:=by rfl)
    (hl:l.setIfInBounds i true=l':=by(simp only[List.setIfInBounds_toArray,List.set_cons_zero,List.set_cons_succ];rfl))
    (hc:acS md ops l l' i=true:=by kernel_rfl) (hQ:∀ c a w,Q (.panic c) (a.put oi.dst v) w->Q (.panic c) a w:=by exact fun _ _ _ h=>h)
    (hy:Yields P ops oi v a:=by exact Or.inl ⟨by rfl,by intro w';go_simp;with_reducible rfl⟩)
    (ha:a.put N v=a':=by(simp only[Act.put,List.setIfInBounds_toArray,List.set_cons_zero,List.set_cons_succ,jJ,lY];rfl)):dm P md ops Q S ds (fuel+1) l a w:=ag8 l' hi hN hc hQ hy ha h
theorem fQ {oi:Oper} {v:Value} {fuel:Nat} {l l':Array Bool} {a a':Act} {w:World} (i:Nat) (N:Option Tmp) (h:dm P md ops Q S ds fuel l' a' w) (hi:ops[i]? = some oi:=by rfl) (hN:oi.dst=N:=by rfl) (hy:YieldsIf P ops S oi v a)
    (hl:l.setIfInBounds i true=l':=by(simp only[List.setIfInBounds_toArray,List.set_cons_zero,List.set_cons_succ];rfl))
    (hc:takeB md ops ds l l' i=true:=by exact aag HT_.out HW_.out (by kernel_rfl)) (hQ:∀ c a w,Q (.panic c) (a.put oi.dst v) w->Q (.panic c) a w:=by exact fun _ _ _ h=>h)
    (hS:S w:=by exact hHeld)
    (ha:a.put N v=a':=by(simp only[Act.put,List.setIfInBounds_toArray,List.set_cons_zero,List.set_cons_succ,jJ,lY];rfl)):dm P md ops Q S ds (fuel+1) l a w:=Z7 l' hi hN hc hQ hy hS ha h
theorem Lf {oi:Oper} {v:Value} {fuel:Nat} {l l':Array Bool} {a a':Act} {w:World} (i:Nat) (N:Option Tmp) (h:dm P md ops Q S ds fuel l' a' w) (hi:ops[i]? = some oi:=by rfl) (hN:oi.dst=N:=by rfl) (hy:YieldsIf P ops S oi v a)
    (hl:l.setIfInBounds i true=l':=by(simp only[List.setIfInBounds_toArray,List.set_cons_zero,List.set_cons_succ];rfl))
    (hc:takeB md ops ds l l' i=true:=by kernel_rfl) (hQ:∀ c a w,Q (.panic c) (a.put oi.dst v) w->Q (.panic c) a w:=by exact fun _ _ _ h=>h)
    (hS:S w:=by exact hHeld)
    (ha:a.put N v=a':=by(simp only[Act.put,List.setIfInBounds_toArray,List.set_cons_zero,List.set_cons_succ,jJ,lY];rfl)):dm P md ops Q S ds (fuel+1) l a w:=Z7 l' hi hN hc hQ hy hS ha h
theorem tK {fuel:Nat} {l:Array Bool} {a a':Act} {v:Value} {w:World} (N:Option Tmp) (h:dm P md ops Q S ds fuel l a' w) (ha:a.put N v=a':=by(simp only[Act.put,List.setIfInBounds_toArray,List.set_cons_zero,List.set_cons_succ,jJ,lY];rfl)):dm P md ops Q S ds fuel l (a.put N v) w:=Nf ha h
end
section
variable {P:Program} {fn:Func} {R:Ending->World->Prop} {a:Act} {w:World} {p u v:Tmp} {ty:TypeId} {d:TypeDesc}
end
section
variable {P:Program} {ops:Array Oper} {Q:Exit->Act->World->Prop} {md:Region.Mode} {S:World->Prop} {ds:List Nat}
theorem ek {oi:Oper} {v:Value} {fuel:Nat} {l l':Array Bool} {a a':Act} {w:World} {i:Nat} {N:Tmp} (h:dm P md ops Q S ds fuel l' a' w)
    (h0:List.idxOf false l.toList=i:=by(simp only[List.idxOf_cons,beq_self_eq_true,Bool.true_beq,Bool.false_beq,Bool.not_false,Bool.not_true,cond_true,cond_false,Nat.reduceAdd,Nat.zero_add];rfl)) (hi:ops[i]? = some oi:=by rfl) (hN:oi.dst=some N:=by rfl)
    (hl:l.setIfInBounds i true=l':=by(simp only[List.setIfInBounds_toArray,List.set_cons_zero,List.set_cons_succ];rfl))
    (hy:Yields P ops oi v a:=by first|exact Or.inl ⟨by rfl,by intro w';go_simp;with_reducible rfl⟩|exact Or.inr ⟨by rfl,rfl⟩)
    (hc:acS md ops l l' i=true:=by exact ahg HT_.out (by kernel_rfl)) (hQ:∀ c a w,Q (.panic c) (a.put oi.dst v) w->Q (.panic c) a w:=by exact fun _ _ _ h=>h)
    (ha:a.put (some N) v=a':=by(simp only[Act.put,List.setIfInBounds_toArray,List.set_cons_zero,List.set_cons_succ,jJ,lY];rfl)):dm P md ops Q S ds (fuel+1) l a w:=ag8 l' hi hN hc hQ hy ha h
theorem mr {oi:Oper} {v:Value} {fuel:Nat} {l l':Array Bool} {a a':Act} {w:World} {i:Nat} {N:Tmp} (h:dm P md ops Q S ds fuel l' a' w)
    (h0:List.idxOf false l.toList=i:=by(simp only[List.idxOf_cons,beq_self_eq_true,Bool.true_beq,Bool.false_beq,Bool.not_false,Bool.not_true,cond_true,cond_false,Nat.reduceAdd,Nat.zero_add];rfl)) (hi:ops[i]? = some oi:=by rfl) (hN:oi.dst=some N:=by rfl)
    (hl:l.setIfInBounds i true=l':=by(simp only[List.setIfInBounds_toArray,List.set_cons_zero,List.set_cons_succ];rfl)) (hy:YieldsIf P ops S oi v a)
    (hc:takeB md ops ds l l' i=true:=by exact aag HT_.out HW_.out (by kernel_rfl)) (hQ:∀ c a w,Q (.panic c) (a.put oi.dst v) w->Q (.panic c) a w:=by exact fun _ _ _ h=>h)
    (hS:S w:=by exact hHeld)
    (ha:a.put (some N) v=a':=by(simp only[Act.put,List.setIfInBounds_toArray,List.set_cons_zero,List.set_cons_succ,jJ,lY];rfl)):dm P md ops Q S ds (fuel+1) l a w:=Z7 l' hi hN hc hQ hy hS ha h
theorem gV {oi:Oper} {fuel:Nat} {l l':Array Bool} {a:Act} {w:World} {i:Nat} {N:Tmp}
    (h:∀ K:Act->World->Prop,Shut (∀ a' w',S w'->(S w'->dm P md ops Q S ds fuel l' a' w')->K a' w')->if Region.wanted oi (yielded ops a.tmps)=true then Oper.wp P oi a w K Q else K (a.put (some N) undef) w)
    (h0:List.idxOf false l.toList=i:=by(simp only[List.idxOf_cons,beq_self_eq_true,Bool.true_beq,Bool.false_beq,Bool.not_false,Bool.not_true,cond_true,cond_false,Nat.reduceAdd,Nat.zero_add];rfl)) (hi:ops[i]? = some oi:=by rfl) (hN:oi.dst=some N:=by rfl)
    (hl:l.setIfInBounds i true=l':=by(simp only[List.setIfInBounds_toArray,List.set_cons_zero,List.set_cons_succ];rfl))
    (hc:TK md ops l l' i=true:=by exact wD HT_.out (by kernel_rfl)) (hd:i∉ds:=by decide):dm P md ops Q S ds (fuel+1) l a w:=Cf l' hi hN hc hd h
theorem dI {fuel:Nat} {l:Array Bool} {a a':Act} {v:Value} {w:World} {N:Tmp} (h:dm P md ops Q S ds fuel l a' w) (ha:a.put (some N) v=a':=by(simp only[Act.put,List.setIfInBounds_toArray,List.set_cons_zero,List.set_cons_succ,jJ,lY];rfl)):dm P md ops Q S ds fuel l (a.put (some N) v) w:=Nf ha h
theorem kJ {id n:Nat} {a:Act} {w:World} {l:Array Bool} (hS:S w.drew) (h:S w.drew->dm P .any ops Q S ds n l a w.drew) (hm:P.follows .mixedOrders=true:=by kernel_rfl) (hn:ops.size=n:=by rfl)
    (hl:Array.replicate n false=l:=by(simp only[<- List.toArray_replicate,List.replicate];rfl)):(Code.region id ops true).wp P Q a w:=Ct l hm hn hl hS h
end
theorem ug {w:World} {g:Nat} {t:TypeId} {l:List Value} {v0 v1 v2 v3 v4 v5 v6 v7 v8 v9:Value} (h:ae (w.heap[g]? = some (.cells (List.toArray (v0::v1::v2::v3::v4::v5::v6::v7::v8::v9::l)) t (0,0)))):w.cell? ⟨g,0,none⟩=some v0/\w.cell? ⟨g,1,none⟩=some v1/\w.cell? ⟨g,2,none⟩=some v2/\w.cell? ⟨g,3,none⟩=some v3/\w.cell? ⟨g,4,none⟩=some v4/\w.cell? ⟨g,5,none⟩=some v5/\w.cell? ⟨g,6,none⟩=some v6/\w.cell? ⟨g,7,none⟩=some v7/\w.cell? ⟨g,8,none⟩=some v8/\w.cell? ⟨g,9,none⟩=some v9:=⟨(ag h.out 0).trans rfl,(ag h.out 1).trans rfl,(ag h.out 2).trans rfl,(ag h.out 3).trans rfl,(ag h.out 4).trans rfl,(ag h.out 5).trans rfl,(ag h.out 6).trans rfl,(ag h.out 7).trans rfl,(ag h.out 8).trans rfl,(ag h.out 9).trans rfl⟩
theorem auA {w:World} {g:Nat} {t:TypeId} {cs:Array Value} (h:ae (w.heap[g]? = some (.cells cs t (0,0)))):w.frozen? ⟨g,0,none⟩=false/\w.frozen? ⟨g,1,none⟩=false/\w.frozen? ⟨g,2,none⟩=false/\w.frozen? ⟨g,3,none⟩=false/\w.frozen? ⟨g,4,none⟩=false/\w.frozen? ⟨g,5,none⟩=false/\w.frozen? ⟨g,6,none⟩=false/\w.frozen? ⟨g,7,none⟩=false/\w.frozen? ⟨g,8,none⟩=false/\w.frozen? ⟨g,9,none⟩=false:=⟨ah h.out 0,ah h.out 1,ah h.out 2,ah h.out 3,ah h.out 4,ah h.out 5,ah h.out 6,ah h.out 7,ah h.out 8,ah h.out 9⟩
theorem rV {w:World} {g:Nat} {t:TypeId} {l:List Value} {v0 v1 v2 v3 v4 v5 v6 v7 v8 v9 v10:Value} (h:ae (w.heap[g]? = some (.cells (List.toArray (v0::v1::v2::v3::v4::v5::v6::v7::v8::v9::v10::l)) t (0,0)))):w.cell? ⟨g,0,none⟩=some v0/\w.cell? ⟨g,1,none⟩=some v1/\w.cell? ⟨g,2,none⟩=some v2/\w.cell? ⟨g,3,none⟩=some v3/\w.cell? ⟨g,4,none⟩=some v4/\w.cell? ⟨g,5,none⟩=some v5/\w.cell? ⟨g,6,none⟩=some v6/\w.cell? ⟨g,7,none⟩=some v7/\w.cell? ⟨g,8,none⟩=some v8/\w.cell? ⟨g,9,none⟩=some v9/\w.cell? ⟨g,10,none⟩=some v10:=⟨(ag h.out 0).trans rfl,(ag h.out 1).trans rfl,(ag h.out 2).trans rfl,(ag h.out 3).trans rfl,(ag h.out 4).trans rfl,(ag h.out 5).trans rfl,(ag h.out 6).trans rfl,(ag h.out 7).trans rfl,(ag h.out 8).trans rfl,(ag h.out 9).trans rfl,(ag h.out 10).trans rfl⟩
theorem KV {w:World} {g:Nat} {t:TypeId} {cs:Array Value} (h:ae (w.heap[g]? = some (.cells cs t (0,0)))):w.frozen? ⟨g,0,none⟩=false/\w.frozen? ⟨g,1,none⟩=false/\w.frozen? ⟨g,2,none⟩=false/\w.frozen? ⟨g,3,none⟩=false/\w.frozen? ⟨g,4,none⟩=false/\w.frozen? ⟨g,5,none⟩=false/\w.frozen? ⟨g,6,none⟩=false/\w.frozen? ⟨g,7,none⟩=false/\w.frozen? ⟨g,8,none⟩=false/\w.frozen? ⟨g,9,none⟩=false/\w.frozen? ⟨g,10,none⟩=false:=⟨ah h.out 0,ah h.out 1,ah h.out 2,ah h.out 3,ah h.out 4,ah h.out 5,ah h.out 6,ah h.out 7,ah h.out 8,ah h.out 9,ah h.out 10⟩
theorem Iu {p:Prop} (h:p:=by(try simp only[List.map_toArray,List.map_cons,List.map_nil]);first|done|rfl|(simp only[List.length_drop,List.length_take];rfl)):p:=h
theorem gq1 {p:Prop} (h:p:=by first|exact Kd.O6 (Kd.ag0 jL.out eY.out (by decide))|(rw[add_block];exact Kd.O6 (Kd.ag0 jL.out eY.out (by decide)))|(show(Addr.add _ _).block≠_;rw[add_block];exact Kd.O6 (Kd.ag0 jL.out eY.out (by decide)))|(dsimp only;exact Kd.O6 (Kd.ag0 jL.out eY.out (by decide)))):p:=h
theorem su {p:Prop} (h:p:=by first|rfl|(simp[iN,iO] <;> rfl)|(simp[*,iN,iO] <;> rfl)):p:=h
theorem gq {p:Prop} (h:p:=by first|(with_reducible assumption)|assumption):p:=h
theorem kD {p:Prop} (h:p:=by first|rfl|(simp;done)|(simp[*];done)):p:=h
theorem TP {p:Prop} (h:p:=by repeat(first|exact bL.refl _|apply bL.step)):p:=h
theorem YE {p:Prop} (h:p:=by rintro w' ⟨s0,s1,s2,s3,s4,s5⟩;go_simp;with_reducible rfl):p:=h
theorem Dk {p:Prop} (h:p:=by rintro w' ⟨s0,s1,s2,s3,s4⟩;go_simp;with_reducible rfl):p:=h
theorem Ld {p:Prop} (h:p:=by first|omega|exact Nat.le_refl _):p:=h
theorem SG {p:Prop} (h:p:=by(with_reducible repeat(first|apply Kd.bR|apply Kd.bP|apply Kd.bV));exact jY.out):p:=h
theorem YF {p:Prop} (h:p:=by(with_reducible repeat(first|apply Kd.bR|apply Kd.bP|apply Kd.bV));exact(EZ (Kd.nO jY.out bJ.out (by decide)) (fun _ h_=>h_.1))):p:=h
theorem Pe {p:Prop} (h:p:=by first|exact Kd.O0 _ _ _ _ _|exact Kd.auw _ _ _ _ _|exact Kd.aup _ _ _ _ _|exact Kd.aut _ _ _ _ _|exact Kd.auv _ _ _ _ _):p:=h
theorem alj {p:Prop} (h:p:=by rintro w' ⟨s0,s1,s2,s3,s4,s5,s6,s7,s8,s9,s10,s11,s12,s13,s14,s15,s16,s17,s18,s19,s20,s21⟩;go_simp;with_reducible rfl):p:=h
theorem QG {p:Prop} (h:p:=by(try simp only[List.map_toArray,List.map_cons,List.map_nil]);first|done|rfl):p:=h
theorem SH {p:Prop} (h:p:=by(with_reducible repeat(first|apply Kd.bR|apply Kd.bP|apply Kd.bV));exact uV.out):p:=h
theorem SI {p:Prop} (h:p:=by(with_reducible repeat(first|apply Kd.bR|apply Kd.bP|apply Kd.bV));exact uX.out):p:=h
theorem SK {p:Prop} (h:p:=by(with_reducible repeat(first|apply Kd.bR|apply Kd.bP|apply Kd.bV));exact wE.out):p:=h
theorem SL {p:Prop} (h:p:=by rintro w' ⟨s0,s1,s2,s3,s4,s5,s6,s7,s8,s9,s10⟩;go_simp;with_reducible rfl):p:=h
theorem alk {p:Prop} (h:p:=by(try simp only[List.map_toArray,List.map_cons,List.map_nil]);first|done|(simp only[aah];rfl)|rfl|(simp only[List.length_drop,List.length_take];rfl)):p:=h
theorem WR {p:Prop} (h:p:=by(with_reducible repeat(first|apply Kd.bR|apply Kd.bP|apply Kd.bV));exact xc.out):p:=h
theorem ase {p:Prop} (h:p:=by rw[<- hq_];exact(by(with_reducible repeat(first|refine jV ?_ _|refine dh ?_|refine kU ?_ _));exact az2.out)):p:=h
theorem YG {p:Prop} (h:p:=by(with_reducible repeat(first|apply Kd.bR|apply Kd.bP|apply Kd.bV));exact Aq.out):p:=h
theorem YH {p:Prop} (h:p:=by(with_reducible repeat(first|apply Kd.bR|apply Kd.bP|apply Kd.bV));exact Ar.out):p:=h
theorem acW {p:Prop} (h:p:=by rintro w' ⟨s0,s1⟩;go_simp;with_reducible rfl):p:=h
theorem acX {p:Prop} (h:p:=by have:=HJ4.out;first|omega|exact Nat.le_refl _):p:=h
theorem acY {p:Prop} (h:p:=by(with_reducible repeat(first|apply Kd.bR|apply Kd.bP|apply Kd.bV));exact wF.out):p:=h
theorem acZ {p:Prop} (h:p:=by(with_reducible repeat(first|apply Kd.bR|apply Kd.bP|apply Kd.bV));exact wG.out):p:=h
theorem ac0 {p:Prop} (h:p:=by(with_reducible repeat(first|apply Kd.bR|apply Kd.bP|apply Kd.bV));exact sH.out):p:=h
theorem aai {p:Prop} (h:p:=by have:=mh.out;first|omega|exact Nat.le_refl _):p:=h
theorem ahi {p:Prop} (h:p:=by(with_reducible repeat(first|apply Kd.bR|apply Kd.bP|apply Kd.bV));exact Kd.iR xc.out (fun _ hk=>⟨trivial,hk⟩)):p:=h
theorem auB {p:Prop} (h:p:=by rw[<- hq_];exact(by(with_reducible repeat(first|refine jV ?_ _|refine dh ?_|refine kU ?_ _));exact az3.out)):p:=h
theorem aaj {p:Prop} (h:p:=by have:=Ch.out;have:=Cv.out;omega):p:=h
theorem asf {p:Prop} (h:p:=by(with_reducible repeat(first|apply Kd.bR|apply Kd.bP|apply Kd.bV));exact(EZ (Kd.nO sH.out bJ.out (by decide)) (fun _ h_=>h_.1))):p:=h
theorem alm {p:Prop} (h:p:=by(try simp only[List.map_toArray,List.map_cons,List.map_nil]);first|done|(simp only[aak];rfl)|rfl|(simp only[List.length_drop,List.length_take];rfl)):p:=h
theorem age {p:Prop} (h:p:=by(with_reducible repeat(first|apply Kd.bR|apply Kd.bP|apply Kd.bV));exact Dl.out):p:=h
theorem agf {p:Prop} (h:p:=by simp only[QA,Act.put,List.setIfInBounds_toArray,List.set_cons_zero,List.set_cons_succ]):p:=h
theorem agh {p:Prop} (h:p:=by have:=Ch.out;first|omega|exact Nat.le_refl _):p:=h
theorem aln {p:Prop} (h:p:=by rintro w' ⟨s0,s1,s2,s3,s4,s5,s6,s7,s8,s9,s10,s11,s12,s13,s14,s15,s16,s17,s18,s19,s20⟩;go_simp;with_reducible rfl):p:=h
theorem ahj {p:Prop} (h:p:=by(with_reducible repeat(first|apply Kd.bR|apply Kd.bP|apply Kd.bV));exact NI.out):p:=h
theorem ahk {p:Prop} (h:p:=by(with_reducible repeat(first|apply Kd.bR|apply Kd.bP|apply Kd.bV));exact NJ.out):p:=h
theorem ahl {p:Prop} (h:p:=by(with_reducible repeat(first|apply Kd.bR|apply Kd.bP|apply Kd.bV));exact jL.out):p:=h
theorem ahm {p:Prop} (h:p:=by(with_reducible repeat(first|apply Kd.bR|apply Kd.bP|apply Kd.bV));exact Au.out):p:=h
theorem ahn {p:Prop} (h:p:=by(with_reducible repeat(first|apply Kd.bR|apply Kd.bP|apply Kd.bV));exact Av.out):p:=h
theorem aho {p:Prop} (h:p:=by(with_reducible repeat(first|apply Kd.bR|apply Kd.bP|apply Kd.bV));exact RJ.out):p:=h
theorem agi {p:Prop} (h:p:=by have:=mh.out;have:=Cv.out;omega):p:=h
theorem alo {p:Prop} (h:p:=by(with_reducible repeat(first|apply Kd.bR|apply Kd.bP|apply Kd.bV));exact QH.out):p:=h
theorem asg {p:Prop} (h:p:=by have:=Ch.out;have:=Cv.out;have:=YI.out;omega):p:=h
theorem ac1 {p:Prop} (h:p:=by have:=mh.out;have:=HJ2.out;omega):p:=h
theorem agj {p:Prop} (h:p:=by have:=mh.out;have:=HJ3.out;omega):p:=h
theorem auC {p:Prop} (h:p:=by rintro w' ⟨s0,s1,s2,s3⟩;go_simp;with_reducible rfl):p:=h
theorem alf {p:Prop} (h:p:=by rw[<- qV _ _ 1 (by omega)];exact hc 1 _ rfl):p:=h
theorem az4 {p:Prop} (h:p:=by first|exact HB.out|exact dL):p:=h
section
variable {P:Program} {ops:Array Oper} {Q:Exit->Act->World->Prop} {rest:List Oper} {oi:Oper} {a:Act} {w:World} {f:FuncId} {fn:Func} {as:Array Operand} {ts:Array TypeId} {args:Array Value} {x:Value} {post:Ending->World->Prop}
theorem WK (N : Tmp) (hd : oi.dst = some N) (hf : P.funcs[f]? = some fn) (hc : Calls P f args w post) (k : ∀ e w', post e w' -> ∃ v, e = .returned v /\ wpList P ops Q rest (a.put (some N) v) w') (hg : oi.guard = none := by rfl) (hname : (fn.name == "runtime.NumGoroutine") = false := by kernel_rfl) (hb : fn.body.isSome = true := by rfl) (hop : oi.op = .call { callee := .value (.func f), args := as, argTypes := ts } := by rfl) (hargs : as.map a.eval = args := by exact Iu) : wpList P ops Q (oi :: rest) a w := wC (some N) hd hg hf hname hb args hop hargs (hc.mono k)
theorem MW (N : Tmp) (hd : oi.dst = some N) (hf : P.funcs[f]? = some fn) (hc : Calls P f args w fun e w' => e = .returned x /\ bL w w') (k : ∀ nd, wpList P ops Q rest (a.put (some N) x) (w.drewN nd)) (hg : oi.guard = none := by rfl) (hname : (fn.name == "runtime.NumGoroutine") = false := by kernel_rfl) (hb : fn.body.isSome = true := by rfl) (hop : oi.op = .call { callee := .value (.func f), args := as, argTypes := ts } := by rfl) (hargs : as.map a.eval = args := by exact Iu) : wpList P ops Q (oi :: rest) a w := wC (some N) hd hg hf hname hb args hop hargs (hc.mono fun e w' h => by obtain ⟨he, ⟨nd, rfl⟩⟩ := h; exact ⟨x, he, k nd⟩)
theorem vI {w0 : World} (N : Tmp) (hd : oi.dst = some N) (hf : P.funcs[f]? = some fn) (hc : Calls P f args w fun e w' => e = .returned x /\ Below w.heap.size w w') (k : ∀ w', Below w.heap.size w w' -> ae (Below w0.heap.size w0 w') -> wpList P ops Q rest (a.put (some N) x) w') (hB : Below w0.heap.size w0 w := by exact dL) (hg : oi.guard = none := by rfl) (hname : (fn.name == "runtime.NumGoroutine") = false := by kernel_rfl) (hb : fn.body.isSome = true := by rfl) (hop : oi.op = .call { callee := .value (.func f), args := as, argTypes := ts } := by rfl) (hargs : as.map a.eval = args := by exact Iu) : wpList P ops Q (oi :: rest) a w := wC (some N) hd hg hf hname hb args hop hargs (hc.mono fun e w' h => ⟨x, h.1, k w' h.2 (iC h.2 hB)⟩)
variable {N:Option Tmp} {K:Act->World->Prop}
theorem zrl (hf : P.funcs[f]? = some fn) (hc : Calls P f args w post) (k : ∀ e w', post e w' -> ∃ v, e = .returned v /\ K (a.put N v) w') (hname : (fn.name == "runtime.NumGoroutine") = false := by kernel_rfl) (hb : fn.body.isSome = true := by rfl) (hw : Region.wanted oi (yielded ops a.tmps) = true := by rfl) (hN : oi.dst = N := by rfl) (hop : oi.op = .call { callee := .value (.func f), args := as, argTypes := ts } := by rfl) (hargs : as.map a.eval = args := by exact Iu) : if Region.wanted oi (yielded ops a.tmps) = true then Oper.wp P oi a w K Q else K (a.put N undef) w := lQ hf hname hb args hw hN hop hargs (hc.mono k)
theorem Iw (hf : P.funcs[f]? = some fn) (hc : Calls P f args w fun e w' => e = .returned x /\ bL w w') (k : ∀ nd, K (a.put N x) (w.drewN nd)) (hname : (fn.name == "runtime.NumGoroutine") = false := by kernel_rfl) (hb : fn.body.isSome = true := by rfl) (hw : Region.wanted oi (yielded ops a.tmps) = true := by rfl) (hN : oi.dst = N := by rfl) (hop : oi.op = .call { callee := .value (.func f), args := as, argTypes := ts } := by rfl) (hargs : as.map a.eval = args := by exact Iu) : if Region.wanted oi (yielded ops a.tmps) = true then Oper.wp P oi a w K Q else K (a.put N undef) w := lQ hf hname hb args hw hN hop hargs (hc.mono fun e w' h => by obtain ⟨he, ⟨nd, rfl⟩⟩ := h; exact ⟨x, he, k nd⟩)
theorem EC (hf : P.funcs[f]? = some fn) (hc : Calls P f args w fun e w' => e = .returned x /\ Below w.heap.size w w') (k : ∀ w', Below w.heap.size w w' -> K (a.put N x) w') (hname : (fn.name == "runtime.NumGoroutine") = false := by kernel_rfl) (hb : fn.body.isSome = true := by rfl) (hw : Region.wanted oi (yielded ops a.tmps) = true := by rfl) (hN : oi.dst = N := by rfl) (hop : oi.op = .call { callee := .value (.func f), args := as, argTypes := ts } := by rfl) (hargs : as.map a.eval = args := by exact Iu) : if Region.wanted oi (yielded ops a.tmps) = true then Oper.wp P oi a w K Q else K (a.put N undef) w := lQ hf hname hb args hw hN hop hargs (hc.mono fun e w' h => ⟨x, h.1, k w' h.2⟩)
theorem lS (f:FuncId) {as:Array Operand} {ts:Array TypeId} (ho:oi.op = .call { callee:=.value (.func f),args:=as,argTypes:=ts }) (h:wpList P ops Q (oi::rest) a w):wpList P ops Q (oi::rest) a w:=h
theorem vJ (N:Tmp) (hd:oi.dst=some N) (h:wpList P ops Q (oi::rest) a w):wpList P ops Q (oi::rest) a w:=h
theorem agk {W w0:World} (cs:Array Value) (t:TypeId) (h:∀ g w1,ae (w1.heap[g]? = some (.cells cs t (0,0)))->ae (w0.heap.size<=g)->ae (Below w0.heap.size w0 w1)->wpList P ops Q rest (a.put oi.dst (.pointer (some ⟨g,0,none⟩))) w1) (hB:Below w0.heap.size w0 W:=by exact dL) (hg:oi.guard=none:=by rfl)
    (hrun:(execOp a.eval oi).run P W = .ok (.value (.pointer (some ⟨W.heap.size,0,none⟩))) (W.alloc (.cells cs t (0,0))):=by first|(go_simp;done)|(go_simp;rfl)):wpList P ops Q (oi::rest) a W:=qo cs t (fun g hg w1 hbox hb=>h g w1 ⟨hbox⟩ (rE hg hB) (iC hb hB)) hg hrun
end
theorem gBz {p:Prop} (h:p:=by repeat(first|(with_reducible first|exact ae.out (by assumption)|apply oK|(apply uf;assumption)|apply jV|apply dh|apply kU)|(simp only[List.setIfInBounds_toArray,List.set_cons_zero,List.set_cons_succ];with_reducible rfl)|(simp only[List.setIfInBounds_toArray,List.set_cons_zero,List.set_cons_succ];done)|exact(rfl:(_:Array Value)=_))):p:=h
theorem yP (l:List UInt8):(ByteArray.mk (List.toArray l)).size=l.length:=by simp[ByteArray.size]
theorem TQ {w:World} {g:Nat} {t:TypeId} {l:List Value} {v0 v1 v2 v3 v4 v5:Value} (h:ae (w.heap[g]? = some (.cells (List.toArray (v0::v1::v2::v3::v4::v5::l)) t (0,0)))):(w.cell? ⟨g,0,none⟩=some v0/\w.cell? ⟨g,1,none⟩=some v1/\w.cell? ⟨g,2,none⟩=some v2/\w.cell? ⟨g,3,none⟩=some v3/\w.cell? ⟨g,4,none⟩=some v4/\w.cell? ⟨g,5,none⟩=some v5)/\(w.frozen? ⟨g,0,none⟩=false/\w.frozen? ⟨g,1,none⟩=false/\w.frozen? ⟨g,2,none⟩=false/\w.frozen? ⟨g,3,none⟩=false/\w.frozen? ⟨g,4,none⟩=false/\w.frozen? ⟨g,5,none⟩=false):=⟨pY h,Le h⟩
theorem qH {w:World} {g:Nat} {t:TypeId} {l:List Value} {v0 v1 v2 v3 v4 v5 v6 v7 v8 v9:Value} (h:ae (w.heap[g]? = some (.cells (List.toArray (v0::v1::v2::v3::v4::v5::v6::v7::v8::v9::l)) t (0,0)))):(w.cell? ⟨g,0,none⟩=some v0/\w.cell? ⟨g,1,none⟩=some v1/\w.cell? ⟨g,2,none⟩=some v2/\w.cell? ⟨g,3,none⟩=some v3/\w.cell? ⟨g,4,none⟩=some v4/\w.cell? ⟨g,5,none⟩=some v5/\w.cell? ⟨g,6,none⟩=some v6/\w.cell? ⟨g,7,none⟩=some v7/\w.cell? ⟨g,8,none⟩=some v8/\w.cell? ⟨g,9,none⟩=some v9)/\(w.frozen? ⟨g,0,none⟩=false/\w.frozen? ⟨g,1,none⟩=false/\w.frozen? ⟨g,2,none⟩=false/\w.frozen? ⟨g,3,none⟩=false/\w.frozen? ⟨g,4,none⟩=false/\w.frozen? ⟨g,5,none⟩=false/\w.frozen? ⟨g,6,none⟩=false/\w.frozen? ⟨g,7,none⟩=false/\w.frozen? ⟨g,8,none⟩=false/\w.frozen? ⟨g,9,none⟩=false):=⟨ug h,auA h⟩
theorem E5 {w:World} {g:Nat} {t:TypeId} {l:List Value} {v0 v1 v2 v3 v4 v5 v6 v7 v8 v9 v10:Value} (h:ae (w.heap[g]? = some (.cells (List.toArray (v0::v1::v2::v3::v4::v5::v6::v7::v8::v9::v10::l)) t (0,0)))):(w.cell? ⟨g,0,none⟩=some v0/\w.cell? ⟨g,1,none⟩=some v1/\w.cell? ⟨g,2,none⟩=some v2/\w.cell? ⟨g,3,none⟩=some v3/\w.cell? ⟨g,4,none⟩=some v4/\w.cell? ⟨g,5,none⟩=some v5/\w.cell? ⟨g,6,none⟩=some v6/\w.cell? ⟨g,7,none⟩=some v7/\w.cell? ⟨g,8,none⟩=some v8/\w.cell? ⟨g,9,none⟩=some v9/\w.cell? ⟨g,10,none⟩=some v10)/\(w.frozen? ⟨g,0,none⟩=false/\w.frozen? ⟨g,1,none⟩=false/\w.frozen? ⟨g,2,none⟩=false/\w.frozen? ⟨g,3,none⟩=false/\w.frozen? ⟨g,4,none⟩=false/\w.frozen? ⟨g,5,none⟩=false/\w.frozen? ⟨g,6,none⟩=false/\w.frozen? ⟨g,7,none⟩=false/\w.frozen? ⟨g,8,none⟩=false/\w.frozen? ⟨g,9,none⟩=false/\w.frozen? ⟨g,10,none⟩=false):=⟨rV h,KV h⟩
theorem zs0 {p:Prop} (h:p:=by repeat(first|exact GL.out|(with_reducible refine Kd.oh ?_ _)|(with_reducible refine Kd.om ?_ _)|(with_reducible refine Kd.qX ?_))):p:=h
theorem zs1 {p:Prop} (h:p:=by repeat(first|exact(Kd.aJ aal.out).2.2|(with_reducible refine Kd.oh ?_ _)|(with_reducible refine Kd.om ?_ _)|(with_reducible refine Kd.qX ?_))):p:=h
theorem zs2 {p:Prop} (h:p:=by repeat(first|exact(Kd.aJ aam.out).2.2|(with_reducible refine Kd.oh ?_ _)|(with_reducible refine Kd.om ?_ _)|(with_reducible refine Kd.qX ?_))):p:=h
theorem zs3 {p:Prop} (h:p:=by repeat(first|exact(Kd.aJ jY.out).2.2|(with_reducible refine Kd.oh ?_ _)|(with_reducible refine Kd.om ?_ _)|(with_reducible refine Kd.qX ?_))):p:=h
theorem MX {p:Prop} (h:p:=by repeat(first|exact(Kd.ng xB.out HB.out)|(with_reducible refine Kd.oh ?_ _)|(with_reducible refine Kd.om ?_ _)|(with_reducible refine Kd.qX ?_))):p:=h
theorem RL {p:Prop} (h:p:=by repeat(first|exact(Kd.ng xI.out HB.out)|(with_reducible refine Kd.oh ?_ _)|(with_reducible refine Kd.om ?_ _)|(with_reducible refine Kd.qX ?_))):p:=h
theorem zs6 {p:Prop} (h:p:=by repeat(first|exact(Kd.aJ ac2.out).2.2|(with_reducible refine Kd.oh ?_ _)|(with_reducible refine Kd.om ?_ _)|(with_reducible refine Kd.qX ?_))):p:=h
theorem az5 {p:Prop} (h:p:=by repeat(first|exact(Kd.aJ Aq.out).2.2|(with_reducible refine Kd.oh ?_ _)|(with_reducible refine Kd.om ?_ _)|(with_reducible refine Kd.qX ?_))):p:=h
theorem az6 {p:Prop} (h:p:=by repeat(first|exact(Kd.aJ Ar.out).2.2|(with_reducible refine Kd.oh ?_ _)|(with_reducible refine Kd.om ?_ _)|(with_reducible refine Kd.qX ?_))):p:=h
theorem az7 {p:Prop} (h:p:=by refine(Kd.aJ (e:=72) (base:=w.heap.size) (ok:=fun k_=>((some k_≠(.slice WS RN.length TR:Value).ownBlock/\some k_≠(.slice ash aan.length asi:Value).ownBlock)/\some k_≠(.slice asj aao.length asl:Value).ownBlock)) (n:=RO.length) (c:=WT) ?_).2.2;exact(by(with_reducible repeat(first|apply Kd.bR|apply Kd.bP|apply Kd.bV));exact(EZ (Kd.nO Au.out kE.out (by decide)) (fun _ h_=>h_.1)))):p:=h
theorem az8 {p:Prop} (h:p:=by refine(Kd.aJ (e:=72) (base:=w.heap.size) (ok:=fun k_=>((some k_≠(.slice YJ RO.length WT:Value).ownBlock/\some k_≠(.slice ash aan.length asi:Value).ownBlock)/\some k_≠(.slice asj aao.length asl:Value).ownBlock)) (n:=RN.length) (c:=TR) ?_).2.2;exact(by(with_reducible repeat(first|apply Kd.bR|apply Kd.bP|apply Kd.bV));exact(EZ (Kd.nO Av.out kE.out (by decide)) (fun _ h_=>h_.1)))):p:=h
theorem az9 {p:Prop} (h:p:=by repeat(first|exact(Kd.aJ Au.out).2.2|(with_reducible refine Kd.oh ?_ _)|(with_reducible refine Kd.om ?_ _)|(with_reducible refine Kd.qX ?_))):p:=h
theorem aAa {p:Prop} (h:p:=by repeat(first|exact(Kd.aJ Av.out).2.2|(with_reducible refine Kd.oh ?_ _)|(with_reducible refine Kd.om ?_ _)|(with_reducible refine Kd.qX ?_))):p:=h
theorem aAb {p:Prop} (h:p:=by repeat(first|exact(Kd.aJ TS.out).2.2|(with_reducible refine Kd.oh ?_ _)|(with_reducible refine Kd.om ?_ _)|(with_reducible refine Kd.qX ?_))):p:=h
theorem aAc {p:Prop} (h:p:=by repeat(first|exact(Kd.aJ TT.out).2.2|(with_reducible refine Kd.oh ?_ _)|(with_reducible refine Kd.om ?_ _)|(with_reducible refine Kd.qX ?_))):p:=h
theorem aAd {p:Prop} (h:p:=by repeat(first|exact(Kd.aJ uV.out).2.2|(with_reducible refine Kd.oh ?_ _)|(with_reducible refine Kd.om ?_ _)|(with_reducible refine Kd.qX ?_))):p:=h
theorem aAe {p:Prop} (h:p:=by repeat(first|exact(Kd.aJ uX.out).2.2|(with_reducible refine Kd.oh ?_ _)|(with_reducible refine Kd.om ?_ _)|(with_reducible refine Kd.qX ?_))):p:=h
theorem auD {p:Prop} (h:p:=by repeat(first|exact(Kd.aJ wF.out).2.2|(with_reducible refine Kd.oh ?_ _)|(with_reducible refine Kd.om ?_ _)|(with_reducible refine Kd.qX ?_))):p:=h
theorem auE {p:Prop} (h:p:=by repeat(first|exact(Kd.aJ wG.out).2.2|(with_reducible refine Kd.oh ?_ _)|(with_reducible refine Kd.om ?_ _)|(with_reducible refine Kd.qX ?_))):p:=h
theorem aAf {p:Prop} (h:p:=by repeat(first|exact(Kd.aJ TU.out).2.2|(with_reducible refine Kd.oh ?_ _)|(with_reducible refine Kd.om ?_ _)|(with_reducible refine Kd.qX ?_))):p:=h
theorem aAg {p:Prop} (h:p:=by repeat(first|exact(Kd.aJ TV.out).2.2|(with_reducible refine Kd.oh ?_ _)|(with_reducible refine Kd.om ?_ _)|(with_reducible refine Kd.qX ?_))):p:=h
theorem auF {p:Prop} (h:p:=by repeat(first|exact(Kd.ng GL.out HB.out)|(with_reducible refine Kd.oh ?_ _)|(with_reducible refine Kd.om ?_ _)|(with_reducible refine Kd.qX ?_))):p:=h
theorem agl {p:Prop} (h:p:=by repeat(first|exact(Kd.aJ sH.out).2.2|(with_reducible refine Kd.oh ?_ _)|(with_reducible refine Kd.om ?_ _)|(with_reducible refine Kd.qX ?_))):p:=h
theorem auG {p:Prop} (h:p:=by refine(Kd.aJ (e:=9) (base:=w.heap.size) (ok:=fun k_=>True) (n:=mI.length) (c:=IA) ?_).2.2;exact asf):p:=h
theorem agm {p:Prop} (h:p:=by refine(Kd.aJ (e:=9) (base:=w.heap.size) (ok:=fun k_=>True) (n:=mI.length) (c:=IA) ?_).2.2;exact YF):p:=h
theorem WU {β:Type} {o:Option Bool} {a b:Bool->Option β} {r:β} (h:(o.bind fun t=>if t=true then a t else b t)=some r):(ae (o=some true)/\a true=some r)∨(ae (o=some false)/\b false=some r):=by
  obtain⟨x,h1,h2⟩:=gD h
  cases x
  · exact .inr ⟨h1,h2⟩
  · exact .inl ⟨h1,h2⟩
section
variable {p:Prop} [Decidable p] {α β:Type} {x:Bool}
theorem xE {o:Option α} {f:α->Option β} {r:β} (h:ae (o.bind f=some r)):∃ x,ae (o=some x)/\ae (f x=some r):=by
  obtain⟨x,h1,h2⟩:=gD h.out
  exact⟨x,h1,⟨h2⟩⟩
theorem GM {a b r:α} (h:ae ((if p then a else b)=r)):(p/\decide p=true/\p=True/\ae (a=r))∨(¬p/\decide p=false/\p=False/\ae (b=r)):=by
  rcases gI h.out with⟨h1,h2,h3,h4⟩|⟨h1,h2,h3,h4⟩
  · exact .inl ⟨h1,h2,h3,⟨h4⟩⟩
  · exact .inr ⟨h1,h2,h3,⟨h4⟩⟩
theorem Ci {a:Option α} {r:α} (h:ae ((if p then a else none)=some r)):p/\decide p=true/\p=True/\ae (a=some r):=by
  obtain⟨h1,h2,h3,h4⟩:=gN h.out
  exact⟨h1,h2,h3,⟨h4⟩⟩
theorem D6 {o:Option Bool} {a b:Bool->Option β} {r:β} (h:ae ((o.bind fun t=>if t=true then a t else b t)=some r)):(ae (o=some true)/\ae (a true=some r))∨(ae (o=some false)/\ae (b false=some r)):=by
  rcases WU h.out with⟨h1,h2⟩|⟨h1,h2⟩
  · exact .inl ⟨h1,⟨h2⟩⟩
  · exact .inr ⟨h1,⟨h2⟩⟩
end
end Go.Proofs.YtfhllanhldbkkaaGreatDoorW.fO
