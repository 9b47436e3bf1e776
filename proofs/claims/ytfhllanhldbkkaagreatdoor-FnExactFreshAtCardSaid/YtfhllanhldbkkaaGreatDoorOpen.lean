import Derived.Test.YtfhllanhldbkkaaGreatDoorOwn
import Derived.SizedLaws
import Derived.ChangeSlices
import Derived.ChangeSame
import Derived.Deep.Slices
import Derived.ProofKit
import Derived.OpenShut
import Derived.ShutString
import Derived.ChangeOld
namespace Go.Proofs.YtfhllanhldbkkaaGreatDoor.P
open Go Go.RowKit Go.ChangeShapes Go.WideShapes Go.Deep Go.Proofs.YtfhllanhldbkkaaGreatDoorW.aW
set_option linter.unusedVariables false
set_option linter.unusedSimpArgs false
theorem Z6 {α:Type} {Q:Nat->α->Prop}:∀(n:Nat),(∀ i,i<n->∃ v,Q i v)->∃ l:List α,l.length=n/\∀ i v,l[i]? = some v->Q i v:=by
  intro n
  induction n with
  |zero=>intro _;exact⟨[],rfl,fun i v h=>by simp at h⟩
  |succ n ih=>
    intro h
    obtain⟨l,hl,hq⟩:=ih (fun i hi=>h i (by omega))
    obtain⟨v,hv⟩:=h n (by omega)
    refine⟨l ++ [v],by simp[hl],fun i u hu=>?_⟩
    by_cases hi:i<l.length
    · rw[List.getElem?_append_left hi] at hu
      exact hq i u hu
    · have hin:i<(l ++ [v]).length:=(List.getElem?_eq_some_iff.1 hu).1
      have:i=l.length:=by simp at hin;omega
      subst this
      rw[List.getElem?_append_right (by omega)] at hu
      simp at hu
      subst hu
      rw[hl];exact hv
theorem SA {H:Type} {P:Program} {e:TypeId} {ds:List (DataW H)} {d:DataW H} (h:d∈ds):∀ n,n∈d.weights P e->n∈DataW.weightsAll P e ds:=by
  intro n hn
  induction ds with
  |nil=>cases h
  |cons x r ih=>
    simp only[DataW.weightsAll,List.mem_append]
    rcases List.mem_cons.1 h with rfl|h
    · exact .inl hn
    · exact .inr (ih h)
theorem Xa {H:Type} {P:Program} {ts:List TypeId} {ds:List (DataW H)} (h:(DataW.weightsEach P ts ds).all (·<=reachBytes)=true) {j:Nat} {t:TypeId} {d:DataW H} (ht:ts[j]? = some t) (hd:ds[j]? = some d) :
    ∀ n,n∈d.weights P t->n<=140737488351232:=fun n hn=>by
  have:=List.all_eq_true.1 h _ (DataW.weights_mem_each ht hd n hn)
  exact of_decide_eq_true this
theorem af3 {α H:Type} {enc:TypeId×Value->H} {P:Program} {w:World} {spare:Nat->Bool} {held:Bool} {t e:TypeId} {A:Option Addr} {len cap:Nat} {d:DataW H} {ps:List MemPlace}
    (K:Kd α) (G:α->Prop) (S:α->Prop) (ht:P.underlying t=some (.slice e)) (hsz:P.cellsOf e=K.sz) (hb:0<P.bytesOf e)
    (op:∀(n:Nat) (cs:List Value) (x:DataW H×List MemPlace),DataW.trod enc P w 0 spare held n e cs=some x->∃ v:α,K.K w v cs/\G v/\((∀ m,m∈x.1.weights P e->m<=140737488351232)->S v))
    (hw:∀ m,m∈d.weights P t->m<=140737488351232) (h:DataW.Trod enc P w 0 spare held t (.slice A len cap) d ps) :
    ∃ l:List α,l.length=len/\K.C w A len l/\len<=cap/\len*P.bytesOf e<=140737488351232/\∀ x∈l,G x/\S x:=by
  obtain⟨fuel,hf⟩:=h
  rcases open_slice ht hf with⟨hcs,hx⟩|⟨a,len',cap',m,n,D,Pl,hcs,_,hl,hm,hmm,hx,hi⟩
  · simp[Value.cells] at hcs
    obtain⟨rfl,rfl,rfl⟩:=hcs
    refine⟨[],rfl,⟨rfl,by omega,fun h=>absurd h (by omega)⟩,Nat.le_refl _,by omega,fun x hx=>by cases hx⟩
  · simp[Value.cells] at hcs
    obtain⟨rfl,rfl,rfl⟩:=hcs
    obtain⟨hxd,_⟩:=Prod.mk.inj hx
    subst hxd
    have hlm:len<=m:=by rw[hmm];split <;> omega
    have hwt:len*P.bytesOf e<=140737488351232:=by
      have h1:=hw ((((List.range len).map D).length+((List.range (m-len)).map fun j=>D (len+j)).length)*P.bytesOf e) (by simp[DataW.weights,ht])
      simp at h1
      exact Nat.le_trans (Nat.mul_le_mul_right _ (by omega)) h1
    obtain⟨l,hll,hq⟩:=Z6 (α:=α) (Q:=fun i v=>∃ cs,w.cells? 0 (a.add (i*P.cellsOf e)) (P.cellsOf e)=some cs/\K.K w v cs/\G v/\S v) len (fun i hil=>by
      obtain⟨cs',hc,htr⟩:=hi i (by omega)
      obtain⟨v,hk,hg,hs⟩:=op n cs' _ htr
      refine⟨v,cs',hc,hk,hg,hs (fun q hq=>?_)⟩
      refine hw q ?_
      simp only[DataW.weights,ht,List.mem_cons,List.mem_append]
      refine .inr (.inl (SA (d:=D i) ?_ q hq))
      exact List.mem_map.2 ⟨i,List.mem_range.2 hil,rfl⟩)
    have auo:len<=9223372036854775807:=by
      have:len*1<=len*P.bytesOf e:=Nat.mul_le_mul_left _ hb
      omega
    refine⟨l,hll,⟨hll,auo,fun _=>⟨a,rfl,fun j p hj=>?_⟩⟩,hl,hwt,fun x hx=>?_⟩
    · obtain⟨cs,hc,hk,_,_⟩:=hq j p hj
      obtain⟨_,hcl,hat⟩:=World.cells?_some hc
      refine⟨cs,by rw[hcl,hsz],hk,fun i u hu=>?_⟩
      have hil:i<cs.length:=(List.getElem?_eq_some_iff.1 hu).1
      have:=hat i (by omega)
      rw[hsz,Go.Deep.add_add] at this
      rw[this,hu]
    · obtain⟨i,hil,he⟩:=List.mem_iff_getElem.1 hx
      obtain⟨cs,_,_,hg,hs⟩:=hq i x (by rw[List.getElem?_eq_getElem hil,he])
      exact⟨hg,hs⟩
theorem NF {H:Type} {enc:TypeId×Value->H} {P:Program} {w:World} {spare:Nat->Bool} {held:Bool} {t:TypeId} {fs:Array Field} {v:Value} {d:DataW H} {ps:List MemPlace} {r:Reach} {b0:Nat}
    (ht:P.underlying t=some (.struct fs)) (hv:Value.okWide P w r b0 t v) (h:DataW.Trod enc P w 0 spare held t v d ps):∃(cs:List Value) (n:Nat),v = .agg cs.toArray/\DataW.trod enc P w 0 spare held n t cs=some (d,ps):=by
  obtain⟨cs,rfl,_⟩:=okWide_struct ht hv
  obtain⟨fuel,hf⟩:=h
  exact⟨cs.toList,fuel,by simp,by simpa [Value.cells] using hf⟩
end Go.Proofs.YtfhllanhldbkkaaGreatDoor.P
