import Derived.Test.YtfhllanhldbkkaaGreatDoorWMore
import Derived.Lib.Bytealg
namespace Go.Proofs.YtfhllanhldbkkaaGreatDoor.Own
open Go Go.RowKit Go.Proofs.YtfhllanhldbkkaaGreatDoorW.aW Go.Proofs.YtfhllanhldbkkaaGreatDoorW.eQ Go.Proofs.YtfhllanhldbkkaaGreatDoorW.fO
variable {P:Program} {ops:Array Oper} {Q:Exit->Act->World->Prop}
theorem agP {rest:List Oper} {o:Oper} {a:Act} {W:World} {t:Tmp} {as:Array Operand} {ts:Array TypeId} (_ho:o.op = .call { callee:=.value (.tmp t),args:=as,argTypes:=ts }) (h:wpList P ops Q (o::rest) a W):wpList P ops Q (o::rest) a W:=h
theorem az0 {rest : List Oper} {oi : Oper} {a : Act} {w : World} {fv : Value} (N : Option Tmp) (hd : oi.dst = N) (hg : oi.guard = none) {f : FuncId} {fn : Func} {t : Tmp} {as : Array Operand} {ts : Array TypeId} (hf : P.funcs[f]? = some fn) (hname : (fn.name == "runtime.NumGoroutine") = false) (hb : fn.body.isSome = true) (args : Array Value)
    (hop:(oi.op,a.eval (.tmp t),fv)=(.call { callee:=.value (.tmp t),args:=as,argTypes:=ts },.func (.func f) #[] #[],.func (.func f) #[] #[])) (hargs:as.map a.eval=args)
    (h:Calls P f args w fun e w'=>∃ v,e = .returned v/\wpList P ops Q rest (a.put N v) w'):wpList P ops Q (oi::rest) a w:=by
  refine wpList_plain hg fun K hK=>?_
  have he:=S9 hf hname hb args w
  have h1:oi.op = .call { callee:=.value (.tmp t),args:=as,argTypes:=ts }:=(Prod.mk.inj hop).1
  have h2:a.eval (.tmp t) = .func (.func f) #[] #[]:=(Prod.mk.inj (Prod.mk.inj hop).2).1
  have hrun:(execOp a.eval oi).run P w = .ok (.enter f args) w:=by
    unfold execOp
    simp[h1,h2,resolve,Deferred.ofValue,invoke,hargs,he]
  unfold Oper.wp
  rw[hrun,Oper.upon_enter]
  refine h.mono fun e w'' hh=>?_
  obtain⟨v,rfl,hk⟩:=hh
  subst hd
  exact hK _ _ hk
end Go.Proofs.YtfhllanhldbkkaaGreatDoor.Own
namespace Go.Proofs.YtfhllanhldbkkaaGreatDoor.P
open Go Go.RowKit Go.Proofs.YtfhllanhldbkkaaGreatDoorW.aW Go.Proofs.YtfhllanhldbkkaaGreatDoorW.eQ Go.Proofs.YtfhllanhldbkkaaGreatDoorW.fO
set_option linter.unusedVariables false
set_option linter.unusedSimpArgs false
def DY (w:World) (g:Nat) (e:TypeId) (xs:List Int):Prop:=
  ∃(cs:Array Value) (m:Nat),w.heap[g]? = some (.cells cs e (m,m+1))/\xs.length<=m/\xs.length<=cs.size/\∀ j,j<xs.length->cs[j]? = some (.int .u8 (xs.getD j 0))
theorem DY.cell {w:World} {g:Nat} {e:TypeId} {xs:List Int} (h:DY w g e xs) (j:Nat) (hj:j<xs.length):w.cell? ⟨g,j,none⟩=some (.int .u8 (xs.getD j 0)):=by
  obtain⟨cs,m,hh,_,_,hc⟩:=h
  rw[cell_of_row w g j cs e _ hh]
  exact hc j hj
theorem DY.free {w:World} {g:Nat} {e:TypeId} {xs:List Int} (h:DY w g e xs) (j:Nat) (hj:j<xs.length):w.frozen? ⟨g,j,none⟩=false:=by
  obtain⟨cs,m,hh,hm,_,_⟩:=h
  simp only[World.frozen?,hh]
  rw[show decide (m<=j)=false from decide_eq_false (by omega),Bool.false_and]
theorem DY.set {w:World} {g:Nat} {e:TypeId} {xs:List Int} (h:DY w g e xs) (j:Nat) (hj:j<xs.length) (v:Int):DY (w.setCell ⟨g,j,none⟩ (.int .u8 v)) g e (xs.set j v):=by
  obtain⟨cs,m,hh,hm,hs,hc⟩:=h
  have hlt:g<w.heap.size:=(Array.getElem?_eq_some_iff.1 hh).1
  refine⟨cs.setIfInBounds j (.int .u8 v),m,?_,by rw[List.length_set];exact hm,by rw[List.length_set,Array.size_setIfInBounds];exact hs,fun i hi=>?_⟩
  · simp[World.setCell,Array.getElem?_modify,hh]
  · rw[List.length_set] at hi
    by_cases e2:j=i
    · subst e2
      rw[Array.getElem?_setIfInBounds,if_pos rfl,if_pos (by omega)]
      simp[List.getD_eq_getElem?_getD,hj]
    · rw[Array.getElem?_setIfInBounds,if_neg e2,hc i hi]
      simp[List.getD_eq_getElem?_getD,e2]
theorem DY.below {w w':World} {g:Nat} {e:TypeId} {xs:List Int} (h:DY w g e xs) (hb:Below w.heap.size w w'):DY w' g e xs:=by
  obtain⟨cs,m,hh,r⟩:=h
  exact⟨cs,m,pU hh hb,r⟩
theorem DY.drewN {w:World} {g:Nat} {e:TypeId} {xs:List Int} (h:DY w g e xs) (n:Nat):DY (w.drewN n) g e xs:=by
  obtain⟨cs,m,hh,r⟩:=h
  exact⟨cs,m,jV hh n,r⟩
theorem DY.new (w:World) (e:TypeId) (s:ByteArray):DY (Lib.bytesWorld w e s) w.heap.size e (bytesOf s):=by
  refine⟨_,_,Lib.bytesWorld_at_new w e s,?_,?_,fun j hj=>?_⟩
  · rw[bytesOf_length];simp[Lib.bytesCells]
  · rw[bytesOf_length];simp[Lib.bytesCells]
  · rw[bytesOf_length] at hj
    have h1:=Lib.bytesWorld_cell w e s j hj
    rw[cell_of_row _ _ _ _ _ _ (Lib.bytesWorld_at_new w e s)] at h1
    rw[h1]
    have h':j<s.data.toList.length:=by rw[fP];exact hj
    simp[bytesOf,List.getD_eq_getElem?_getD,List.getElem?_eq_getElem h']
theorem DY.str {P:Program} {w:World} {g src dst e:Nat} {xs:List Int} (h:DY w g e xs) (hs:P.underlying src=some (.slice e)) (he:P.underlying e=some (.int .u8)) (hd:P.underlying dst=some .string) (n c:Nat) (hn:xs.length=n) :
    (convert src dst (.slice (some ⟨g,0,none⟩) n c)).run P w = .ok (.string (strOfNums xs)) w:=
  run_convert_bytes_arg w src e hs he g 0 n c xs hn (fun i hi=>by rw[Nat.zero_add];exact h.cell i (by omega)) dst hd
theorem EB {B:Nat} {w w':World} (h:Below B w w') (n:Nat):Below B w (w'.drewN n):=⟨h.os,h.tape,h.output,h.size,h.block⟩
def low (c:Int):Int:=if 65<=c/\c<=90 then c+32 else c
def ig (s:ByteArray):ByteArray:=strOfNums ((bytesOf s).map low)
def Cg (s:ByteArray) (k:Nat):List Int:=((bytesOf s).take k).map low++(bytesOf s).drop k
theorem rC (s:ByteArray) (k:Nat):(Cg s k).length=s.size:=by
  unfold Cg
  rw[List.length_append,List.length_map,List.length_take,List.length_drop,bytesOf_length]
  omega
theorem Tz (s:ByteArray):Cg s 0=bytesOf s:=by simp[Cg]
theorem Xb (s:ByteArray):Cg s s.size=(bytesOf s).map low:=by
  unfold Cg
  rw[List.take_of_length_le (by rw[bytesOf_length];omega),List.drop_eq_nil_of_le (by rw[bytesOf_length];omega),List.append_nil]
theorem TA (s:ByteArray) (k:Nat) (hk:k<s.size):(Cg s k).getD k 0=bt s k:=by
  rw[<- TB]
  unfold Cg rd
  rw[Int.toNat_natCast,List.getD_eq_getElem?_getD,List.getElem?_append_right (by rw[List.length_map,List.length_take];omega),List.length_map,List.length_take,bytesOf_length,List.getElem?_drop,List.getD_eq_getElem?_getD]
  congr 2
  omega
theorem NG (s:ByteArray) (k:Nat) (hk:k<s.size):(Cg s k).set k (low (bt s k))=Cg s (k+1):=by
  have hb:(bytesOf s).length=s.size:=bytesOf_length s
  have hbt:bt s k=(bytesOf s)[k]'(by omega):=by
    rw[<- TB];unfold rd
    rw[Int.toNat_natCast,List.getD_eq_getElem?_getD,List.getElem?_eq_getElem (by omega)];rfl
  apply List.ext_getElem?
  intro i
  rw[hbt]
  unfold Cg
  rw[List.getElem?_set]
  by_cases h1:k=i
  · subst h1
    rw[if_pos rfl,if_pos (by simp;omega),List.getElem?_append_left (by simp;omega),List.getElem?_map,List.getElem?_take_of_lt (by omega),List.getElem?_eq_getElem (by omega)]
    rfl
  · rw[if_neg h1]
    by_cases h2:i<k
    · rw[List.getElem?_append_left (by simp;omega),List.getElem?_append_left (by simp;omega),List.getElem?_map,List.getElem?_map,List.getElem?_take_of_lt h2,List.getElem?_take_of_lt (by omega)]
    · rw[List.getElem?_append_right (by simp;omega),List.getElem?_append_right (by simp;omega),List.getElem?_drop,List.getElem?_drop]
      congr 1
      simp
      omega
theorem acN (s:ByteArray) (k:Nat) (hk:k<s.size) (h:low (bt s k)=bt s k):Cg s k=Cg s (k+1):=by
  rw[<- NG s k hk,h,<- TA s k hk]
  apply List.ext_getElem?
  intro i
  rw[List.getElem?_set]
  by_cases h1:k=i
  · subst h1
    have:k<(Cg s k).length:=by rw[rC];exact hk
    rw[if_pos rfl,if_pos this,List.getD_eq_getElem?_getD,List.getElem?_eq_getElem this]
    rfl
  · rw[if_neg h1]

theorem SB {w:World} {B:Nat} {v u:Value} {t:TypeId} (h:w.heap[B]? = some (.cells #[v] t (0,0))):(w.setCell ⟨B,0,none⟩ u).heap[B]? = some (.cells #[u] t (0,0)):=by
  have:=Ta h 0 u
  simpa using this
def zD (xs:List ByteArray) (t:ByteArray):List ByteArray:=if t.toList=([]:List UInt8) then xs else xs ++ [t]
theorem dE {α:Type} {d:Kd α} {e base:Nat} {w:World} {ok:Nat->Prop} {v:Value} {xs:List α} (h:d.R e w base ok v xs):∃ A c,v = .slice A xs.length c:=by
  obtain⟨_,inner,ho,_⟩:=h
  exact Xc ho
theorem af4 {w w1:World} {B:Nat} {v v1:Value} {e:TypeId} {base base':Nat} {xs ys:List ByteArray} (hbox:w.heap[B]? = some (.cells #[v] e (0,0))) (hR:Kd.R Kd.string 9 w base (fun k_=>k_≠B) v xs) (nd:Nat)
    (hg:(w.drewN nd).grownBy w1 v.ownBlock) (ho:Kd.R Kd.string 9 w1 base' (fun k_=>k_≠B) v1 ys) :
    (∃ A c,v1 = .slice A ys.length c)/\w1.heap[B]? = some (.cells #[v] e (0,0))/\w1.cell? ⟨B,0,none⟩=some v/\w1.frozen? ⟨B,0,none⟩=false:=by
  have hb1:w1.heap[B]? = some (.cells #[v] e (0,0)):=Xd (jV hbox nd) hg (fun e_=>hR.1 B e_.symm rfl)
  exact⟨dE ho,hb1,by rw[cell_of_row w1 B 0 _ _ _ hb1];rfl,ah hb1 0⟩
end Go.Proofs.YtfhllanhldbkkaaGreatDoor.P
