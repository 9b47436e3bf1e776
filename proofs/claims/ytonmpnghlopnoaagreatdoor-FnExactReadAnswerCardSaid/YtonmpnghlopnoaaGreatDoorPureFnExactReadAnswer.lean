import Derived.Test.YtonmpnghlopnoaaGreatDoorPxlawFnExactReadAnswer
import Derived.Test.YtonmpnghlopnoaaGreatDoorOwn
import Derived.Test.YtonmpnghlopnoaaGreatDoorPxauxa
import Derived.Test.YtonmpnghlopnoaaGreatDoorPx0
import Derived.Test.YtonmpnghlopnoaaGreatDoorPximpl01a
import Derived.Test.YtonmpnghlopnoaaGreatDoorPxspec01a
import Derived.Test.YtonmpnghlopnoaaGreatDoorPxspec01j
import Derived.Test.YtonmpnghlopnoaaGreatDoorPxliba
import Derived.Test.YtonmpnghlopnoaaGreatDoorPximpl01g
import Derived.Test.YtonmpnghlopnoaaGreatDoorPxspec05c
import Derived.Test.YtonmpnghlopnoaaGreatDoorPximpl06f
import Derived.Test.YtonmpnghlopnoaaGreatDoorPxspec06g
import Derived.Test.YtonmpnghlopnoaaGreatDoorPximpl06a
import Derived.Test.YtonmpnghlopnoaaGreatDoorPxspec06a
import Derived.Test.YtonmpnghlopnoaaGreatDoorPximpl06c
import Derived.Test.YtonmpnghlopnoaaGreatDoorPxspec06d
import Derived.Test.YtonmpnghlopnoaaGreatDoorPximpl06i
import Derived.Test.YtonmpnghlopnoaaGreatDoorPxspec06k
import Derived.Test.YtonmpnghlopnoaaGreatDoorPxspec06c
import Derived.Test.YtonmpnghlopnoaaGreatDoorPximpl06k
section
/- Plain laws of our own (Kit): about numbers and lists alone; no condition beyond those written. -/
namespace Go.Proofs.YtonmpnghlopnoaaGreatDoor.P
open Go.RowKit Go.Proofs.YtonmpnghlopnoaaGreatDoorW.PrintWords Go.Proofs.YtonmpnghlopnoaaGreatDoorW.PrintLast Go.Proofs.YtonmpnghlopnoaaGreatDoorW.PrintMore
set_option linter.unusedVariables false
set_option linter.unusedSimpArgs false
set_option maxHeartbeats 2000000
theorem wrap_id {x:Int} (h:-9223372036854775808≤x) (h':x≤9223372036854775807):wrap64 x=x:=by unfold wrap64;omega
theorem size_extract (s:ByteArray) (a b:Nat):(s.extract a b).size=min b s.size-a:=ByteArray.size_extract
theorem bt_extract (s:ByteArray) (a b:Nat) (i:Int) (h0:0≤i) (h1:i<(b:Int)-a) (h2:b≤s.size):bt (s.extract a b) i=bt s (a+i):=by
  obtain⟨n,rfl⟩:=Int.eq_ofNat_of_zero_le h0
  unfold bt
  have e:((a:Int)+(n:Int)).toNat=a+n:=by omega
  rw[e]
  have h3:n<(s.extract a b).size:=by rw[ByteArray.size_extract];omega
  rw[dif_pos (show((n:Int)).toNat<(s.extract a b).size by simpa using h3),dif_pos (show a+n<s.size by omega)]
  simp only[Int.toNat_natCast]
  rw[ByteArray.getElem_extract]

end Go.Proofs.YtonmpnghlopnoaaGreatDoor.P
end

section
/- Plain laws of our own (MarkText): about numbers and lists alone; no condition beyond those written. -/
namespace Go.Proofs.YtonmpnghlopnoaaGreatDoor.P
open Go.RowKit Go.Proofs.YtonmpnghlopnoaaGreatDoorW.PrintWords Go.Proofs.YtonmpnghlopnoaaGreatDoorW.PrintLast Go.Proofs.YtonmpnghlopnoaaGreatDoorW.PrintMore
set_option linter.unusedVariables false
set_option linter.unusedSimpArgs false
set_option maxHeartbeats 2000000
theorem markText_l_total : ∀(n k:Nat) (x:Int) (acc:ByteArray),0≤x→x<(10:Int) ^ n→x≤9223372036854775807→acc.size+n≤1000→n<k→∃ t,laws_markText.l0 k x acc=some t:=by
  intro n
  induction n with
  |zero=>
    intro k x acc h0 h1 hx hs hk
    obtain⟨k,rfl⟩:∃ m,k=m+1:=⟨k-1,by omega⟩
    simp only[laws_markText.l0]
    have hx0:x=0:=by
      have h10:(10:Int) ^ 0=1:=by decide
      omega
    rw[if_neg (by omega),if_pos (by omega)]
    exact⟨_,rfl⟩
  |succ n ih=>
    intro k x acc h0 h1 hx hs hk
    obtain⟨k,rfl⟩:∃ m,k=m+1:=⟨k-1,by omega⟩
    simp only[laws_markText.l0]
    by_cases hp:x>0
    · rw[if_pos hp,Option.bind_some,if_pos (by rw[strOfNums_size];simp;omega)]
      have hd:Int.tdiv x 10=x / 10:=Int.tdiv_eq_ediv_of_nonneg h0
      rw[hd,wrap_id (x:=x / 10) (by omega) (by omega)]
      have hpow:(10:Int) ^ (n+1)=10 ^ n*10:=Int.pow_succ 10 n
      exact ih k (x / 10) _ (by omega) (by omega) (by omega) (by rw[ByteArray.size_append,strOfNums_size];simp;omega) (by omega)
    · rw[if_neg hp,if_pos (by omega)]
      exact⟨_,rfl⟩
theorem markText_total (x:Int) (hx:x≤9223372036854775807):∃ t,laws_markText.f 25 x=some t:=by
  unfold laws_markText.f
  by_cases h:x≤0
  · rw[if_pos h];exact⟨_,rfl⟩
  · rw[if_neg h]
    have h10:(10:Int) ^ 19=10000000000000000000:=by decide
    exact markText_l_total 19 25 x _ (by omega) (by omega) hx (by decide) (by decide)
def mt (x:Int):ByteArray:=(laws_markText.f 25 x).getD ⟨#[]⟩
theorem mt_eq (x:Int) (hx:x≤9223372036854775807) (k:Nat) (hk:25≤k):laws_markText.f k x=some (mt x):=by
  obtain⟨t,ht⟩:=markText_total x hx
  have:mt x=t:=by unfold mt;rw[ht];rfl
  rw[this]
  exact at_rounds (fun k=>laws_markText.mono x k) hk ht

end Go.Proofs.YtonmpnghlopnoaaGreatDoor.P
end

section
/- Plain laws of our own (FieldS): about numbers and lists alone; no condition beyond those written. -/
namespace Go.Proofs.YtonmpnghlopnoaaGreatDoor.P
open Go.RowKit Go.Proofs.YtonmpnghlopnoaaGreatDoorW.PrintWords Go.Proofs.YtonmpnghlopnoaaGreatDoorW.PrintLast Go.Proofs.YtonmpnghlopnoaaGreatDoorW.PrintMore
set_option linter.unusedVariables false
set_option linter.unusedSimpArgs false
set_option maxHeartbeats 2000000
theorem rd_set_FieldS (l:List S41) (n:Nat) (v:S41) (h:n<l.length):rd_T41 (l.set n v) (n:Int)=v:=by
  unfold rd_T41
  rw[Int.toNat_natCast,List.getD_eq_getElem?_getD]
  simp[h]
theorem mark_held_FieldS : ∀(d k:Nat) (l:List S41) (c i:Int),0≤i→(l.length:Int)-i=d→l.length≤281474976710656→0≤c→c+2*d≤1152921504606846976→d+30<k→
    ∃ l',laws_markFieldS.l0 k l c i=some (c+2*d,l')∧l'.length=l.length∧(∀ j:Nat,(j:Int)<i→l'[j]? = l[j]?)∧laws_heldFieldS.l0 k l' c i=some (c+2*d):=by
  intro d
  induction d with
  |zero=>
    intro k l c i h0 hd hl hc hcd hk
    obtain⟨k,rfl⟩:∃ m,k=m+1:=⟨k-1,by omega⟩
    refine⟨l,?_,rfl,fun _ _=>rfl,?_⟩
    · simp only[laws_markFieldS.l0]
      rw[if_neg (by omega)]
      simp
    · simp only[laws_heldFieldS.l0]
      rw[if_neg (by omega)]
      simp
  |succ d ih=>
    intro k l c i h0 hd hl hc hcd hk
    obtain⟨k,rfl⟩:∃ m,k=m+1:=⟨k-1,by omega⟩
    obtain⟨n,rfl⟩:=Int.eq_ofNat_of_zero_le h0
    have hn:n<l.length:=by omega
    have hw1:wrap64 (c+1)=c+1:=wrap_id (by omega) (by omega)
    have hw2:wrap64 (c+1+1)=c+1+1:=wrap_id (by omega) (by omega)
    have hm0:laws_markText.f k (c)=some (mt (c)):=mt_eq _ (by omega) k (by omega)
    have hm1:laws_markText.f k (c+1)=some (mt (c+1)):=mt_eq _ (by omega) k (by omega)
    have hwi:wrap64 ((n:Int)+1)=((n+1:Nat):Int):=by rw[wrap_id (by omega) (by omega)];omega
    have hlt:((n:Int)<(l.length:Int))=True:=eq_true (by omega)
    have hge:(0≤(n:Int))=True:=eq_true h0
    obtain⟨l',e1,e2,e3,e4⟩:=ih k (l.set n (⟨mt (c),mt (c+1)⟩)) (c+1+1) ((n+1:Nat):Int) (by omega) (by rw[List.length_set];omega) (by rw[List.length_set];omega) (by omega) (by omega) (by omega)
    have hcc:c+1+1+2*(d:Int)=c+2*((d+1:Nat):Int):=by omega
    rw[hcc] at e1 e4
    rw[List.length_set] at e2
    have hat:l'[n]? = some (⟨mt (c),mt (c+1)⟩):=by rw[e3 n (by omega)];simp[hn]
    have hrd:rd_T41 l' (n:Int)=⟨mt (c),mt (c+1)⟩:=by
      unfold rd_T41
      rw[Int.toNat_natCast,List.getD_eq_getElem?_getD,hat]
      rfl
    have hlt':((n:Int)<(l'.length:Int))=True:=eq_true (by omega)
    refine⟨l',?_,e2,fun j hj=>?_,?_⟩
    · simp only[laws_markFieldS.l0,hlt,hge,if_true,Option.bind_some,hw1,hw2,hm0,hm1,hwi,Int.toNat_natCast,List.set_set,List.length_set,hn,rd_set_FieldS]
      exact e1
    · rw[e3 j (by omega),List.getElem?_set_ne (by omega)]
    · simp only[laws_heldFieldS.l0,hlt',hge,if_true,Option.bind_some,hw1,hw2,hm0,hm1,hrd,hwi,bne_self_eq_false,Bool.false_eq_true,if_false]
      exact e4
theorem mark_then_FieldS (l:List S41) (c:Int) (hl:l.length≤281474976710656) (hc:0≤c) (hcd:c+2*l.length≤1152921504606846976) :
    ∃ l',∀ k,l.length+31≤k→laws_markFieldS.f k l c=some (c+2*l.length,l')∧laws_heldFieldS.f k l' c=some (c+2*l.length):=by
  obtain⟨l',e1,_,_,e4⟩:=mark_held_FieldS l.length (l.length+31) l c 0 (by omega) (by omega) hl hc hcd (by omega)
  exact⟨l',fun k hk=>⟨at_rounds (g:=fun k=>laws_markFieldS.f k l c) (fun k=>laws_markFieldS.mono l c k) hk e1,at_rounds (g:=fun k=>laws_heldFieldS.f k l' c) (fun k=>laws_heldFieldS.mono l' c k) hk e4⟩⟩

end Go.Proofs.YtonmpnghlopnoaaGreatDoor.P
end

section
/- Plain laws of our own (FieldEq): about numbers and lists alone; no condition beyond those written. -/
namespace Go.Proofs.YtonmpnghlopnoaaGreatDoor.P
open Go.RowKit Go.Proofs.YtonmpnghlopnoaaGreatDoorW.PrintWords Go.Proofs.YtonmpnghlopnoaaGreatDoorW.PrintLast Go.Proofs.YtonmpnghlopnoaaGreatDoorW.PrintMore
set_option linter.unusedVariables false
set_option linter.unusedSimpArgs false
set_option maxHeartbeats 2000000
theorem eq_refl_FieldS : ∀(d k:Nat) (l:List S41) (i:Int),0≤i→(l.length:Int)-i=d→l.length≤281474976710656→d<k→laws_eqFieldS.l0 k l l i=some true:=by
  intro d
  induction d with
  |zero=>
    intro k l i h0 hd hl hk
    obtain⟨k,rfl⟩:∃ m,k=m+1:=⟨k-1,by omega⟩
    simp only[laws_eqFieldS.l0]
    rw[if_neg (by omega)]
  |succ d ih=>
    intro k l i h0 hd hl hk
    obtain⟨k,rfl⟩:∃ m,k=m+1:=⟨k-1,by omega⟩
    simp only[laws_eqFieldS.l0]
    rw[if_pos (by omega),if_pos h0,if_pos (by omega),show laws_eqField.f (rd_T41 l i).f0 (rd_T41 l i).f1 (rd_T41 l i).f0 (rd_T41 l i).f1=some true by unfold laws_eqField.f;simp,Option.bind_some,if_pos rfl,wrap_id (by omega) (by omega)]
    exact ih k l (i+1) (by omega) (by omega) hl (by omega)
theorem eq_self_FieldS (k:Nat) (l:List S41) (hl:l.length≤281474976710656) (hk:l.length<k):laws_eqFieldS.f k l l=some true:=by
  unfold laws_eqFieldS.f
  rw[if_pos rfl]
  exact eq_refl_FieldS l.length k l 0 (by omega) (by omega) hl hk

end Go.Proofs.YtonmpnghlopnoaaGreatDoor.P
end

section
/- Plain laws of our own (MsgEq): about numbers and lists alone; no condition beyond those written. -/
namespace Go.Proofs.YtonmpnghlopnoaaGreatDoor.P
open Go.RowKit Go.Proofs.YtonmpnghlopnoaaGreatDoorW.PrintWords Go.Proofs.YtonmpnghlopnoaaGreatDoorW.PrintLast Go.Proofs.YtonmpnghlopnoaaGreatDoorW.PrintMore
set_option linter.unusedVariables false
set_option linter.unusedSimpArgs false
set_option maxHeartbeats 2000000
theorem eqMsg_self (m0 m1 m3 m6:ByteArray) (m2:Int) (m4:Bool) (l:List S41) (hl:l.length≤20) (k:Nat) (hk:20<k):laws_eqMsg.f k m0 m1 m2 m3 m4 l m6 m0 m1 m2 m3 m4 l m6=some true:=by
  unfold laws_eqMsg.f
  rw[if_pos rfl,if_pos rfl,if_pos rfl,if_pos rfl,if_neg (by simp),eq_self_FieldS k l (by omega) (by omega),Option.bind_some,if_pos rfl,if_pos rfl]

end Go.Proofs.YtonmpnghlopnoaaGreatDoor.P
end

section
/- Plain laws of our own (Trim): about numbers and lists alone; no condition beyond those written. -/
namespace Go.Proofs.YtonmpnghlopnoaaGreatDoor.P
open Go.RowKit Go.Proofs.YtonmpnghlopnoaaGreatDoorW.PrintWords Go.Proofs.YtonmpnghlopnoaaGreatDoorW.PrintLast Go.Proofs.YtonmpnghlopnoaaGreatDoorW.PrintMore
set_option linter.unusedVariables false
set_option linter.unusedSimpArgs false
set_option maxHeartbeats 2000000
theorem toList_nil (s:ByteArray):s.toList=([]:List UInt8)↔s.size=0:=by
  rw[ByteArray.toList_eq]
  constructor
  · intro h
    have:=congrArg List.length h
    rw[data_length] at this
    simpa using this
  · intro h
    apply List.eq_nil_of_length_eq_zero
    rw[data_length];exact h
def ws (c:Int):Bool:=decide (c=32)||decide (c=9)
theorem isSpace_eq (c:Int):impl_isSpace.f c=some (ws c):=by
  unfold impl_isSpace.f ws
  by_cases h:c=32
  · rw[if_pos h];simp[h]
  · rw[if_neg h]
    by_cases h2:c=9 <;> simp[h,h2]
theorem white_eq (c:Int):spec_l1white.f c=some (ws c):=isSpace_eq c
def lead (s:ByteArray):Nat→Nat→Nat
  |0,i=>i
  |d+1,i=>if ws (bt s (i:Int))=true then lead s d (i+1) else i
def back (s:ByteArray):Nat→Nat→Nat
  |0,j=>j
  |d+1,j=>if ws (bt s ((j-1:Nat):Int))=true then back s d (j-1) else j
def trimS (s:ByteArray):ByteArray:=s.extract (lead s s.size 0) (back s (s.size-lead s s.size 0) s.size)
theorem trimS_size (s:ByteArray):(trimS s).size≤s.size:=by
  unfold trimS
  rw[size_extract]
  omega
theorem spec_trim_l1 (s:ByteArray) (hs:s.size≤140737488351232):∀(d k a j:Nat),a≤j→j≤s.size→j-a=d→d<k→spec_Trim.l1 k s (a:Int) (j:Int)=some (s.extract a (back s d j)):=by
  intro d
  induction d with
  |zero=>
    intro k a j h1 h2 hd hk
    obtain⟨k,rfl⟩:∃ m,k=m+1:=⟨k-1,by omega⟩
    simp only[spec_Trim.l1]
    rw[if_neg (by omega),if_pos (by omega),if_pos (by omega),if_pos (by omega)]
    rfl
  |succ d ih=>
    intro k a j h1 h2 hd hk
    obtain⟨k,rfl⟩:∃ m,k=m+1:=⟨k-1,by omega⟩
    simp only[spec_Trim.l1]
    have hw:wrap64 ((j:Int)-1)=((j-1:Nat):Int):=by rw[wrap_id (by omega) (by omega)];omega
    rw[if_pos (by omega),hw,if_pos (by omega),if_pos (by omega),white_eq,Option.bind_some]
    simp only[back]
    by_cases hb:ws (bt s ((j-1:Nat):Int))=true
    · rw[if_pos hb,if_pos hb]
      exact ih k a (j-1) (by omega) (by omega) (by omega) (by omega)
    · rw[if_neg hb,if_neg hb,if_pos (by omega),if_pos (by omega),if_pos (by omega)]
      rfl
theorem spec_trim_l0 (s:ByteArray) (hs:s.size≤140737488351232):∀(d k i:Nat),i≤s.size→s.size-i=d→d+s.size+3<k→spec_Trim.l0 k s (i:Int)=some (s.extract (lead s d i) (back s (s.size-lead s d i) s.size)):=by
  intro d
  induction d with
  |zero=>
    intro k i h1 hd hk
    obtain⟨k,rfl⟩:∃ m,k=m+2:=⟨k-2,by omega⟩
    simp only[spec_Trim.l0]
    rw[if_neg (by omega)]
    simp only[spec_Trim.j1,lead]
    exact spec_trim_l1 s hs _ k i s.size h1 (Nat.le_refl _) rfl (by omega)
  |succ d ih=>
    intro k i h1 hd hk
    obtain⟨k,rfl⟩:∃ m,k=m+2:=⟨k-2,by omega⟩
    rw[spec_Trim.l0.eq_def]
    have hw:wrap64 ((i:Int)+1)=((i+1:Nat):Int):=by rw[wrap_id (by omega) (by omega)];omega
    dsimp only
    rw[if_pos (by omega),if_pos (by omega),white_eq,Option.bind_some]
    simp only[lead]
    by_cases hb:ws (bt s (i:Int))=true
    · rw[if_pos hb,if_pos hb,hw]
      exact ih (k+1) (i+1) (by omega) (by omega) (by omega)
    · rw[if_neg hb,if_neg hb]
      simp only[spec_Trim.j1]
      exact spec_trim_l1 s hs _ k i s.size h1 (Nat.le_refl _) rfl (by omega)
theorem impl_trim_l1 (s:ByteArray) (hs:s.size≤140737488351232):∀(d k a j:Nat),a≤j→j≤s.size→j-a=d→d<k→impl_Trim.l1 k (s.extract a j)=some (s.extract a (back s d j)):=by
  intro d
  induction d with
  |zero=>
    intro k a j h1 h2 hd hk
    obtain⟨k,rfl⟩:∃ m,k=m+1:=⟨k-1,by omega⟩
    simp only[impl_Trim.l1]
    rw[if_pos ((toList_nil _).2 (by rw[size_extract];omega))]
    rfl
  |succ d ih=>
    intro k a j h1 h2 hd hk
    obtain⟨k,rfl⟩:∃ m,k=m+1:=⟨k-1,by omega⟩
    have hz:(s.extract a j).size=d+1:=by rw[size_extract];omega
    simp only[impl_Trim.l1]
    have hw:wrap64 (((s.extract a j).size:Int)-1)=((d:Nat):Int):=by rw[hz,wrap_id (by omega) (by omega)];omega
    have hb0:bt (s.extract a j) ((d:Nat):Int)=bt s ((j-1:Nat):Int):=by
      rw[bt_extract s a j _ (by omega) (by omega) h2]
      congr 1;omega
    rw[if_neg (fun h=>by have:=(toList_nil _).1 h;omega),hw,if_pos (by omega),if_pos (by omega),isSpace_eq,Option.bind_some,Int.toNat_natCast,ByteArray.extract_extract,hb0]
    simp only[back]
    have he:s.extract (a+0) (min (a+d) j)=s.extract a (j-1):=by congr 1;omega
    by_cases hb:ws (bt s ((j-1:Nat):Int))=true
    · rw[if_pos hb,if_pos hb,if_pos (by omega),he]
      exact ih k a (j-1) (by omega) (by omega) (by omega) (by omega)
    · rw[if_neg hb,if_neg hb]
theorem impl_trim_l0 (s:ByteArray) (hs:s.size≤140737488351232):∀(d k i:Nat),i≤s.size→s.size-i=d→d+s.size+3<k→impl_Trim.l0 k (s.extract i s.size)=some (s.extract (lead s d i) (back s (s.size-lead s d i) s.size)):=by
  intro d
  induction d with
  |zero=>
    intro k i h1 hd hk
    obtain⟨k,rfl⟩:∃ m,k=m+2:=⟨k-2,by omega⟩
    rw[impl_Trim.l0.eq_def]
    dsimp only
    rw[if_pos ((toList_nil _).2 (by rw[size_extract];omega))]
    simp only[impl_Trim.j1,lead]
    exact impl_trim_l1 s hs _ k i s.size h1 (Nat.le_refl _) rfl (by omega)
  |succ d ih=>
    intro k i h1 hd hk
    obtain⟨k,rfl⟩:∃ m,k=m+2:=⟨k-2,by omega⟩
    have hz:(s.extract i s.size).size=d+1:=by rw[size_extract];omega
    rw[impl_Trim.l0.eq_def]
    dsimp only
    have hb0:bt (s.extract i s.size) 0=bt s (i:Int):=by
      rw[bt_extract s i s.size 0 (by omega) (by omega) (Nat.le_refl _)]
      congr 1
    have he:(s.extract i s.size).extract 1 (s.extract i s.size).size=s.extract (i+1) s.size:=by
      rw[ByteArray.extract_extract,hz];congr 1;omega
    rw[if_neg (fun h=>by have:=(toList_nil _).1 h;omega),if_pos (by omega),isSpace_eq,Option.bind_some,hb0,he]
    simp only[lead]
    by_cases hb:ws (bt s (i:Int))=true
    · rw[if_pos hb,if_pos hb,if_pos (by omega)]
      exact ih (k+1) (i+1) (by omega) (by omega) (by omega)
    · rw[if_neg hb,if_neg hb]
      simp only[impl_Trim.j1]
      exact impl_trim_l1 s hs _ k i s.size h1 (Nat.le_refl _) rfl (by omega)
theorem spec_Trim_eq (s:ByteArray) (hs:s.size≤140737488351232) (k:Nat) (hk:2*s.size+3<k):spec_Trim.f k s=some (trimS s):=by
  unfold spec_Trim.f trimS
  exact spec_trim_l0 s hs s.size k 0 (Nat.zero_le _) (by omega) (by omega)
theorem impl_Trim_eq (s:ByteArray) (hs:s.size≤140737488351232) (k:Nat) (hk:2*s.size+3<k):impl_Trim.f k s=some (trimS s):=by
  unfold impl_Trim.f trimS
  have h:=impl_trim_l0 s hs s.size k 0 (Nat.zero_le _) (by omega) (by omega)
  rw[ByteArray.extract_zero_size] at h
  exact h

end Go.Proofs.YtonmpnghlopnoaaGreatDoor.P
end

section
/- Plain laws of our own (Elements): about numbers and lists alone; no condition beyond those written. -/
namespace Go.Proofs.YtonmpnghlopnoaaGreatDoor.P
open Go.RowKit Go.Proofs.YtonmpnghlopnoaaGreatDoorW.PrintWords Go.Proofs.YtonmpnghlopnoaaGreatDoorW.PrintLast Go.Proofs.YtonmpnghlopnoaaGreatDoorW.PrintMore
set_option linter.unusedVariables false
set_option linter.unusedSimpArgs false
set_option maxHeartbeats 2000000
def fin (s:ByteArray) (out:List ByteArray) (a:Nat):List ByteArray:=addS out (trimS (s.extract a s.size))
def elS (s:ByteArray):Nat→List ByteArray→Nat→Bool→Nat→List ByteArray
  |0,out,a,_,_=>fin s out a
  |d+1,out,a,q,i=>
    if bt s (i:Int)=34 then elS s d out a (!q) (i+1)
    else if q=true∧bt s (i:Int)=92 then(match d with|0=>fin s out a|e+1=>elS s e out a q (i+2))
    else if q=false∧bt s (i:Int)=44 then elS s d (addS out (trimS (s.extract a i))) (i+1) q (i+1)
    else elS s d out a q (i+1)
theorem elS_succ (s:ByteArray) (d:Nat) (out:List ByteArray) (a:Nat) (q:Bool) (i:Nat):elS s (d+1) out a q i =
    if bt s (i:Int)=34 then elS s d out a (!q) (i+1)
    else if q=true∧bt s (i:Int)=92 then(match d with|0=>fin s out a|e+1=>elS s e out a q (i+2))
    else if q=false∧bt s (i:Int)=44 then elS s d (addS out (trimS (s.extract a i))) (i+1) q (i+1)
    else elS s d out a q (i+1):=by
  rw[elS.eq_def]
theorem addS_length (out:List ByteArray) (t:ByteArray):(addS out t).length≤out.length+1:=by
  unfold addS
  split
  · omega
  · simp
theorem impl_el_end (s:ByteArray) (hs:s.size≤4000) (k:Nat) (hk:2*s.size+3<k) (out:List ByteArray) (hl:out.length≤5000) (a:Nat) (ha:a≤s.size) (q:Bool) (i:Int) (hi:(s.size:Int)≤i) :
    impl_Elements.l0 (k+1) s out (a:Int) q i=some (fin s out a):=by
  have hz:(s.extract a s.size).size≤s.size:=by rw[size_extract];omega
  simp only[impl_Elements.l0]
  rw[if_neg (by omega),if_pos (by omega),if_pos (by omega),if_pos (by omega),Int.toNat_natCast,impl_Trim_eq _ (by omega) k (by omega)]
  rfl
theorem impl_el (s:ByteArray) (hs:s.size≤4000):∀(n d:Nat),d≤n→∀(k:Nat) (out:List ByteArray) (a:Nat) (q:Bool) (i:Nat),i≤s.size→s.size-i=d→a≤i→out.length≤i→d+2*s.size+5<k→
    impl_Elements.l0 k s out (a:Int) q (i:Int)=some (elS s d out a q i):=by
  intro n
  induction n with
  |zero=>
    intro d hdn k out a q i hi hd ha hl hk
    obtain rfl:d=0:=by omega
    obtain⟨k,rfl⟩:∃ m,k=m+1:=⟨k-1,by omega⟩
    exact impl_el_end s hs k (by omega) out (by omega) a (by omega) q i (by omega)
  |succ n ih=>
    intro d hdn k out a q i hi hd ha hl hk
    obtain⟨k,rfl⟩:∃ m,k=m+1:=⟨k-1,by omega⟩
    cases d with
    |zero=>exact impl_el_end s hs k (by omega) out (by omega) a (by omega) q i (by omega)
    |succ d=>
      have hw:wrap64 ((i:Int)+1)=((i+1:Nat):Int):=by rw[wrap_id (by omega) (by omega)];omega
      have hw2:wrap64 (((i+1:Nat):Int)+1)=((i+2:Nat):Int):=by rw[wrap_id (by omega) (by omega)];omega
      simp only[impl_Elements.l0]
      rw[elS_succ]
      rw[if_pos (by omega),if_pos (by omega),hw,hw2]
      by_cases c1:bt s (i:Int)=34
      · rw[if_pos c1,if_pos c1]
        exact ih d (by omega) k out a (!q) (i+1) (by omega) (by omega) (by omega) (by omega) (by omega)
      · rw[if_neg c1,if_neg c1]
        by_cases c2:q=true∧bt s (i:Int)=92
        · rw[if_pos c2,if_pos c2]
          cases d with
          |zero=>
            obtain⟨k,rfl⟩:∃ m,k=m+1:=⟨k-1,by omega⟩
            exact impl_el_end s hs k (by omega) out (by omega) a (by omega) q _ (by omega)
          |succ e=>exact ih e (by omega) k out a q (i+2) (by omega) (by omega) (by omega) (by omega) (by omega)
        · rw[if_neg c2,if_neg c2]
          by_cases c3:q=false∧bt s (i:Int)=44
          · have hz:(s.extract a i).size≤s.size:=by rw[size_extract];omega
            rw[if_pos c3,if_pos c3,if_pos (by omega),if_pos (by omega),if_pos (by omega),Int.toNat_natCast,Int.toNat_natCast,impl_Trim_eq _ (by omega) k (by omega),Option.bind_some]
            exact ih d (by omega) k _ (i+1) q (i+1) (by omega) (by omega) (by omega) (by have:=addS_length out (trimS (s.extract a i));omega) (by omega)
          · rw[if_neg c3,if_neg c3]
            exact ih d (by omega) k out a q (i+1) (by omega) (by omega) (by omega) (by omega) (by omega)
theorem spec_add (s:ByteArray) (k:Nat) (out:List ByteArray) (hl:out.length≤5000) (x:ByteArray) (hx:x.size≤4000) (hk:2*x.size+3<k) (g:List ByteArray→Option (List ByteArray)) :
    ((spec_Trim.f k x).bind fun t=>if(t.size:Int)>0 then(if out.length<8796093022208 then g (out ++ [t]) else none) else g out)=g (addS out (trimS x)):=by
  rw[spec_Trim_eq x (by omega) k hk,Option.bind_some]
  unfold addS
  by_cases h:(trimS x).toList=([]:List UInt8)
  · have:=(toList_nil _).1 h
    rw[if_pos h,if_neg (by omega)]
  · have:(trimS x).size≠0:=fun e=>h ((toList_nil _).2 e)
    rw[if_neg h,if_pos (by omega),if_pos (by omega)]
theorem spec_el_end (s:ByteArray) (hs:s.size≤4000) (k:Nat) (hk:2*s.size+5<k) (out:List ByteArray) (hl:out.length≤5000) (a:Nat) (ha:a≤s.size) (q:Bool) :
    spec_Elements.l0 (k+2) s out (a:Int) q (s.size:Int)=some (fin s out a):=by
  have hz:(s.extract a s.size).size≤s.size:=by rw[size_extract];omega
  have hw:wrap64 ((s.size:Int)+1)=((s.size+1:Nat):Int):=by rw[wrap_id (by omega) (by omega)];omega
  rw[spec_Elements.l0.eq_def]
  dsimp only
  rw[if_pos (by omega),if_pos rfl,spec_Elements.j1.eq_def]
  dsimp only
  rw[if_pos rfl,if_pos (by omega),if_pos (by omega),if_pos (by omega),Int.toNat_natCast,Int.toNat_natCast,hw]
  rw[spec_add s k out hl (s.extract a s.size) (by omega) (by omega) (fun o=>spec_Elements.l0 k s o ((s.size+1:Nat):Int) q ((s.size+1:Nat):Int))]
  obtain⟨k,rfl⟩:∃ m,k=m+1:=⟨k-1,by omega⟩
  rw[spec_Elements.l0.eq_def]
  dsimp only
  rw[if_neg (by omega)]
  rfl
theorem spec_el (s:ByteArray) (hs:s.size≤4000):∀(n d:Nat),d≤n→∀(k:Nat) (out:List ByteArray) (a:Nat) (q:Bool) (i:Nat),i≤s.size→s.size-i=d→a≤i→out.length≤i→2*d+2*s.size+9<k→
    spec_Elements.l0 k s out (a:Int) q (i:Int)=some (elS s d out a q i):=by
  intro n
  induction n with
  |zero=>
    intro d hdn k out a q i hi hd ha hl hk
    obtain rfl:d=0:=by omega
    obtain⟨k,rfl⟩:∃ m,k=m+2:=⟨k-2,by omega⟩
    obtain rfl:i=s.size:=by omega
    exact spec_el_end s hs k (by omega) out (by omega) a (by omega) q
  |succ n ih=>
    intro d hdn k out a q i hi hd ha hl hk
    obtain⟨k,rfl⟩:∃ m,k=m+2:=⟨k-2,by omega⟩
    cases d with
    |zero=>
      obtain rfl:i=s.size:=by omega
      exact spec_el_end s hs k (by omega) out (by omega) a (by omega) q
    |succ d=>
      have hw:wrap64 ((i:Int)+1)=((i+1:Nat):Int):=by rw[wrap_id (by omega) (by omega)];omega
      have hw2:wrap64 (((i+1:Nat):Int)+1)=((i+2:Nat):Int):=by rw[wrap_id (by omega) (by omega)];omega
      have hno:∀(b:Bool),(q=true∨bt s (i:Int)≠44)→spec_Elements.j1 (k+1) s out (a:Int) q (i:Int) false=some (elS s (d+1) out a q i):=by
        intro b hq
        rw[spec_Elements.j1.eq_def]
        dsimp only
        rw[if_neg (by decide),if_pos (by omega),if_pos (by omega),hw,hw2]
        rw[elS_succ]
        by_cases c1:bt s (i:Int)=34
        · rw[if_pos c1,if_pos c1]
          exact ih d (by omega) k out a (!q) (i+1) (by omega) (by omega) (by omega) (by omega) (by omega)
        · rw[if_neg c1,if_neg c1]
          by_cases c2:q=true
          · rw[if_pos c2]
            by_cases c3:bt s (i:Int)=92
            · rw[if_pos c3,if_pos (show q=true∧bt s (i:Int)=92 from⟨c2,c3⟩)]
              cases d with
              |zero=>
                rw[if_neg (by omega)]
                obtain⟨k,rfl⟩:∃ m,k=m+2:=⟨k-2,by omega⟩
                have:((i+1:Nat):Int)=(s.size:Int):=by omega
                rw[this]
                exact spec_el_end s hs k (by omega) out (by omega) a (by omega) q
              |succ e=>
                rw[if_pos (by omega)]
                exact ih e (by omega) k out a q (i+2) (by omega) (by omega) (by omega) (by omega) (by omega)
            · rw[if_neg c3,if_neg (fun z=>c3 z.2),if_neg (fun z=>by rw[c2] at z;cases z.1)]
              exact ih d (by omega) k out a q (i+1) (by omega) (by omega) (by omega) (by omega) (by omega)
          · rw[if_neg c2,if_neg (fun z=>c2 z.1),if_neg (fun z=>by rcases hq with h|h;exact c2 h;exact h z.2)]
            exact ih d (by omega) k out a q (i+1) (by omega) (by omega) (by omega) (by omega) (by omega)
      rw[spec_Elements.l0.eq_def]
      dsimp only
      rw[if_pos (by omega),if_neg (by omega)]
      by_cases c2:q=true
      · rw[if_pos c2]
        exact hno true (.inl c2)
      · rw[if_neg c2,if_pos (by omega),if_pos (by omega)]
        by_cases c3:bt s (i:Int)=44
        · have hz:(s.extract a i).size≤s.size:=by rw[size_extract];omega
          rw[show((bt s (i:Int))==44)=true from beq_iff_eq.mpr c3,spec_Elements.j1.eq_def]
          dsimp only
          rw[if_pos rfl,if_pos (by omega),if_pos (by omega),if_pos (by omega),Int.toNat_natCast,Int.toNat_natCast,hw]
          rw[spec_add s k out (by omega) (s.extract a i) (by omega) (by omega) (fun o=>spec_Elements.l0 k s o ((i+1:Nat):Int) q ((i+1:Nat):Int))]
          rw[elS_succ,if_neg (by omega),if_neg (fun z=>c2 z.1),if_pos ⟨by simpa using c2,c3⟩]
          exact ih d (by omega) k _ (i+1) q (i+1) (by omega) (by omega) (by omega) (by have:=addS_length out (trimS (s.extract a i));omega) (by omega)
        · rw[show((bt s (i:Int))==44)=false from beq_eq_false_iff_ne.mpr c3]
          exact hno true (.inr c3)
def elementsOf (s:ByteArray):List ByteArray:=if(s.size:Int)>4000 then [] else elS s s.size [] 0 false 0
theorem impl_Elements_eq (s:ByteArray) (k:Nat) (hk:20000<k):impl_Elements.f k s=some (elementsOf s):=by
  unfold impl_Elements.f elementsOf
  by_cases h:(s.size:Int)>4000
  · rw[if_pos h,if_pos h]
  · rw[if_neg h,if_neg h]
    exact impl_el s (by omega) s.size s.size (Nat.le_refl _) k [] 0 false 0 (Nat.zero_le _) (by omega) (Nat.le_refl _) (Nat.le_refl _) (by omega)
theorem spec_Elements_eq (s:ByteArray) (k:Nat) (hk:20000<k):spec_Elements.f k s=some (elementsOf s):=by
  unfold spec_Elements.f elementsOf
  by_cases h:(s.size:Int)>4000
  · rw[if_pos h,if_pos h]
  · rw[if_neg h,if_neg h]
    exact spec_el s (by omega) s.size s.size (Nat.le_refl _) k [] 0 false 0 (Nat.zero_le _) (by omega) (Nat.le_refl _) (Nat.le_refl _) (by omega)
theorem elS_length (s:ByteArray):∀(n d:Nat),d≤n→∀(out:List ByteArray) (a:Nat) (q:Bool) (i:Nat),(elS s d out a q i).length≤out.length+d+1:=by
  intro n
  induction n with
  |zero=>
    intro d hdn out a q i
    obtain rfl:d=0:=by omega
    exact addS_length _ _
  |succ n ih=>
    intro d hdn out a q i
    cases d with
    |zero=>exact addS_length _ _
    |succ d=>
      rw[elS_succ]
      split
      · have:=ih d (by omega) out a (!q) (i+1);omega
      · split
        · cases d with
          |zero=>have:=addS_length out (trimS (s.extract a s.size));exact Nat.le_trans this (by omega)
          |succ e=>have:=ih e (by omega) out a q (i+2);exact Nat.le_trans this (by omega)
        · split
          · have:=ih d (by omega) (addS out (trimS (s.extract a i))) (i+1) q (i+1)
            have:=addS_length out (trimS (s.extract a i))
            omega
          · have:=ih d (by omega) out a q (i+1);omega
theorem elementsOf_length (s:ByteArray):(elementsOf s).length≤4001:=by
  unfold elementsOf
  by_cases h:(s.size:Int)>4000
  · rw[if_pos h];exact Nat.zero_le _
  · rw[if_neg h]
    have:=elS_length s s.size s.size (Nat.le_refl _) [] 0 false 0
    simp at this
    omega

end Go.Proofs.YtonmpnghlopnoaaGreatDoor.P
end

section
/- Plain laws of our own (Within): about numbers and lists alone; no condition beyond those written. -/
namespace Go.Proofs.YtonmpnghlopnoaaGreatDoor.P
open Go.RowKit Go.Proofs.YtonmpnghlopnoaaGreatDoorW.PrintWords Go.Proofs.YtonmpnghlopnoaaGreatDoorW.PrintLast Go.Proofs.YtonmpnghlopnoaaGreatDoorW.PrintMore
set_option linter.unusedVariables false
set_option linter.unusedSimpArgs false
set_option maxHeartbeats 2000000
theorem within_eq (a b c:Int):impl_within.f a b c=some (decide (b≤a∧a≤c)):=by
  unfold impl_within.f
  by_cases h:b≤a
  · rw[if_pos h];simp[h]
  · rw[if_neg h];simp[h]

end Go.Proofs.YtonmpnghlopnoaaGreatDoor.P
end

section
/- Plain laws of our own (Line): about numbers and lists alone; no condition beyond those written. -/
namespace Go.Proofs.YtonmpnghlopnoaaGreatDoor.P
open Go.RowKit Go.Proofs.YtonmpnghlopnoaaGreatDoorW.PrintWords Go.Proofs.YtonmpnghlopnoaaGreatDoorW.PrintLast Go.Proofs.YtonmpnghlopnoaaGreatDoorW.PrintMore
set_option linter.unusedVariables false
set_option linter.unusedSimpArgs false
set_option maxHeartbeats 2000000
theorem first_or_none (p:Nat→Bool) (hi:Nat):∀ d lo,lo+d=hi→(∃ n,lo≤n∧n<hi∧p n=true∧∀ m,lo≤m→m<n→p m=false)∨(∀ m,lo≤m→m<hi→p m=false):=by
  intro d
  induction d with
  |zero=>intro lo h;exact .inr fun m h1 h2=>by omega
  |succ d ih=>
    intro lo h
    cases hp:p lo with
    |true=>exact .inl ⟨lo,by omega,by omega,hp,fun m h1 h2=>by omega⟩
    |false=>
      rcases ih (lo+1) (by omega) with⟨n,h1,h2,h3,h4⟩|h4
      · exact .inl ⟨n,by omega,h2,h3,fun m m1 m2=>by
          by_cases e:m=lo
          · rw[e];exact hp
          · exact h4 m (by omega) m2⟩
      · exact .inr fun m m1 m2=>by
          by_cases e:m=lo
          · rw[e];exact hp
          · exact h4 m (by omega) m2
theorem skip_to {α:Type} (F:Nat→Int→Option α) (lo hi:Nat) (step:∀ k (i:Nat),lo≤i→i<hi→F (k+1) (i:Int)=F k ((i+1:Nat):Int)) :
    ∀(d k i:Nat),lo≤i→i+d=hi→F (k+d) (i:Int)=F k (hi:Int):=by
  intro d
  induction d with
  |zero=>intro k i _ h;rw[← h];rfl
  |succ d ih=>
    intro k i h0 h
    rw[show k+(d+1)=(k+d)+1 by omega,step _ i h0 (by omega)]
    exact ih k (i+1) (by omega) (by omega)
theorem wrap_succ (m:Nat) (h:m≤4611686018427387904):wrap64 ((m:Int)+1)=((m+1:Nat):Int):=by
  rw[wrap_id (by omega) (by omega)];omega
theorem wrap_pred (m:Nat) (h:m≤4611686018427387904) (h1:1≤m):wrap64 ((m:Int)-1)=((m-1:Nat):Int):=by
  rw[wrap_id (by omega) (by omega)];omega
theorem len_eq (s:ByteArray):s.data.toList.length=s.size:=Array.length_toList
theorem bt_at {s:ByteArray} {n:Nat} {b:UInt8} (h:s.data.toList[n]? = some b):n<s.size∧bt s (n:Int)=(b.toNat:Int):=by
  obtain⟨h1,h2⟩:=List.getElem?_eq_some_iff.mp h
  have h3:n<s.size:=by rw[len_eq] at h1;exact h1
  refine⟨h3,?_⟩
  unfold bt
  rw[dif_pos (show((n:Int)).toNat<s.size by simpa using h3)]
  simp only[Int.toNat_natCast]
  rw[← h2]
  rfl
theorem at_bt {s:ByteArray} {n:Nat} (h:n<s.size):∃ b:UInt8,s.data.toList[n]? = some b∧bt s (n:Int)=(b.toNat:Int):=by
  have h1:n<s.data.toList.length:=by rw[len_eq];exact h
  exact⟨s.data.toList[n],List.getElem?_eq_getElem h1,(bt_at (List.getElem?_eq_getElem h1)).2⟩
theorem list_extract (s:ByteArray) (a b:Nat):(s.extract a b).data.toList=(s.data.toList.take b).drop a:=by
  rw[ByteArray.data_extract,Array.toList_extract,List.extract_eq_take_drop,List.take_drop]
  by_cases h:a≤b
  · rw[show a+(b-a)=b by omega]
  · rw[show a+(b-a)=a by omega,List.drop_of_length_le (by simp;omega),List.drop_of_length_le (by simp;omega)]
theorem at_extract {s:ByteArray} {a j:Nat} {b:UInt8} (h:(s.extract a s.size).data.toList[j]? = some b):s.data.toList[a+j]? = some b:=by
  rw[list_extract,List.getElem?_drop] at h
  rw[← h,List.getElem?_take]
  split
  · rfl
  · rw[List.getElem?_eq_none (by rw[len_eq];omega)]
theorem ext_ext (s:ByteArray) (a b c d:Nat) (h:a+d≤b):(s.extract a b).extract c d=s.extract (a+c) (a+d):=by
  rw[ByteArray.extract_extract,Nat.min_eq_left h]
theorem indexAny_eol_hit (s:ByteArray) (a n:Nat) (h0:a≤n) (h1:n<s.size) (h2:bt s (n:Int)=13∨bt s (n:Int)=10) (h3:∀ m:Nat,a≤m→m<n→bt s (m:Int)≠13∧bt s (m:Int)≠10) :
    Lib.indexAny (s.extract a s.size).data.toList [13,10]=((n-a:Nat):Int):=by
  obtain⟨b,hb,hbt⟩:=at_bt h1
  have hx:(s.extract a s.size).data.toList[n-a]? = some b:=by
    rw[list_extract,List.getElem?_drop,show a+(n-a)=n by omega,List.getElem?_take,if_pos (by omega)]
    exact hb
  refine Lib.indexAny_hit (x:=b) (fun j y hj hy=>?_) hx ?_
  · have:=h3 (a+j) (by omega) (by omega)
    have hq:=(bt_at (at_extract hy)).2
    rw[hq] at this
    have h13:y≠13:=fun e=>this.1 (by rw[e];rfl)
    have h10:y≠10:=fun e=>this.2 (by rw[e];rfl)
    simp[h13,h10]
  · rw[hbt] at h2
    have:b=13∨b=10:=by
      rcases h2 with h|h
      · exact .inl (UInt8.toNat_inj.1 (by show b.toNat=13;omega))
      · exact .inr (UInt8.toNat_inj.1 (by show b.toNat=10;omega))
    rcases this with rfl|rfl <;> decide
theorem indexAny_eol_none (s:ByteArray) (a:Nat) (h3:∀ m:Nat,a≤m→m<s.size→bt s (m:Int)≠13∧bt s (m:Int)≠10) :
    Lib.indexAny (s.extract a s.size).data.toList [13,10] = -1:=by
  refine Lib.indexAny_none (fun j y hj hy=>?_)
  have hq:=bt_at (at_extract hy)
  have:=h3 (a+j) (by omega) hq.1
  rw[hq.2] at this
  have h13:y≠13:=fun e=>this.1 (by rw[e];rfl)
  have h10:y≠10:=fun e=>this.2 (by rw[e];rfl)
  simp[h13,h10]
theorem ex_rounds (k d:Nat) (h:d<k):∃ q,k=q+1+d:=⟨k-1-d,by omega⟩
theorem ex_succ (k:Nat) (h:0<k):∃ q,k=q+1:=⟨k-1,by omega⟩
abbrev LineT := ByteArray×ByteArray×Int×Int
def lineAt (s:ByteArray) (a d e:Nat):LineT:=
  if bt s ((a+d:Nat):Int)=10 then((⟨#[]⟩:ByteArray),(⟨#[]⟩:ByteArray),0,2)
  else if d+1=e then((⟨#[]⟩:ByteArray),(⟨#[]⟩:ByteArray),0,1)
  else if bt s ((a+d+1:Nat):Int)=10 then(s.extract a (a+d),s,((a+d+2:Nat):Int),0)
  else((⟨#[]⟩:ByteArray),(⟨#[]⟩:ByteArray),0,2)
theorem spec_line_hit (s:ByteArray) (a d e:Nat) (hs:s.size=a+e) (hd:d<e) (hb:a+e≤1048576) (h:bt s ((a+d:Nat):Int)=13∨bt s ((a+d:Nat):Int)=10) (k:Nat) :
    spec_TakeLine.l0 (k+1) ((a+d:Nat):Int) s (a:Int)=some (lineAt s a d e):=by
  have hw:=wrap_succ (a+d) (by omega)
  simp only[spec_TakeLine.l0,lineAt]
  rw[if_pos (by omega),if_pos (by omega),hw]
  by_cases e10:bt s ((a+d:Nat):Int)=10
  · rw[if_pos e10,if_pos e10]
  · rw[if_neg e10,if_neg e10]
    have e13:bt s ((a+d:Nat):Int)=13:=h.resolve_right e10
    rw[if_pos e13]
    clear h e13 e10 hw
    by_cases el:d+1=e
    · rw[if_pos (by omega),if_pos el]
    · rw[if_neg (by omega),if_neg el,if_pos (by omega),if_pos (by omega)]
      by_cases e2:bt s ((a+d+1:Nat):Int)=10
      · rw[if_pos e2,if_pos e2]
        clear e2
        rw[if_pos (by omega),if_pos (by omega),if_pos (by omega),wrap_id (by omega) (by omega)]
        rfl
      · rw[if_neg e2,if_neg e2]
theorem impl_line_hit (s:ByteArray) (a d e:Nat) (hs:s.size=a+e) (hd:d<e) (hb:a+e≤1048576) (h:bt s ((a+d:Nat):Int)=13∨bt s ((a+d:Nat):Int)=10) (k:Nat)
    (hx:Lib.indexAny (s.extract a s.size).data.toList [13,10]=(d:Int)) :
    impl_TakeLine.f (k+1) s (a:Int)=some (lineAt s a d e):=by
  have hsz:(s.extract a s.size).size=e:=by rw[size_extract];omega
  have hc2:impl_CurOk.f s (a:Int)=some true:=by unfold impl_CurOk.f;rw[within_eq];simp;omega
  have hix:strings_IndexAny.f (s.extract a s.size) (⟨#[13,10]⟩:ByteArray)=some (d:Int):=by
    unfold strings_IndexAny.f
    rw[if_pos ⟨rfl,by omega⟩,hx]
  have hbe:bt (s.extract a s.size) (d:Int)=bt s ((a+d:Nat):Int):=by
    rw[bt_extract _ _ _ _ (by omega) (by omega) (by omega)];rfl
  have hw:=wrap_succ d (by omega)
  have hws:=wrap_pred e (by omega) (by omega)
  clear hx
  unfold impl_TakeLine.f
  rw[hc2,Option.bind_some,if_pos rfl,if_pos (by omega),if_pos (by omega)]
  simp only[Int.toNat_natCast]
  rw[hix,Option.bind_some,if_neg (by omega),if_pos (by omega),hsz,if_pos (by omega),hbe,hws]
  clear hc2 hix
  unfold lineAt
  by_cases e10:bt s ((a+d:Nat):Int)=10
  · rw[if_pos e10,if_neg (by rw[e10];decide)]
    simp only[impl_TakeLine.j0]
    rw[if_neg (by decide),if_pos (by omega),hsz,if_pos (by omega),hbe,if_neg (by rw[e10];decide)]
  · have e13:bt s ((a+d:Nat):Int)=13:=h.resolve_right e10
    rw[if_neg e10,if_pos e13]
    clear h e10
    by_cases el:d+1=e
    · rw[if_pos el,show((d:Int)==((e-1:Nat):Int))=true from beq_iff_eq.2 (by omega)]
      simp only[impl_TakeLine.j0]
      rw[if_pos trivial]
    · have hbe2:bt (s.extract a s.size) ((d+1:Nat):Int)=bt s ((a+d+1:Nat):Int):=by
        rw[bt_extract _ _ _ _ (by omega) (by omega) (by omega)];congr 1
      rw[if_neg el,show((d:Int)==((e-1:Nat):Int))=false from beq_eq_false_iff_ne.2 (by omega)]
      simp only[impl_TakeLine.j0]
      rw[if_neg (by decide),if_pos (by omega),hsz,if_pos (by omega),hbe,if_pos e13,hw,if_pos (by omega),if_pos (by omega),hbe2]
      clear hbe hbe2 e13 hw hws
      by_cases e2:bt s ((a+d+1:Nat):Int)=10
      · rw[if_pos e2,if_pos e2]
        clear e2
        rw[if_pos (by omega),ext_ext _ _ _ _ _ (by simp;omega),wrap_id (x:=(a:Int)+(d:Int)) (by omega) (by omega),wrap_id (by omega) (by omega)]
        rfl
      · rw[if_neg e2,if_neg e2]
theorem lineAt_facts (s:ByteArray) (a d e:Nat) (hd:d<e) (h:(lineAt s a d e).2.2.2=0):(lineAt s a d e).2.1=s∧∃ m:Nat,(lineAt s a d e).2.2.1=(m:Int)∧a<m∧m≤a+e:=by
  unfold lineAt at h ⊢
  split at h
  · exact absurd h (by decide)
  · split at h
    · exact absurd h (by decide)
    · split at h
      · rename_i h1 h2 h3
        rw[if_neg h1,if_neg h2,if_pos h3]
        exact⟨rfl,a+d+2,rfl,by omega,by omega⟩
      · exact absurd h (by decide)
theorem takeLine_eq (s:ByteArray) (hs:s.size≤1048576) (a:Nat) (ha:a≤s.size):∃ r:LineT,
    (∀ k,s.size+5<k→spec_TakeLine.f k s (a:Int)=some r∧impl_TakeLine.f k s (a:Int)=some r)∧
    (r.2.2.2=0→r.2.1=s∧∃ m:Nat,r.2.2.1=(m:Int)∧a<m∧m≤s.size):=by
  obtain⟨e,he⟩:∃ e,s.size=a+e:=⟨s.size-a,by omega⟩
  have hc1:spec_CurOk.f s (a:Int)=some true:=by unfold spec_CurOk.f;rw[if_pos (by omega)];simp;omega
  have skip:=fun(hi:Nat) (hhi:hi≤s.size) (hno:∀ m:Nat,a≤m→m<hi→bt s (m:Int)≠13∧bt s (m:Int)≠10)=>
    skip_to (fun k i=>spec_TakeLine.l0 k i s (a:Int)) a hi (fun k i h0 h1=>by
      have hb:=hno i h0 h1
      have hw:=wrap_succ i (by omega)
      simp only[spec_TakeLine.l0]
      rw[if_pos (by omega),if_pos (by omega),if_neg hb.2,if_neg hb.1,hw])
  rcases first_or_none (fun n=>decide (bt s (n:Int)=13∨bt s (n:Int)=10)) s.size e a he.symm with⟨n,h1,h2,h3,h4⟩|h4
  · obtain⟨d,rfl⟩:∃ d,n=a+d:=⟨n-a,by omega⟩
    have h3':=of_decide_eq_true h3
    have h4':∀ m:Nat,a≤m→m<a+d→bt s (m:Int)≠13∧bt s (m:Int)≠10:=fun m m1 m2=>by
      have:=of_decide_eq_false (h4 m m1 m2);exact⟨fun e=>this (.inl e),fun e=>this (.inr e)⟩
    have hx:=indexAny_eol_hit s a (a+d) h1 h2 h3' h4'
    rw[show a+d-a=d by omega] at hx
    have hd:d<e:=by omega
    refine⟨lineAt s a d e,fun k hk=>⟨?_,?_⟩,fun h=>by rw[he];exact lineAt_facts s a d e hd h⟩
    · unfold spec_TakeLine.f
      rw[hc1,Option.bind_some,if_pos rfl]
      obtain⟨q,rfl⟩:=ex_rounds k d (by clear h3' hx;omega)
      have:=skip (a+d) (by clear h3' hx;omega) h4' d (q+1) a (Nat.le_refl _) rfl
      rw[this]
      exact spec_line_hit s a d e he hd (by omega) h3' q
    · obtain⟨q,rfl⟩:=ex_succ k (by clear h3' hx;omega)
      exact impl_line_hit s a d e he hd (by omega) h3' q hx
  · have h4':∀ m:Nat,a≤m→m<s.size→bt s (m:Int)≠13∧bt s (m:Int)≠10:=fun m m1 m2=>by
      have:=of_decide_eq_false (h4 m m1 m2);exact⟨fun e=>this (.inl e),fun e=>this (.inr e)⟩
    have hx:=indexAny_eol_none s a h4'
    refine⟨((⟨#[]⟩:ByteArray),(⟨#[]⟩:ByteArray),0,1),fun k hk=>⟨?_,?_⟩,fun h=>absurd h (by decide)⟩
    · unfold spec_TakeLine.f
      rw[hc1,Option.bind_some,if_pos rfl]
      obtain⟨q,rfl⟩:=ex_rounds k e (by omega)
      have:=skip s.size (Nat.le_refl _) h4' e (q+1) a (Nat.le_refl _) he.symm
      rw[this]
      simp only[spec_TakeLine.l0]
      rw[if_neg (by omega)]
    · obtain⟨q,rfl⟩:=ex_succ k (by omega)
      have hsz:(s.extract a s.size).size≤1048576:=by rw[size_extract];omega
      have hix:strings_IndexAny.f (s.extract a s.size) (⟨#[13,10]⟩:ByteArray)=some (-1):=by
        unfold strings_IndexAny.f
        rw[if_pos ⟨rfl,by omega⟩,hx]
      have hc2:impl_CurOk.f s (a:Int)=some true:=by unfold impl_CurOk.f;rw[within_eq];simp;omega
      unfold impl_TakeLine.f
      rw[hc2,Option.bind_some,if_pos rfl,if_pos (by omega),if_pos (by omega)]
      simp only[Int.toNat_natCast]
      rw[hix,Option.bind_some,if_pos (by decide)]
      simp only[impl_TakeLine.j0]
      rw[if_pos trivial]

end Go.Proofs.YtonmpnghlopnoaaGreatDoor.P
end

section
/- Plain laws of our own (Hex): about numbers and lists alone; no condition beyond those written. -/
namespace Go.Proofs.YtonmpnghlopnoaaGreatDoor.P
open Go.RowKit Go.Proofs.YtonmpnghlopnoaaGreatDoorW.PrintWords Go.Proofs.YtonmpnghlopnoaaGreatDoorW.PrintLast Go.Proofs.YtonmpnghlopnoaaGreatDoorW.PrintMore
set_option linter.unusedVariables false
set_option linter.unusedSimpArgs false
set_option maxHeartbeats 2000000
def hexV (c:Int):Int:=(impl_hexOf.f 3 c).getD (-1)
theorem hex_impl_all : ∀ n:Fin 256,(impl_hexOf.f 3 (n.val:Int)==some (hexV (n.val:Int))&&decide (-1≤hexV (n.val:Int))&&decide (hexV (n.val:Int)≤15))=true:=by decide +kernel
theorem hex_impl (c:Int) (h0:0≤c) (h1:c≤255) (k:Nat) (hk:3≤k):impl_hexOf.f k c=some (hexV c)∧-1≤hexV c∧hexV c≤15:=by
  obtain⟨n,rfl⟩:=Int.eq_ofNat_of_zero_le h0
  have h:=hex_impl_all ⟨n,by omega⟩
  simp only[Bool.and_eq_true,decide_eq_true_eq,beq_iff_eq] at h
  exact⟨at_rounds (g:=fun k=>impl_hexOf.f k (n:Int)) (fun k=>impl_hexOf.mono (n:Int) k) hk h.1.1,h.1.2,h.2⟩
def hexS (x4 c:Int) (f:Int→Option (Int×Bool)):Option (Int×Bool):=
  (spec_l1lower.f c).bind fun t=>(spec_l1digit.f t).bind fun d=>if d=true then f (wrap64 ((wrap64 (x4*16))+((t-48)%256))) else if t≥97 then(if t≤102 then f (wrap64 ((wrap64 ((wrap64 (x4*16))+((t-97)%256)))+10)) else some (0,false)) else some (0,false)
def hexK (c:Int):Int:=match spec_l1lower.f c with
  |some t=>match spec_l1digit.f t with
    |some true=>(t-48)%256
    |some false=>if t≥97 then(if t≤102 then(t-97)%256+10 else -1) else -1
    |none=>-2
  |none=>-2
theorem hex_spec_all : ∀ n:Fin 256,(hexK (n.val:Int)==hexV (n.val:Int))=true:=by decide +kernel
theorem hexS_eq (c:Int) (h0:0≤c) (h1:c≤255) (x4:Int) (hx:0≤x4) (hx2:x4≤268435456) (f:Int→Option (Int×Bool)) :
    hexS x4 c f=if hexV c<0 then some (0,false) else f (16*x4+hexV c):=by
  obtain⟨n,rfl⟩:=Int.eq_ofNat_of_zero_le h0
  have h:=beq_iff_eq.1 (hex_spec_all ⟨n,by omega⟩)
  have hr:=hex_impl (n:Int) h0 h1 3 (Nat.le_refl _)
  simp only at h
  unfold hexS
  unfold hexK at h
  have hw16:wrap64 (x4*16)=x4*16:=wrap_id (by omega) (by omega)
  cases hl:spec_l1lower.f (n:Int) with
  |none=>rw[hl] at h;simp only at h;omega
  |some t=>
    rw[hl] at h
    simp only at h
    rw[Option.bind_some]
    cases hd:spec_l1digit.f t with
    |none=>rw[hd] at h;simp only at h;omega
    |some d=>
      rw[hd] at h
      rw[Option.bind_some,hw16]
      cases d with
      |true=>
        simp only at h
        rw[if_pos rfl,if_neg (by omega),wrap_id (by omega) (by omega)]
        congr 1;omega
      |false=>
        simp only at h
        rw[if_neg (by decide)]
        by_cases h97:t≥97
        · rw[if_pos h97] at h ⊢
          by_cases h102:t≤102
          · rw[if_pos h102] at h ⊢
            rw[if_neg (by omega),wrap_id (x:=x4*16+(t-97)%256) (by omega) (by omega),wrap_id (by omega) (by omega)]
            congr 1;omega
          · rw[if_neg h102] at h ⊢
            rw[if_pos (by omega)]
        · rw[if_neg h97] at h ⊢
          rw[if_pos (by omega)]
theorem bt_range (s:ByteArray) (i:Int):0≤bt s i∧bt s i≤255:=by
  unfold bt
  split
  · rename_i h
    have:=(s[i.toNat]).toNat_lt
    omega
  · omega
theorem hex_loop (s:ByteArray) (hs:s.size≤7):∀(d:Nat) (x4 i:Int),0≤i→(s.size:Int)-i=d→0≤x4→x4<16 ^ (7-d)→∃ r:Int×Bool,(r.2=true→0≤r.1∧r.1<268435456)∧
    ∀ k,d+10<k→spec_ReadHex.l0 k s x4 i=some r∧impl_ReadHex.l0 k s x4 i=some r:=by
  intro d
  induction d with
  |zero=>
    intro x4 i h0 hd hx hx2
    refine⟨(x4,true),fun _=>⟨hx,?_⟩,fun k hk=>?_⟩
    · simpa using hx2
    · obtain⟨k,rfl⟩:=ex_succ k (by omega)
      simp only[spec_ReadHex.l0,impl_ReadHex.l0]
      rw[if_neg (by omega),if_neg (by omega)]
      exact⟨rfl,rfl⟩
  |succ d ih=>
    intro x4 i h0 hd hx hx2
    have hb:=bt_range s i
    have hd7:d≤6:=by omega
    have hx3:x4≤16777215:=by
      have:x4<16 ^ 6:=Int.lt_of_lt_of_le hx2 (by
        have:7-(d+1)≤6:=by omega
        exact_mod_cast Nat.pow_le_pow_right (by decide:0<16) this)
      have e:(16:Int) ^ 6=16777216:=by decide
      omega
    have hv:=hex_impl (bt s i) hb.1 hb.2
    have hwi:wrap64 (i+1)=i+1:=wrap_id (by omega) (by omega)
    have impl_step:∀ k,3≤k→impl_ReadHex.l0 (k+1) s x4 i=if hexV (bt s i)<0 then some (0,false) else impl_ReadHex.l0 k s (16*x4+hexV (bt s i)) (i+1):=by
      intro k hk
      have h3:=hv k hk
      simp only[impl_ReadHex.l0]
      rw[if_pos (by omega),if_pos h0,h3.1,Option.bind_some,hwi,wrap_id (x:=16*x4) (by omega) (by omega)]
      split
      · rfl
      · rw[wrap_id (by omega) (by omega)]
    have spec_step:∀ k,spec_ReadHex.l0 (k+1) s x4 i=if hexV (bt s i)<0 then some (0,false) else spec_ReadHex.l0 k s (16*x4+hexV (bt s i)) (i+1):=by
      intro k
      have e:=hexS_eq (bt s i) hb.1 hb.2 x4 hx (by omega) (fun n=>spec_ReadHex.l0 k s n (i+1))
      rw[← e]
      simp only[spec_ReadHex.l0]
      rw[if_pos (by omega),if_pos h0,hwi]
      rfl
    by_cases hn:hexV (bt s i)<0
    · refine⟨(0,false),(fun h=>by cases h),fun k hk=>?_⟩
      obtain⟨k,rfl⟩:=ex_succ k (by omega)
      rw[spec_step,impl_step k (by omega),if_pos hn,if_pos hn]
      exact⟨rfl,rfl⟩
    · have h15:=(hv 3 (Nat.le_refl _)).2.2
      obtain⟨r,hr1,hr2⟩:=ih (16*x4+hexV (bt s i)) (i+1) (by omega) (by omega) (by omega) (by
        have e:(16:Int) ^ (7-d)=16 ^ (7-(d+1))*16:=by rw[show 7-d=(7-(d+1))+1 by omega,Int.pow_succ]
        rw[e];omega)
      refine⟨r,hr1,fun k hk=>?_⟩
      obtain⟨k,rfl⟩:=ex_succ k (by omega)
      rw[spec_step,impl_step k (by omega),if_neg hn,if_neg hn]
      exact hr2 k (by omega)
theorem readHex_eq (s:ByteArray):∃ r:Int×Bool,(r.2=true→0≤r.1∧r.1<268435456)∧∀ k,30<k→spec_ReadHex.f k s=some r∧impl_ReadHex.f k s=some r:=by
  by_cases h:1≤s.size∧s.size≤7
  · obtain⟨r,h1,h2⟩:=hex_loop s h.2 s.size 0 0 (by omega) (by omega) (by omega) (by
      have:(0:Int)<16 ^ (7-s.size):=Int.pow_pos (by decide)
      omega)
    refine⟨r,h1,fun k hk=>?_⟩
    obtain⟨k,rfl⟩:=ex_succ k (by omega)
    unfold spec_ReadHex.f impl_ReadHex.f
    rw[within_eq,Option.bind_some,if_pos (decide_eq_true (by omega)),if_neg (by omega),decide_eq_false (by omega)]
    simp only[spec_ReadHex.j0]
    rw[if_neg (by decide)]
    exact⟨(h2 k (by omega)).1,(h2 (k+1) (by omega)).2⟩
  · refine⟨(0,false),(fun h=>by cases h),fun k hk=>?_⟩
    obtain⟨k,rfl⟩:=ex_succ k (by omega)
    refine⟨?_,?_⟩
    · unfold spec_ReadHex.f
      by_cases h0:s.size=0
      · rw[if_pos (by omega)]
        simp only[spec_ReadHex.j0]
        rfl
      · rw[if_neg (by omega),decide_eq_true (by omega)]
        simp only[spec_ReadHex.j0]
        rfl
    · unfold impl_ReadHex.f
      rw[within_eq,Option.bind_some,if_neg (by rw[decide_eq_false (by omega)];decide)]

end Go.Proofs.YtonmpnghlopnoaaGreatDoor.P
end

section
/- Plain laws of our own (AllB): about numbers and lists alone; no condition beyond those written. -/
namespace Go.Proofs.YtonmpnghlopnoaaGreatDoor.P
open Go.RowKit Go.Proofs.YtonmpnghlopnoaaGreatDoorW.PrintWords Go.Proofs.YtonmpnghlopnoaaGreatDoorW.PrintLast Go.Proofs.YtonmpnghlopnoaaGreatDoorW.PrintMore
set_option linter.unusedVariables false
set_option linter.unusedSimpArgs false
set_option maxHeartbeats 2000000
def allB (p:Int→Bool):Nat→Int→Bool
  |0,_=>true
  |d+1,i=>p i&&allB p d (i+1)
theorem all_loop (F:Nat→Int→Option Bool) (n:Nat) (p:Int→Bool) (K0:Nat) (stop:∀ k (i:Int),(n:Int)≤i→F (k+1) i=some true)
    (step:∀ k (i:Int),0≤i→i<n→K0≤k→F (k+1) i=if p i=true then F k (i+1) else some false) :
    ∀(d k:Nat) (i:Int),0≤i→(n:Int)-i=d→d+K0<k→F k i=some (allB p d i):=by
  intro d
  induction d with
  |zero=>
    intro k i h0 hd hk
    obtain⟨k,rfl⟩:∃ m,k=m+1:=⟨k-1,by omega⟩
    rw[stop k i (by omega)]
    rfl
  |succ d ih=>
    intro k i h0 hd hk
    obtain⟨k,rfl⟩:∃ m,k=m+1:=⟨k-1,by omega⟩
    rw[step k i h0 (by omega) (by omega),ih k (i+1) (by omega) (by omega) (by omega)]
    simp only[allB]
    cases p i <;> simp
theorem all_from (F:Nat→Int→Option Bool) (n:Nat) (p:Int→Bool) (K0:Nat) (stop:∀ k (i:Int),(n:Int)≤i→F (k+1) i=some true)
    (step:∀ k (i:Int),0≤i→i<n→K0≤k→F (k+1) i=if p i=true then F k (i+1) else some false) (k:Nat) (hk:n+K0<k):F k 0=some (allB p n 0):=
  all_loop F n p K0 stop step n k 0 (by omega) (by omega) hk

end Go.Proofs.YtonmpnghlopnoaaGreatDoor.P
end

section
/- Plain laws of our own (Token): about numbers and lists alone; no condition beyond those written. -/
namespace Go.Proofs.YtonmpnghlopnoaaGreatDoor.P
open Go.RowKit Go.Proofs.YtonmpnghlopnoaaGreatDoorW.PrintWords Go.Proofs.YtonmpnghlopnoaaGreatDoorW.PrintLast Go.Proofs.YtonmpnghlopnoaaGreatDoorW.PrintMore
set_option linter.unusedVariables false
set_option linter.unusedSimpArgs false
set_option maxHeartbeats 2000000
def tchB (c:Int):Bool:=(impl_isTokenByte.f c).getD false
theorem token_bytesI : ∀ n:Fin 256,impl_isTokenByte.f (n.val:Int)=some (tchB (n.val:Int)):=by decide +kernel
theorem token_bytesS : ∀ n:Fin 256,spec_l1tchar.f 20 (n.val:Int)=some (tchB (n.val:Int)):=by decide +kernel
theorem isTokenByte_eq (c:Int) (h0:0≤c) (h1:c≤255):impl_isTokenByte.f c=some (tchB c):=by
  obtain⟨n,rfl⟩:=Int.eq_ofNat_of_zero_le h0
  exact token_bytesI ⟨n,by omega⟩
theorem tchar_eq (c:Int) (h0:0≤c) (h1:c≤255) (k:Nat) (hk:20≤k):spec_l1tchar.f k c=some (tchB c):=by
  obtain⟨n,rfl⟩:=Int.eq_ofNat_of_zero_le h0
  exact at_rounds (g:=fun k=>spec_l1tchar.f k (n:Int)) (fun k=>spec_l1tchar.mono (n:Int) k) hk (token_bytesS ⟨n,by omega⟩)
def tokB (s:ByteArray):Bool:=decide (1≤s.size∧s.size≤4000)&&allB (fun i=>tchB (bt s i)) s.size 0
theorem impl_Token_eq (s:ByteArray) (k:Nat) (hk:5000<k):impl_Token.f k s=some (tokB s):=by
  unfold impl_Token.f tokB
  rw[within_eq,Option.bind_some]
  by_cases h:1≤s.size∧s.size≤4000
  · rw[if_pos (decide_eq_true (by omega)),decide_eq_true h,Bool.true_and]
    unfold impl_all__impl_isTokenByte.f
    rw[all_from (fun k i=>impl_all__impl_isTokenByte.l0 k s i) s.size (fun i=>tchB (bt s i)) 0 (fun k i hi=>by simp only[impl_all__impl_isTokenByte.l0];rw[if_neg (by omega)])
      (fun k i h0 h1 _=>by
        have hb:=bt_range s i
        simp only[impl_all__impl_isTokenByte.l0]
        rw[if_pos h1,if_pos h0,isTokenByte_eq _ hb.1 hb.2,Option.bind_some,wrap_id (by omega) (by omega)]) k (by omega)]
    rfl
  · rw[if_neg (by simp;omega),decide_eq_false h,Bool.false_and]
theorem spec_Token_eq (s:ByteArray) (k:Nat) (hk:5000<k):spec_Token.f k s=some (tokB s):=by
  obtain⟨k,rfl⟩:∃ m,k=m+1:=⟨k-1,by omega⟩
  unfold spec_Token.f tokB
  by_cases h0:(s.size:Int)=0
  · rw[if_pos h0,decide_eq_false (by omega),Bool.false_and]
    simp[spec_Token.j0]
  · rw[if_neg h0]
    simp only[spec_Token.j0]
    by_cases h:1≤s.size∧s.size≤4000
    · rw[if_neg (by simp;omega),decide_eq_true h,Bool.true_and]
      exact all_from (fun k i=>spec_Token.l0 k s i) s.size (fun i=>tchB (bt s i)) 20 (fun k i hi=>by simp only[spec_Token.l0];rw[if_neg (by omega)])
        (fun k i h0 h1 hk=>by
          have hb:=bt_range s i
          simp only[spec_Token.l0]
          rw[if_pos h1,if_pos h0,tchar_eq _ hb.1 hb.2 k hk,Option.bind_some,wrap_id (by omega) (by omega)]) k (by omega)
    · rw[if_pos (by simp;omega),decide_eq_false h,Bool.false_and]
def plB (c:Int):Bool:=decide (c=9)||(decide (32≤c)&&decide (c≠127))
theorem isPlain_eq (c:Int):impl_isPlain.f c=some (plB c):=by
  unfold impl_isPlain.f plB
  by_cases h:c=9
  · rw[if_pos h];simp[h]
  · rw[if_neg h]
    by_cases h2:c≥32
    · rw[if_pos h2]
      by_cases h3:c=127 <;> simp[h,h2,h3]
    · rw[if_neg h2];simp[h,h2]
theorem l1plain_eq (c:Int):spec_l1plain.f c=some (plB c):=isPlain_eq c
def plainB (s:ByteArray):Bool:=allB (fun i=>plB (bt s i)) s.size 0
theorem impl_plain_eq (s:ByteArray) (hs:s.size≤140737488351232) (k:Nat) (hk:s.size<k):impl_all__impl_isPlain.f k s=some (plainB s):=by
  unfold impl_all__impl_isPlain.f plainB
  exact all_from (fun k i=>impl_all__impl_isPlain.l0 k s i) s.size (fun i=>plB (bt s i)) 0 (fun k i hi=>by simp only[impl_all__impl_isPlain.l0];rw[if_neg (by omega)])
    (fun k i h0 h1 _=>by
      simp only[impl_all__impl_isPlain.l0]
      rw[if_pos h1,if_pos h0,isPlain_eq,Option.bind_some,wrap_id (by omega) (by omega)]) k (by omega)
theorem spec_plain_eq (s:ByteArray) (hs:s.size≤140737488351232) (k:Nat) (hk:s.size<k):spec_l5plain.f k s=some (plainB s):=by
  unfold spec_l5plain.f plainB
  exact all_from (fun k i=>spec_l5plain.l0 k s i) s.size (fun i=>plB (bt s i)) 0 (fun k i hi=>by simp only[spec_l5plain.l0];rw[if_neg (by omega)])
    (fun k i h0 h1 _=>by
      simp only[spec_l5plain.l0]
      rw[if_pos h1,if_pos h0,l1plain_eq,Option.bind_some,wrap_id (by omega) (by omega)]) k (by omega)

end Go.Proofs.YtonmpnghlopnoaaGreatDoor.P
end

section
/- Plain laws of our own (Fields): about numbers and lists alone; no condition beyond those written. -/
namespace Go.Proofs.YtonmpnghlopnoaaGreatDoor.P
open Go.RowKit Go.Proofs.YtonmpnghlopnoaaGreatDoorW.PrintWords Go.Proofs.YtonmpnghlopnoaaGreatDoorW.PrintLast Go.Proofs.YtonmpnghlopnoaaGreatDoorW.PrintMore
set_option linter.unusedVariables false
set_option linter.unusedSimpArgs false
set_option maxHeartbeats 2000000
def fieldOkB (n v:ByteArray):Bool:=decide (n.size≤40)&&(tokB n&&(decide (v.size≤190)&&(plainB v&&((trimS v).toList==v.toList))))
theorem impl_FieldOk_eq (n v:ByteArray) (k:Nat) (hk:5000<k):impl_FieldOk.f k n v=some (fieldOkB n v):=by
  unfold impl_FieldOk.f fieldOkB
  rw[impl_Token_eq n k hk,Option.bind_some]
  by_cases h1:tokB n=true
  · rw[if_pos h1,h1,Bool.true_and]
    by_cases h2:n.size≤40
    · rw[if_pos (by omega),decide_eq_true h2,Bool.true_and]
      by_cases h3:v.size≤190
      · rw[if_pos (by omega),decide_eq_true h3,Bool.true_and,impl_plain_eq v (by omega) k (by omega),Option.bind_some]
        by_cases h4:plainB v=true
        · rw[if_pos h4,h4,Bool.true_and,impl_Trim_eq v (by omega) k (by omega)];rfl
        · rw[if_neg h4];simp[h4]
      · rw[if_neg (by omega),decide_eq_false h3,Bool.false_and]
    · rw[if_neg (by omega),decide_eq_false h2,Bool.false_and]
  · rw[if_neg h1];simp[h1]
theorem spec_FieldOk_eq (n v:ByteArray) (k:Nat) (hk:5000<k):spec_FieldOk.f k n v=some (fieldOkB n v):=by
  unfold spec_FieldOk.f fieldOkB
  by_cases h2:n.size≤40
  · rw[if_pos (by omega),decide_eq_true h2,Bool.true_and,spec_Token_eq n k hk,Option.bind_some]
    by_cases h1:tokB n=true
    · rw[if_pos h1,h1,Bool.true_and]
      by_cases h3:v.size≤190
      · rw[if_pos (by omega),decide_eq_true h3,Bool.true_and,spec_plain_eq v (by omega) k (by omega),Option.bind_some]
        by_cases h4:plainB v=true
        · rw[if_pos h4,h4,Bool.true_and,spec_Trim_eq v (by omega) k (by omega)];rfl
        · rw[if_neg h4];simp[h4]
      · rw[if_neg (by omega),decide_eq_false h3,Bool.false_and]
    · rw[if_neg h1];simp[h1]
  · rw[if_neg (by omega),decide_eq_false h2,Bool.false_and]
abbrev FieldT := S41
def fieldsOkB (l:List FieldT):Bool:=decide (l.length≤20)&&allB (fun i=>fieldOkB (rd_T41 l i).f0 (rd_T41 l i).f1) l.length 0
theorem impl_FieldsOk_eq (l:List FieldT) (k:Nat) (hk:6000<k):impl_FieldsOk.f k l=some (fieldsOkB l):=by
  unfold impl_FieldsOk.f fieldsOkB
  by_cases h:l.length≤20
  · rw[if_neg (by omega),decide_eq_true h,Bool.true_and]
    exact all_from (fun k i=>impl_FieldsOk.l0 k l (l.length:Int) i) l.length _ 5001 (fun k i hi=>by simp only[impl_FieldsOk.l0];rw[if_neg (by omega)])
      (fun k i h0 h1 hk=>by
        simp only[impl_FieldsOk.l0]
        rw[if_pos h1,if_pos h0,if_pos h1,impl_FieldOk_eq _ _ k (by omega),Option.bind_some,wrap_id (by omega) (by omega)]) k (by omega)
  · rw[if_pos (by omega),decide_eq_false h,Bool.false_and]
theorem spec_FieldsOk_eq (l:List FieldT) (k:Nat) (hk:6000<k):spec_FieldsOk.f k l=some (fieldsOkB l):=by
  unfold spec_FieldsOk.f fieldsOkB
  by_cases h:l.length≤20
  · rw[if_neg (by omega),decide_eq_true h,Bool.true_and]
    exact all_from (fun k i=>spec_FieldsOk.l0 k l i) l.length _ 5001 (fun k i hi=>by simp only[spec_FieldsOk.l0];rw[if_neg (by omega)])
      (fun k i h0 h1 hk=>by
        simp only[spec_FieldsOk.l0]
        rw[if_pos h1,if_pos h0,spec_FieldOk_eq _ _ k (by omega),Option.bind_some,wrap_id (by omega) (by omega)]) k (by omega)
  · rw[if_pos (by omega),decide_eq_false h,Bool.false_and]
theorem fieldsOk_short {l:List FieldT} (h:fieldsOkB l=true):l.length≤20:=by
  unfold fieldsOkB at h
  have:=(Bool.and_eq_true_iff.1 h).1
  exact of_decide_eq_true this
theorem allB_at {p:Int→Bool}:∀(d:Nat) (i:Int),allB p d i=true→∀ j:Nat,j<d→p (i+j)=true:=by
  intro d
  induction d with
  |zero=>intro i _ j hj;omega
  |succ d ih=>
    intro i h j hj
    simp only[allB,Bool.and_eq_true] at h
    cases j with
    |zero=>simpa using h.1
    |succ j=>
      have:=ih (i+1) h.2 j (by omega)
      rw[show i+((j+1:Nat):Int)=i+1+(j:Int) by omega]
      exact this
theorem fieldsOk_name {l:List FieldT} (h:fieldsOkB l=true) (j:Nat) (hj:j<l.length):(rd_T41 l (j:Int)).f0.size≤40∧(rd_T41 l (j:Int)).f1.size≤190:=by
  unfold fieldsOkB at h
  have h2:=allB_at _ _ (Bool.and_eq_true_iff.1 h).2 j hj
  rw[Int.zero_add] at h2
  unfold fieldOkB at h2
  simp only[Bool.and_eq_true] at h2
  exact⟨of_decide_eq_true h2.1,of_decide_eq_true h2.2.2.1⟩
def sameB (a b:ByteArray):Bool:=(foldS a).toList==(foldS b).toList
theorem impl_SameFold_eq (a b:ByteArray) (ha:a.size≤9223372036854775807) (hb:b.size≤9223372036854775807):impl_SameFold.f a b=some (sameB a b):=by
  unfold impl_SameFold.f impl_Fold.f sameB
  rw[if_pos ha,Option.bind_some,if_pos hb,Option.bind_some]
theorem spec_SameFold_eq (a b:ByteArray) (ha:a.size≤9223372036854775807) (hb:b.size≤9223372036854775807):spec_SameFold.f a b=some (sameB a b):=by
  unfold spec_SameFold.f spec_Fold.f sameB
  rw[if_pos ha,Option.bind_some,if_pos hb,Option.bind_some]

end Go.Proofs.YtonmpnghlopnoaaGreatDoor.P
end

section
/- Plain laws of our own (ReadField): about numbers and lists alone; no condition beyond those written. -/
namespace Go.Proofs.YtonmpnghlopnoaaGreatDoor.P
open Go.RowKit Go.Proofs.YtonmpnghlopnoaaGreatDoorW.PrintWords Go.Proofs.YtonmpnghlopnoaaGreatDoorW.PrintLast Go.Proofs.YtonmpnghlopnoaaGreatDoorW.PrintMore
set_option linter.unusedVariables false
set_option linter.unusedSimpArgs false
set_option maxHeartbeats 2000000
theorem indexByte_at_hit (s:ByteArray) (n:Nat) (c:UInt8) (h1:n<s.size) (h2:bt s (n:Int)=(c.toNat:Int)) (h3:∀ m:Nat,m<n→bt s (m:Int)≠(c.toNat:Int)) :
    Lib.indexByte s.data.toList c=(n:Int):=by
  obtain⟨b,hb,hbt⟩:=at_bt h1
  rw[← Lib.indexAny_one]
  refine Lib.indexAny_hit (x:=b) (fun j y hj hy=>?_) hb ?_
  · have:=h3 j hj
    rw[(bt_at hy).2] at this
    have hn:y≠c:=fun e=>this (by rw[e])
    simp[hn]
  · have:b=c:=UInt8.toNat_inj.1 (by omega)
    simp[this]
theorem indexByte_at_none (s:ByteArray) (c:UInt8) (h3:∀ m:Nat,m<s.size→bt s (m:Int)≠(c.toNat:Int)) :
    Lib.indexByte s.data.toList c = -1:=by
  rw[← Lib.indexAny_one]
  refine Lib.indexAny_none (fun j y hj hy=>?_)
  have hq:=bt_at hy
  have:=h3 j hq.1
  rw[hq.2] at this
  have hn:y≠c:=fun e=>this (by rw[e])
  simp[hn]
theorem skip_to2 {α:Type} (F:Nat→Int→Option α) (lo hi:Nat) (step:∀ k (i:Nat),lo≤i→i<hi→F (k+2) (i:Int)=F k ((i+1:Nat):Int)) :
    ∀(d k i:Nat),lo≤i→i+d=hi→F (k+2*d) (i:Int)=F k (hi:Int):=by
  intro d
  induction d with
  |zero=>intro k i _ h;rw[← h];rfl
  |succ d ih=>
    intro k i h0 h
    rw[show k+2*(d+1)=(k+2*d)+2 by omega,step _ i h0 (by omega)]
    exact ih k (i+1) (by omega) (by omega)
abbrev FieldR := ByteArray×ByteArray×Bool
def noFieldR : FieldR:=((⟨#[]⟩:ByteArray),(⟨#[]⟩:ByteArray),false)
def fieldAt (s:ByteArray) (n:Nat):FieldR:=
  if fieldOkB (s.extract 0 n) (trimS (s.extract (n+1) s.size))=true then(s.extract 0 n,trimS (s.extract (n+1) s.size),true) else noFieldR
theorem spec_field_stop (s:ByteArray) (i:Nat) (h:s.size≤i∨41≤i) (k:Nat):spec_ReadField.l0 (k+2) s (i:Int)=some noFieldR:=by
  simp only[spec_ReadField.l0]
  split
  · rw[show decide ((i:Int)≤40)=false from decide_eq_false (by omega)]
    simp only[spec_ReadField.j1]
    rfl
  · simp only[spec_ReadField.j1]
    rfl
theorem spec_field_step (s:ByteArray) (i:Nat) (hs:s.size≤1048576) (h:i<s.size) (h2:i≤40) (hb:bt s (i:Int)≠58) (k:Nat):spec_ReadField.l0 (k+2) s (i:Int)=spec_ReadField.l0 k s ((i+1:Nat):Int):=by
  have hw:=wrap_succ i (by omega)
  simp only[spec_ReadField.l0]
  rw[if_pos (by omega),show decide ((i:Int)≤40)=true from decide_eq_true (by omega)]
  simp only[spec_ReadField.j1]
  rw[if_pos trivial,if_pos (by omega),if_pos (by omega),if_neg hb,hw]
theorem spec_field_hit (s:ByteArray) (i:Nat) (hs:s.size≤1048576) (h:i<s.size) (h2:i≤40) (hb:bt s (i:Int)=58) (k:Nat) (hk:2*s.size+5005<k):spec_ReadField.l0 (k+2) s (i:Int)=some (fieldAt s i):=by
  have hw:=wrap_succ i (by omega)
  have hsz:(s.extract (i+1) s.size).size≤s.size:=by rw[size_extract];omega
  simp only[spec_ReadField.l0]
  rw[if_pos (by omega),show decide ((i:Int)≤40)=true from decide_eq_true (by omega)]
  simp only[spec_ReadField.j1]
  rw[if_pos trivial,if_pos (by omega),if_pos (by omega),if_pos hb,if_pos (by omega),hw,if_pos (by omega),if_pos (by omega)]
  simp only[Int.toNat_natCast]
  rw[spec_Trim_eq _ (by omega) k (by omega),Option.bind_some,spec_FieldOk_eq _ _ k (by omega),Option.bind_some]
  unfold fieldAt noFieldR
  split <;> rfl
theorem impl_field_hit (s:ByteArray) (i:Nat) (hs:s.size≤1048576) (h:i<s.size) (hx:Lib.indexByte s.data.toList 58=(i:Int)) (k:Nat) (hk:2*s.size+5005<k):impl_ReadField.f k s=some (fieldAt s i):=by
  have hw:=wrap_succ i (by omega)
  have hsz:(s.extract (i+1) s.size).size≤s.size:=by rw[size_extract];omega
  have hi:stringslite_Index.f s (⟨#[58]⟩:ByteArray)=some (i:Int):=by unfold stringslite_Index.f;rw[← hx]
  have h1:((⟨#[58]⟩:ByteArray).size:Int)=1:=rfl
  unfold impl_ReadField.f strings_Cut.f stringslite_Cut.f
  rw[hi,Option.bind_some,if_pos (by omega),if_pos (by omega),if_pos (by omega),h1,hw,if_pos (by omega),if_pos (by omega)]
  simp only[Option.bind_some,Int.toNat_natCast]
  rw[impl_Trim_eq _ (by omega) k (by omega),Option.bind_some,if_pos trivial,impl_FieldOk_eq _ _ k (by omega),Option.bind_some]
  unfold fieldAt noFieldR
  split <;> rfl
theorem impl_field_none (s:ByteArray) (hx:Lib.indexByte s.data.toList 58 = -1) (k:Nat) (hk:5005<k):impl_ReadField.f k s=some noFieldR:=by
  have hi:stringslite_Index.f s (⟨#[58]⟩:ByteArray)=some (-1):=by unfold stringslite_Index.f;rw[← hx]
  unfold impl_ReadField.f strings_Cut.f stringslite_Cut.f
  rw[hi,Option.bind_some,if_neg (by decide)]
  simp only[Option.bind_some]
  rw[impl_Trim_eq _ (by decide) k (by show 2*0+3<k;omega),Option.bind_some,if_neg (by decide)]
  rfl
theorem fieldAt_far (s:ByteArray) (n:Nat) (h:n<s.size) (h1:41≤n):fieldAt s n=noFieldR:=by
  have hsz:¬ (s.extract 0 n).size≤40:=by rw[size_extract];omega
  unfold fieldAt fieldOkB
  rw[decide_eq_false hsz,Bool.false_and,if_neg (by decide)]
theorem readField_eq (s:ByteArray) (hs:s.size≤1048576):∃ r:FieldR,∀ k,2*s.size+5200<k→spec_ReadField.f k s=some r∧impl_ReadField.f k s=some r:=by
  have walk:=fun(hi:Nat) (hhi:hi≤s.size) (h41:hi≤41) (hno:∀ m:Nat,m<hi→bt s (m:Int)≠58) (k:Nat)=>
    skip_to2 (fun k i=>spec_ReadField.l0 k s i) 0 hi (fun k i h0 h1=>spec_field_step s i hs (by omega) (by omega) (hno i h1) k) hi k 0 (Nat.le_refl _) (by omega)
  rcases first_or_none (fun n=>decide (bt s (n:Int)=58)) s.size s.size 0 (by omega) with⟨n,h1,h2,h3,h4⟩|h4
  · have h3':bt s (n:Int)=58:=of_decide_eq_true h3
    have h4':∀ m:Nat,m<n→bt s (m:Int)≠58:=fun m m2=>of_decide_eq_false (h4 m (Nat.zero_le _) m2)
    have hx:=indexByte_at_hit s n 58 h2 h3' h4'
    clear h3 h4
    refine⟨fieldAt s n,fun k hk=>⟨?_,impl_field_hit s n hs h2 hx k (by clear h3' hx;omega)⟩⟩
    clear hx
    unfold spec_ReadField.f
    by_cases hn:n≤40
    · obtain⟨q,rfl⟩:∃ q,k=q+2+2*n:=⟨k-2-2*n,by clear h3';omega⟩
      have:=walk n (by clear h3';omega) (by clear h3';omega) h4' (q+2)
      refine this.trans ?_
      exact spec_field_hit s n hs h2 hn h3' q (by clear h3';omega)
    · clear h3'
      obtain⟨q,rfl⟩:∃ q,k=q+2+2*41:=⟨k-2-2*41,by omega⟩
      have:=walk 41 (by omega) (by omega) (fun m hm=>h4' m (by omega)) (q+2)
      refine this.trans ?_
      rw[spec_field_stop s 41 (by omega) q,fieldAt_far s n h2 (by omega)]
  · have h4':∀ m:Nat,m<s.size→bt s (m:Int)≠58:=fun m m2=>of_decide_eq_false (h4 m (Nat.zero_le _) m2)
    have hx:=indexByte_at_none s 58 h4'
    refine⟨noFieldR,fun k hk=>⟨?_,impl_field_none s hx k (by clear hx;omega)⟩⟩
    clear hx
    unfold spec_ReadField.f
    by_cases hn:s.size≤41
    · obtain⟨q,rfl⟩:∃ q,k=q+2+2*s.size:=⟨k-2-2*s.size,by omega⟩
      have:=walk s.size (by omega) hn h4' (q+2)
      refine this.trans ?_
      exact spec_field_stop s s.size (by omega) q
    · obtain⟨q,rfl⟩:∃ q,k=q+2+2*41:=⟨k-2-2*41,by omega⟩
      have:=walk 41 (by omega) (by omega) (fun m hm=>h4' m (by omega)) (q+2)
      refine this.trans ?_
      exact spec_field_stop s 41 (by omega) q

end Go.Proofs.YtonmpnghlopnoaaGreatDoor.P
end

section
/- Plain laws of our own (TakeN): about numbers and lists alone; no condition beyond those written. -/
namespace Go.Proofs.YtonmpnghlopnoaaGreatDoor.P
open Go.RowKit Go.Proofs.YtonmpnghlopnoaaGreatDoorW.PrintWords Go.Proofs.YtonmpnghlopnoaaGreatDoorW.PrintLast Go.Proofs.YtonmpnghlopnoaaGreatDoorW.PrintMore
set_option linter.unusedVariables false
set_option linter.unusedSimpArgs false
set_option maxHeartbeats 2000000
abbrev PieceT := ByteArray×ByteArray×Int×Bool
def noPiece : PieceT:=((⟨#[]⟩:ByteArray),(⟨#[]⟩:ByteArray),0,false)
theorem takeN_eq (s:ByteArray) (hs:s.size≤1048576) (a:Nat) (ha:a≤s.size) (n:Int) (h0:0≤n) (h1:n≤268435456):∃ r:PieceT,
    (spec_TakeN.f s (a:Int) n=some r∧impl_TakeN.f s (a:Int) n=some r)∧(r.2.2.2=false→r=noPiece)∧(r.2.2.2=true→r.2.1=s∧r.2.2.1=(a:Int)+n∧(a:Int)+n≤s.size∧(r.1.size:Int)=n):=by
  have hc1:spec_CurOk.f s (a:Int)=some true:=by unfold spec_CurOk.f;rw[if_pos (by omega)];simp;omega
  have hc2:impl_CurOk.f s (a:Int)=some true:=by unfold impl_CurOk.f;rw[within_eq];simp;omega
  have hw:wrap64 ((s.size:Int)-(a:Int))=(s.size:Int)-(a:Int):=wrap_id (by omega) (by omega)
  have hw2:wrap64 ((a:Int)+n)=(a:Int)+n:=wrap_id (by omega) (by omega)
  by_cases h:n≤(s.size:Int)-(a:Int)
  · refine⟨(s.extract a ((a:Int)+n).toNat,s,(a:Int)+n,true),⟨?_,?_⟩,(fun h=>by cases h),fun _=>⟨rfl,rfl,by omega,?_⟩⟩
    · unfold spec_TakeN.f
      rw[hc1,Option.bind_some,if_pos rfl,if_neg (by omega),hw,if_neg (by omega),if_pos (by omega),hw2,if_pos (by omega),if_pos (by omega)]
      rfl
    · unfold impl_TakeN.f
      rw[hc2,Option.bind_some,if_pos rfl,hw,within_eq,Option.bind_some,if_pos (decide_eq_true (by omega)),if_pos (by omega),hw2,if_pos (by omega),if_pos (by omega)]
      rfl
    · show((s.extract a ((a:Int)+n).toNat).size:Int)=n
      rw[size_extract];omega
  · refine⟨noPiece,⟨?_,?_⟩,fun _=>rfl,(fun h=>by cases h)⟩
    · unfold spec_TakeN.f
      rw[hc1,Option.bind_some,if_pos rfl,if_neg (by omega),hw,if_pos (by omega)]
      rfl
    · unfold impl_TakeN.f
      rw[hc2,Option.bind_some,if_pos rfl,hw,within_eq,Option.bind_some,if_neg (by rw[decide_eq_false (by omega)];decide)]
      rfl
theorem upto_eq (s:ByteArray) (hs:s.size≤1048576):∃ r:ByteArray,∃ q:ByteArray×Bool,r.size≤s.size∧strings_Cut.f s (⟨#[59]⟩:ByteArray)=some (r,q)∧∀ k,s.size+5<k→spec_l6upto.f k s 59=some r:=by
  have skip:=fun(hi:Nat) (hhi:hi≤s.size) (hno:∀ m:Nat,m<hi→bt s (m:Int)≠59) (k:Nat)=>
    skip_to (fun k i=>spec_l6upto.l0 k s 59 i) 0 hi (fun k i h0 h1=>by
      have hw:=wrap_succ i (by omega)
      simp only[spec_l6upto.l0]
      rw[if_pos (by omega),if_pos (by omega),if_neg (hno i h1),hw]) hi k 0 (Nat.le_refl _) (by omega)
  rcases first_or_none (fun n=>decide (bt s (n:Int)=59)) s.size s.size 0 (by omega) with⟨n,h1,h2,h3,h4⟩|h4
  · have h3':bt s (n:Int)=59:=of_decide_eq_true h3
    have h4':∀ m:Nat,m<n→bt s (m:Int)≠59:=fun m m2=>of_decide_eq_false (h4 m (Nat.zero_le _) m2)
    have hx:=indexByte_at_hit s n 59 h2 h3' h4'
    have hi:stringslite_Index.f s (⟨#[59]⟩:ByteArray)=some (n:Int):=by unfold stringslite_Index.f;rw[← hx]
    have hw:=wrap_succ n (by omega)
    have hz:((⟨#[59]⟩:ByteArray).size:Int)=1:=rfl
    refine⟨s.extract 0 n,(s.extract (n+1) s.size,true),by rw[size_extract];omega,?_,fun k hk=>?_⟩
    · unfold strings_Cut.f stringslite_Cut.f
      rw[hi,Option.bind_some,if_pos (by omega),if_pos (by omega),if_pos (by omega),hz,hw,if_pos (by omega),if_pos (by omega)]
      rfl
    · unfold spec_l6upto.f
      obtain⟨q,rfl⟩:=ex_rounds k n (by omega)
      refine(skip n (by omega) h4' (q+1)).trans ?_
      simp only[spec_l6upto.l0]
      rw[if_pos (by omega),if_pos (by omega),if_pos h3',if_pos (by omega)]
      rfl
  · have h4':∀ m:Nat,m<s.size→bt s (m:Int)≠59:=fun m m2=>of_decide_eq_false (h4 m (Nat.zero_le _) m2)
    have hx:=indexByte_at_none s 59 h4'
    have hi:stringslite_Index.f s (⟨#[59]⟩:ByteArray)=some (-1):=by unfold stringslite_Index.f;rw[← hx]
    refine⟨s,((⟨#[]⟩:ByteArray),false),Nat.le_refl _,?_,fun k hk=>?_⟩
    · unfold strings_Cut.f stringslite_Cut.f
      rw[hi,Option.bind_some,if_neg (by decide)]
      rfl
    · unfold spec_l6upto.f
      obtain⟨q,rfl⟩:=ex_rounds k s.size (by omega)
      refine(skip s.size (Nat.le_refl _) h4' (q+1)).trans ?_
      simp only[spec_l6upto.l0]
      rw[if_neg (by omega)]
theorem trailer_loop (T:ByteArray) (hT:T.size≤1048576):∀(d p:Nat),p≤T.size→T.size-p=d→∀ c:Nat,c≤20→∃ r:Bool,∀ k,3*T.size+6000+2*d<k→spec_l6trailer.l0 k (c:Int) T (p:Int)=some r∧impl_trailed.l0 k (c:Int) T (p:Int)=some r:=by
  intro d
  induction d using Nat.strongRecOn with
  |_ d ih=>
    intro p hp hd c hc
    obtain⟨r,hr,hr2⟩:=takeLine_eq T hT p hp
    have hwc:=wrap_succ c (by omega)
    have hF:¬ (false=true):=by decide
    have step:∀(R:Bool) (b:Bool),(r.2.2.2=0→b=decide ((r.1.size:Int)>300))→(r.2.2.2≠0→b=true)→(∀ k,3*T.size+5998+2*d<k→spec_l6trailer.j1 (k+1) (c:Int) r.1 b r.2.1 r.2.2.1=some R∧impl_trailed.j1 (k+1) (c:Int) r.1 b r.2.1 r.2.2.1=some R)→
        ∀ k,3*T.size+6000+2*d<k→spec_l6trailer.l0 k (c:Int) T (p:Int)=some R∧impl_trailed.l0 k (c:Int) T (p:Int)=some R:=by
      intro R b hb1 hb2 hR k hk
      obtain⟨k,rfl⟩:∃ j,k=j+2:=⟨k-2,by omega⟩
      obtain⟨e1,e2⟩:=hr (k+1) (by omega)
      have hR':=hR k (by omega)
      simp only[spec_l6trailer.l0,impl_trailed.l0]
      rw[if_pos (by omega),e1,e2,Option.bind_some,Option.bind_some]
      by_cases h0:r.2.2.2=0
      · rw[if_pos h0,if_pos h0,← hb1 h0];exact hR'
      · rw[if_neg h0,if_neg h0,← hb2 h0];exact hR'
    have bad:∀ b:Bool,b=true→∀ k,spec_l6trailer.j1 (k+1) (c:Int) r.1 b r.2.1 r.2.2.1=some false∧impl_trailed.j1 (k+1) (c:Int) r.1 b r.2.1 r.2.2.1=some false:=by
      intro b hb k
      subst hb
      simp only[spec_l6trailer.j1,impl_trailed.j1]
      exact⟨rfl,rfl⟩
    by_cases h0:r.2.2.2=0
    · by_cases hbig:(r.1.size:Int)>300
      · exact⟨false,step false true (fun _=>(decide_eq_true hbig).symm) (fun h=>absurd h0 h) fun k _=>bad true rfl k⟩
      · obtain⟨hrT,q,hq,hq1,hq2⟩:=hr2 h0
        have st:=fun R=>step R false (fun _=>(decide_eq_false hbig).symm) (fun h=>absurd h0 h)
        by_cases hnil:r.1.toList=([]:List UInt8)
        · refine⟨r.2.2.1==(r.2.1.size:Int),st _ fun k hk=>?_⟩
          simp only[spec_l6trailer.j1,impl_trailed.j1]
          rw[if_neg hF,if_neg hF,if_pos hnil,if_pos hnil]
          exact⟨rfl,rfl⟩
        · obtain⟨f,hf⟩:=readField_eq r.1 (by omega)
          by_cases hok:f.2.2=true
          · by_cases h20:c=20
            · refine⟨false,st _ fun k hk=>?_⟩
              obtain⟨k,rfl⟩:=ex_succ k (by omega)
              simp only[spec_l6trailer.j1,impl_trailed.j1]
              rw[if_neg hF,if_neg hF,if_neg hnil,if_neg hnil,(hf (k+1) (by omega)).1,(hf (k+1) (by omega)).2,Option.bind_some,Option.bind_some,if_pos hok,if_pos hok,if_pos (by omega),hwc]
              simp only[spec_l6trailer.l0]
              rw[if_neg (by omega)]
              constructor <;> first|rfl|trivial
            · obtain⟨R,hR⟩:=ih (T.size-q) (by omega) q hq2 rfl (c+1) (by omega)
              refine⟨R,st _ fun k hk=>?_⟩
              simp only[spec_l6trailer.j1,impl_trailed.j1]
              rw[if_neg hF,if_neg hF,if_neg hnil,if_neg hnil,(hf k (by omega)).1,(hf k (by omega)).2,Option.bind_some,Option.bind_some,if_pos hok,if_pos hok,if_neg (by omega),hwc,hrT,hq]
              exact hR k (by omega)
          · refine⟨false,st _ fun k hk=>?_⟩
            simp only[spec_l6trailer.j1,impl_trailed.j1]
            rw[if_neg hF,if_neg hF,if_neg hnil,if_neg hnil,(hf k (by omega)).1,(hf k (by omega)).2,Option.bind_some,Option.bind_some,if_neg hok,if_neg hok]
            exact⟨rfl,rfl⟩
    · exact⟨false,step false true (fun h=>absurd h h0) (fun _=>rfl) fun k _=>bad true rfl k⟩
theorem trailer_eq (T:ByteArray) (hT:T.size≤1048576) (p:Nat) (hp:p≤T.size):∃ r:Bool,∀ k,5*T.size+6000<k→spec_l6trailer.f k T (p:Int)=some r∧impl_trailed.f k T (p:Int)=some r:=by
  obtain⟨r,hr⟩:=trailer_loop T hT (T.size-p) p hp rfl 0 (by omega)
  exact⟨r,fun k hk=>hr k (by omega)⟩

end Go.Proofs.YtonmpnghlopnoaaGreatDoor.P
end

section
/- Plain laws of our own (Chunks): about numbers and lists alone; no condition beyond those written. -/
namespace Go.Proofs.YtonmpnghlopnoaaGreatDoor.P
open Go.RowKit Go.Proofs.YtonmpnghlopnoaaGreatDoorW.PrintWords Go.Proofs.YtonmpnghlopnoaaGreatDoorW.PrintLast Go.Proofs.YtonmpnghlopnoaaGreatDoorW.PrintMore
set_option linter.unusedVariables false
set_option linter.unusedSimpArgs false
set_option maxHeartbeats 2000000
abbrev BodyT := ByteArray×Int
def noBody (c:Int):BodyT:=((⟨#[]⟩:ByteArray),c)
theorem empty_app (s t:ByteArray):(s++t).size=s.size+t.size:=ByteArray.size_append
theorem chunks_arith (A d m k:Nat) (hm:m+2≤d) (hk:A+19996+3*d<k):A+20000+3*m<k:=by omega
theorem chunks_arith2 (A p d q q2:Nat) (x:Int) (hd:A-p=d) (h1:p<q) (h2:(q:Int)+x=(q2:Int)) (hx:0≤x) (hz:(q2:Int)+2≤A):A-(q2+2)+2≤d:=by omega
theorem chunks_loop (T:ByteArray) (hT:T.size≤1048576):∀(d p:Nat),p≤T.size→T.size-p=d→∀(o:ByteArray),o.size≤600→∃ r:BodyT,(r.2=0→r.1.size≤600)∧
    ∀ k,8*T.size+20000+3*d<k→spec_Chunks.l0 k o T (p:Int)=some r∧impl_Chunks.l0 k o T (p:Int)=some r:=by
  intro d
  induction d using Nat.strongRecOn with
  |_ d ih=>
    intro p hp hd o ho
    obtain⟨r,hr,hr2⟩:=takeLine_eq T hT p hp
    have hF:¬ (false=true):=by decide
    have step:∀(R:BodyT) (b:Bool),(r.2.2.2=0→b=decide ((r.1.size:Int)>300))→(r.2.2.2≠0→b=true)→(∀ k,8*T.size+19998+3*d<k→spec_Chunks.j1 (k+1) o r.1 b r.2.1 r.2.2.1=some R∧impl_Chunks.j1 (k+1) o r.1 b r.2.1 r.2.2.1=some R)→
        ∀ k,8*T.size+20000+3*d<k→spec_Chunks.l0 k o T (p:Int)=some R∧impl_Chunks.l0 k o T (p:Int)=some R:=by
      intro R b hb1 hb2 hR k hk
      obtain⟨k,rfl⟩:∃ j,k=j+2:=⟨k-2,by omega⟩
      obtain⟨e1,e2⟩:=hr (k+1) (by omega)
      have hR':=hR k (by omega)
      simp only[spec_Chunks.l0,impl_Chunks.l0]
      rw[e1,e2,Option.bind_some,Option.bind_some]
      by_cases h0:r.2.2.2=0
      · rw[if_pos h0,if_pos h0,← hb1 h0];exact hR'
      · rw[if_neg h0,if_neg h0,← hb2 h0];exact hR'
    have bad:∀ b:Bool,b=true→∀ k,spec_Chunks.j1 (k+1) o r.1 b r.2.1 r.2.2.1=some (noBody 400)∧impl_Chunks.j1 (k+1) o r.1 b r.2.1 r.2.2.1=some (noBody 400):=by
      intro b hb k
      subst hb
      simp only[spec_Chunks.j1,impl_Chunks.j1]
      exact⟨rfl,rfl⟩
    by_cases h0:r.2.2.2=0
    case neg=>exact⟨noBody 400,(fun h=>by cases h),step _ true (fun h=>absurd h h0) (fun _=>rfl) fun k _=>bad true rfl k⟩
    by_cases hbig:(r.1.size:Int)>300
    · exact⟨noBody 400,(fun h=>by cases h),step _ true (fun _=>(decide_eq_true hbig).symm) (fun h=>absurd h0 h) fun k _=>bad true rfl k⟩
    obtain⟨hrT,q,hq,hq1,hq2⟩:=hr2 h0
    have st:=fun R=>step R false (fun _=>(decide_eq_false hbig).symm) (fun h=>absurd h0 h)
    clear step bad
    obtain⟨w,wq,hw1,hw2,hw3⟩:=upto_eq r.1 (by omega)
    obtain⟨x,hx1,hx2⟩:=readHex_eq w
    rw[hrT,hq] at st
    -- both sides behind the size
    have spec1:∀ k,5*T.size+6000<k→spec_Chunks.j1 (k+1) o r.1 false T (q:Int)=if x.2=true then(if x.1>(wrap64 (600-(o.size:Int))) then some (noBody 413) else(if x.1=0 then((spec_l6trailer.f k T (q:Int)).bind fun t=>if t=true then some (o,0) else some (noBody 400)) else
        ((spec_TakeN.f T (q:Int) x.1).bind fun b1=>if b1.2.2.2=true then((spec_TakeN.f b1.2.1 b1.2.2.1 2).bind fun b2=>if b2.2.2.2=true then(if b2.1.toList=([13,10]:List UInt8) then(if o.size+b1.1.size≤9223372036854775807 then spec_Chunks.l0 k (o++b1.1) b2.2.1 b2.2.2.1 else none) else some (noBody 400)) else some (noBody 400)) else some (noBody 400)))) else some (noBody 400):=by
      intro k hk
      simp only[spec_Chunks.j1]
      rw[if_neg hF,hw3 k (by omega),Option.bind_some,(hx2 k (by omega)).1,Option.bind_some]
      rfl
    have impl1:∀ k,5*T.size+6000<k→impl_Chunks.j1 (k+1) o r.1 false T (q:Int)=if x.2=true then(if(wrap64 ((o.size:Int)+x.1))>600 then some (noBody 413) else(if x.1=0 then((impl_trailed.f k T (q:Int)).bind fun t=>impl_Chunks.j2 k o x.1 (!t) T (q:Int)) else impl_Chunks.j2 k o x.1 false T (q:Int))) else some (noBody 400):=by
      intro k hk
      simp only[impl_Chunks.j1]
      rw[if_neg hF,hw2,Option.bind_some,(hx2 k (by omega)).2,Option.bind_some]
      rfl
    by_cases hok:x.2=true
    case neg=>
      refine⟨noBody 400,(fun h=>by cases h),st _ fun k hk=>?_⟩
      rw[spec1 k (by omega),impl1 k (by omega),if_neg hok,if_neg hok]
      exact⟨rfl,rfl⟩
    obtain⟨hn0,hn1⟩:=hx1 hok
    have hwa:wrap64 (600-(o.size:Int))=600-(o.size:Int):=wrap_id (by omega) (by omega)
    have hwb:wrap64 ((o.size:Int)+x.1)=(o.size:Int)+x.1:=wrap_id (by omega) (by omega)
    rw[hwa] at spec1
    rw[hwb] at impl1
    by_cases hl:(o.size:Int)+x.1>600
    · refine⟨noBody 413,(fun h=>by cases h),st _ fun k hk=>?_⟩
      rw[spec1 k (by omega),impl1 k (by omega),if_pos hok,if_pos hok,if_pos (by omega),if_pos hl]
      exact⟨rfl,rfl⟩
    by_cases hz:x.1=0
    · obtain⟨t,ht⟩:=trailer_eq T hT q hq2
      refine⟨if t=true then(o,0) else noBody 400,?_,st _ fun k hk=>?_⟩
      · cases t with
        |true=>exact fun _=>ho
        |false=>intro h;cases h
      · obtain⟨k,rfl⟩:=ex_succ k (by omega)
        rw[spec1 (k+1) (by omega),impl1 (k+1) (by omega),if_pos hok,if_pos hok,if_neg (by omega),if_neg hl,if_pos hz,if_pos hz,(ht (k+1) (by omega)).1,(ht (k+1) (by omega)).2,Option.bind_some,Option.bind_some]
        simp only[impl_Chunks.j2]
        cases t with
        |true=>rw[if_neg (show ¬ ((!true)=true) by decide),if_pos hz];exact⟨rfl,rfl⟩
        |false=>exact⟨rfl,rfl⟩
    -- a chunk
    obtain⟨b1,⟨hb1s,hb1i⟩,hb1n,hb1y⟩:=takeN_eq T hT q hq2 x.1 hn0 (by omega)
    have implj2:∀ k,5*T.size+6000<k→impl_Chunks.j1 (k+2) o r.1 false T (q:Int)=((impl_TakeN.f b1.2.1 b1.2.2.1 2).bind fun b2=>if b1.2.2.2=true then(if b2.2.2.2=true then(if b2.1.toList=([13,10]:List UInt8) then(if o.size+b1.1.size≤9223372036854775807 then impl_Chunks.l0 k (o++b1.1) b2.2.1 b2.2.2.1 else none) else some (noBody 400)) else some (noBody 400)) else some (noBody 400)):=by
      intro k hk
      rw[show k+2=(k+1)+1 from rfl,impl1 (k+1) (by omega),if_pos hok,if_neg hl,if_neg hz]
      simp only[impl_Chunks.j2]
      rw[if_neg hF,if_neg hz,hb1i,Option.bind_some]
      rfl
    by_cases hy:b1.2.2.2=true
    case neg=>
      have hn:=hb1n (by simpa using hy)
      refine⟨noBody 400,(fun h=>by cases h),st _ fun k hk=>?_⟩
      obtain⟨k,rfl⟩:=ex_succ k (by omega)
      rw[spec1 (k+1) (by omega),implj2 k (by omega),if_pos hok,if_neg (by omega),if_neg hz,hb1s,Option.bind_some,if_neg hy,hn]
      have h2:∃ b2,impl_TakeN.f noPiece.2.1 noPiece.2.2.1 2=some b2:=by
        obtain⟨b2,⟨_,e⟩,_⟩:=takeN_eq (⟨#[]⟩:ByteArray) (by decide) 0 (by decide) 2 (by decide) (by decide)
        exact⟨b2,e⟩
      obtain⟨b2,e2⟩:=h2
      rw[e2,Option.bind_some]
      exact⟨rfl,rfl⟩
    obtain⟨y1,y2,y3,y4⟩:=hb1y hy
    obtain⟨q2,hq2'⟩:∃ q2:Nat,(q:Int)+x.1=(q2:Int):=⟨((q:Int)+x.1).toNat,by omega⟩
    rw[y1,y2,hq2'] at implj2
    have spec2:∀ k,5*T.size+6000<k→spec_Chunks.j1 (k+2) o r.1 false T (q:Int)=((spec_TakeN.f T (q2:Int) 2).bind fun b2=>if b2.2.2.2=true then(if b2.1.toList=([13,10]:List UInt8) then(if o.size+b1.1.size≤9223372036854775807 then spec_Chunks.l0 (k+1) (o++b1.1) b2.2.1 b2.2.2.1 else none) else some (noBody 400)) else some (noBody 400)):=by
      intro k hk
      rw[show k+2=(k+1)+1 from rfl,spec1 (k+1) (by omega),if_pos hok,if_neg (by omega),if_neg hz,hb1s,Option.bind_some,if_pos hy,y1,y2,hq2']
    obtain⟨b2,⟨hb2s,hb2i⟩,hb2n,hb2y⟩:=takeN_eq T hT q2 (by omega) 2 (by decide) (by decide)
    have fin:∀ R:BodyT,(∀ k,8*T.size+19996+3*d<k→(if b2.2.2.2=true then(if b2.1.toList=([13,10]:List UInt8) then(if o.size+b1.1.size≤9223372036854775807 then spec_Chunks.l0 (k+1) (o++b1.1) b2.2.1 b2.2.2.1 else none) else some (noBody 400)) else some (noBody 400))=some R∧
        (if b2.2.2.2=true then(if b2.1.toList=([13,10]:List UInt8) then(if o.size+b1.1.size≤9223372036854775807 then impl_Chunks.l0 k (o++b1.1) b2.2.1 b2.2.2.1 else none) else some (noBody 400)) else some (noBody 400))=some R)→
        ∀ k,8*T.size+20000+3*d<k→spec_Chunks.l0 k o T (p:Int)=some R∧impl_Chunks.l0 k o T (p:Int)=some R:=by
      intro R hR
      refine st R fun k hk=>?_
      obtain⟨k,rfl⟩:=ex_succ k (by omega)
      rw[spec2 k (by omega),implj2 k (by omega),hb2s,hb2i,Option.bind_some,Option.bind_some,if_pos hy]
      exact hR k (by omega)
    by_cases h2:b2.2.2.2=true
    case neg=>
      refine⟨noBody 400,(fun h=>by cases h),fin _ fun k hk=>?_⟩
      rw[if_neg h2,if_neg h2]
      exact⟨rfl,rfl⟩
    by_cases hcr:b2.1.toList=([13,10]:List UInt8)
    case neg=>
      refine⟨noBody 400,(fun h=>by cases h),fin _ fun k hk=>?_⟩
      rw[if_pos h2,if_pos h2,if_neg hcr,if_neg hcr]
      exact⟨rfl,rfl⟩
    obtain⟨z1,z2,z3,z4⟩:=hb2y h2
    obtain⟨R,hR1,hR2⟩:=ih (T.size-(q2+2)) (by omega) (q2+2) (by omega) rfl (o++b1.1) (by rw[empty_app];omega)
    have hm9:T.size-(q2+2)+2≤d:=chunks_arith2 T.size p d q q2 x.1 hd hq1 hq2' hn0 z3
    have hs9:o.size+b1.1.size≤9223372036854775807:=by omega
    refine⟨R,hR1,fin _ fun k hk=>?_⟩
    rw[if_pos h2,if_pos h2,if_pos hcr,if_pos hcr,if_pos hs9,if_pos hs9,z1,z2]
    exact⟨(hR2 (k+1) (Nat.lt_succ_of_lt (chunks_arith _ _ _ _ hm9 hk))).1,(hR2 k (chunks_arith _ _ _ _ hm9 hk)).2⟩
theorem chunks_eq (T:ByteArray) (hT:T.size≤1048576):∃ r:BodyT,(r.2=0→r.1.size≤600)∧∀ k,11*T.size+20000<k→spec_Chunks.f k T=some r∧impl_Chunks.f k T=some r:=by
  obtain⟨r,h1,h2⟩:=chunks_loop T hT T.size 0 (Nat.zero_le _) (by omega) (⟨#[]⟩:ByteArray) (by decide)
  exact⟨r,h1,fun k hk=>h2 k (by omega)⟩

end Go.Proofs.YtonmpnghlopnoaaGreatDoor.P
end

section
/- Plain laws of our own (DecText): about numbers and lists alone; no condition beyond those written. -/
namespace Go.Proofs.YtonmpnghlopnoaaGreatDoor.P
open Go.RowKit Go.Proofs.YtonmpnghlopnoaaGreatDoorW.PrintWords Go.Proofs.YtonmpnghlopnoaaGreatDoorW.PrintLast Go.Proofs.YtonmpnghlopnoaaGreatDoorW.PrintMore
set_option linter.unusedVariables false
set_option linter.unusedSimpArgs false
set_option maxHeartbeats 2000000
theorem one_digit (x:Nat) (hx:x<10):strOfNums [(wrap64 (48+(x:Int)))%256]=(⟨#[UInt8.ofNat (48+x)]⟩:ByteArray):=by
  rw[wrap_id (by omega) (by omega)]
  unfold strOfNums
  have e:((48+(x:Int))%256).toNat=48+x:=by omega
  simp[e]
theorem spec_dec : ∀(d u:Nat),u<10 ^ (d+1)→u≤999999999999999→d≤20→∀ k,2*d+2≤k→spec_DecText.f k (u:Int)=some ⟨(Lib.decDigits u).toArray⟩:=by
  intro d
  induction d with
  |zero=>
    intro u hu hu2 hd k hk
    obtain⟨k,rfl⟩:∃ m,k=m+2:=⟨k-2,by omega⟩
    have h10:u<10:=by simpa using hu
    rw[spec_DecText.f.eq_def]
    dsimp only
    rw[if_neg (by omega),decide_eq_false (by omega),spec_DecText.j0.eq_def]
    dsimp only
    rw[if_neg (by decide),if_pos (by omega),one_digit u h10,Lib.decDigits_one h10]
  |succ d ih=>
    intro u hu hu2 hd k hk
    obtain⟨k,rfl⟩:∃ m,k=m+2:=⟨k-2,by omega⟩
    rw[spec_DecText.f.eq_def]
    dsimp only
    rw[if_neg (by omega),decide_eq_false (by omega),spec_DecText.j0.eq_def]
    dsimp only
    rw[if_neg (by decide)]
    by_cases h10:u<10
    · rw[if_pos (by omega),one_digit u h10,Lib.decDigits_one h10]
    · have e1:wrap64 (Int.tdiv (u:Int) 10)=((u / 10:Nat):Int):=by
        have:Int.tdiv (u:Int) 10=((u / 10:Nat):Int):=rfl
        rw[this,wrap_id (by omega) (by omega)]
      have e2:Int.tmod (u:Int) 10=((u%10:Nat):Int):=rfl
      have hq:u / 10<10 ^ (d+1):=by
        rw[Nat.pow_succ] at hu
        omega
      rw[if_neg (by omega),e1,ih (u / 10) hq (by omega) (by omega) k (by omega),Option.bind_some,Option.bind_some,e2,one_digit (u%10) (by omega)]
      have hl:(Lib.decDigits (u / 10)).length≤21:=by
        have h1:=Lib.itoa_length_le ((u / 10:Nat):Int) (by omega) (by omega)
        unfold Lib.itoa at h1
        rw[if_neg (by omega),Int.toNat_natCast] at h1
        exact h1
      have hs1:(⟨(Lib.decDigits (u / 10)).toArray⟩:ByteArray).size≤21:=by simpa [ByteArray.size] using hl
      have hs2:(⟨#[UInt8.ofNat (48+u%10)]⟩:ByteArray).size=1:=rfl
      have e3:Lib.decDigits u=Lib.decDigits (u / 10) ++ [UInt8.ofNat (48+u%10)]:=by rw[Lib.decDigits,dif_neg h10]
      rw[if_pos (by omega),e3]
      congr 1
theorem spec_DecText_eq (n:Int) (h0:0≤n) (h1:n≤999999999999999) (k:Nat) (hk:100≤k):spec_DecText.f k n=some (itoaT n):=by
  obtain⟨u,rfl⟩:=Int.eq_ofNat_of_zero_le h0
  rw[spec_dec 15 u (by omega) (by omega) (by decide) k (by omega)]
  unfold itoaT Lib.itoa
  rw[if_neg (by omega),Int.toNat_natCast]

end Go.Proofs.YtonmpnghlopnoaaGreatDoor.P
end

section
/- Plain laws of our own (Status): about numbers and lists alone; no condition beyond those written. -/
namespace Go.Proofs.YtonmpnghlopnoaaGreatDoor.P
open Go.RowKit Go.Proofs.YtonmpnghlopnoaaGreatDoorW.PrintWords Go.Proofs.YtonmpnghlopnoaaGreatDoorW.PrintLast Go.Proofs.YtonmpnghlopnoaaGreatDoorW.PrintMore
set_option linter.unusedVariables false
set_option linter.unusedSimpArgs false
set_option maxHeartbeats 2000000
def dg (u:UInt8):Bool:=decide (48≤u.toNat∧u.toNat≤57)
def dd (a:Fin 10):UInt8:=UInt8.ofNat (48+a.val)
theorem dg_dd {u:UInt8} (h:dg u=true):∃ a:Fin 10,u=dd a:=by
  have h1:=of_decide_eq_true h
  refine⟨⟨u.toNat-48,by omega⟩,?_⟩
  unfold dd
  apply UInt8.toNat_inj.1
  simp only[UInt8.toNat_ofNat']
  omega
theorem spec_digit_eq (u:UInt8):spec_l1digit.f (u.toNat:Int)=some (dg u):=by
  unfold spec_l1digit.f dg
  split
  · congr 1;apply decide_eq_decide.2;omega
  · congr 1;exact(decide_eq_false (by omega)).symm
theorem impl_digit_eq (u:UInt8):impl_isDigit.f (u.toNat:Int)=some (dg u):=by
  unfold impl_isDigit.f dg
  split
  · congr 1;apply decide_eq_decide.2;omega
  · congr 1;exact(decide_eq_false (by omega)).symm
theorem w3_0 : wrap64 (0+1)=1:=by unfold wrap64;omega
theorem w3_1 : wrap64 (1+1)=2:=by unfold wrap64;omega
theorem w3_2 : wrap64 (2+1)=3:=by unfold wrap64;omega
theorem bt3_0 (u0 u1 u2:UInt8):bt (⟨#[u0,u1,u2]⟩:ByteArray) 0=(u0.toNat:Int):=rfl
theorem bt3_1 (u0 u1 u2:UInt8):bt (⟨#[u0,u1,u2]⟩:ByteArray) 1=(u1.toNat:Int):=rfl
theorem bt3_2 (u0 u1 u2:UInt8):bt (⟨#[u0,u1,u2]⟩:ByteArray) 2=(u2.toNat:Int):=rfl
theorem sz3 (u0 u1 u2:UInt8):((⟨#[u0,u1,u2]⟩:ByteArray).size:Int)=3:=rfl
theorem impl_digits3 (u0 u1 u2:UInt8) (k:Nat):impl_all__impl_isDigit.f (k+4) ⟨#[u0,u1,u2]⟩=some (dg u0&&(dg u1&&dg u2)):=by
  unfold impl_all__impl_isDigit.f
  simp only[impl_all__impl_isDigit.l0,sz3,w3_0,w3_1,w3_2,bt3_0,bt3_1,bt3_2,impl_digit_eq,Option.bind_some,
    show((0:Int)<3)=True from eq_true (by decide),show((1:Int)<3)=True from eq_true (by decide),show((2:Int)<3)=True from eq_true (by decide),show((3:Int)<3)=False from eq_false (by decide),
    show((0:Int)≤0)=True from eq_true (by decide),show((0:Int)≤1)=True from eq_true (by decide),show((0:Int)≤2)=True from eq_true (by decide),if_true,if_false]
  cases dg u0 <;> cases dg u1 <;> cases dg u2 <;> rfl
theorem readDec3_no (u0 u1 u2:UInt8) (h:(dg u0&&(dg u1&&dg u2))=false) (k:Nat):spec_ReadDec.f (k+5) ⟨#[u0,u1,u2]⟩=some (0,false):=by
  unfold spec_ReadDec.f
  rw[sz3,if_neg (by decide),show decide ((3:Int)>15)=false from rfl]
  simp only[spec_ReadDec.j0]
  rw[if_neg (by decide)]
  simp only[spec_ReadDec.l0,sz3,w3_0,w3_1,w3_2,bt3_0,bt3_1,bt3_2,spec_digit_eq,Option.bind_some,
    show((0:Int)<3)=True from eq_true (by decide),show((1:Int)<3)=True from eq_true (by decide),show((2:Int)<3)=True from eq_true (by decide),show((3:Int)<3)=False from eq_false (by decide),
    show((0:Int)≤0)=True from eq_true (by decide),show((0:Int)≤1)=True from eq_true (by decide),show((0:Int)≤2)=True from eq_true (by decide),if_true,if_false]
  revert h
  cases dg u0 <;> cases dg u1 <;> cases dg u2 <;> intro h <;> first|rfl|cases h
def val3 (a b c:Fin 10):Int:=((100*a.val+10*b.val+c.val:Nat):Int)
def txt3 (a b c:Fin 10):ByteArray:=⟨#[dd a,dd b,dd c]⟩
def dec3B (a b c:Fin 10):Bool:=match spec_ReadDec.f 14 (txt3 a b c) with
  |some r=>if 2≤a.val then r.1==val3 a b c&&r.2 else !r.2||r.1==val3 a b c
  |none=>false
theorem dec3_all : ∀ a b c:Fin 10,dec3B a b c=true:=by decide +kernel
theorem atoi3_all : ∀ a b c:Fin 10,(strconv_Atoi_38.f (txt3 a b c)==some (val3 a b c,none))=true:=by decide +kernel
theorem readDec3_yes (a b c:Fin 10):∃ r:Int×Bool,(∀ k,14≤k→spec_ReadDec.f k (txt3 a b c)=some r)∧(2≤a.val→r=(val3 a b c,true))∧(r.2=true→r.1=val3 a b c):=by
  have h:=dec3_all a b c
  unfold dec3B at h
  cases hr:spec_ReadDec.f 14 (txt3 a b c) with
  |none=>rw[hr] at h;cases h
  |some r=>
    rw[hr] at h
    simp only at h
    refine⟨r,fun k hk=>at_rounds (g:=fun k=>spec_ReadDec.f k (txt3 a b c)) (fun k=>spec_ReadDec.mono (txt3 a b c) k) hk hr,fun h2=>?_,fun h2=>?_⟩
    · rw[if_pos h2,Bool.and_eq_true] at h
      exact Prod.ext (beq_iff_eq.1 h.1) h.2
    · split at h
      · exact beq_iff_eq.1 (Bool.and_eq_true_iff.1 h).1
      · rw[h2] at h;simpa using h
theorem three_bytes {x:ByteArray} (h:x.size=3):∃ u0 u1 u2:UInt8,x=⟨#[u0,u1,u2]⟩:=by
  obtain⟨⟨l⟩⟩:=x
  have h1:l.length=3:=h
  match l,h1 with
  |[u0,u1,u2],_=>exact⟨u0,u1,u2,rfl⟩
abbrev FirstR := ByteArray×ByteArray×Int×ByteArray×Bool×(List (S41))×ByteArray×Bool
def noFirst : FirstR:=((⟨#[]⟩:ByteArray),(⟨#[]⟩:ByteArray),0,(⟨#[]⟩:ByteArray),false,[],(⟨#[]⟩:ByteArray),false)
def mkStatus (v:Int) (t:ByteArray) (ok:Bool):FirstR:=((⟨#[]⟩:ByteArray),(⟨#[]⟩:ByteArray),v,t,false,[],(⟨#[]⟩:ByteArray),ok)
def stB (v:Int) (t:ByteArray):Bool:=decide (200≤v∧v≤599)&&(decide (t.size≤40)&&plainB t)
theorem spec_status_j0 (s:ByteArray) (hs:s.size≤1048576) (h13:13≤s.size) (r:Int×Bool) (k:Nat) (hk:s.size+20<k) (hr:spec_ReadDec.f k (s.extract 9 12)=some r) :
    spec_l6status.j0 (k+1) s false=some (mkStatus r.1 (s.extract 13 s.size) (r.2&&stB r.1 (s.extract 13 s.size))):=by
  have hsz:(s.extract 13 s.size).size≤s.size:=by rw[size_extract];omega
  generalize hy:s.extract 13 s.size=y at hsz ⊢
  simp only[spec_l6status.j0]
  rw[if_neg (by decide),if_pos (by decide),if_pos (by omega),hr,Option.bind_some,if_pos (by omega),hy]
  unfold stB mkStatus
  obtain⟨v,ok⟩:=r
  simp only
  cases ok with
  |false=>rw[if_neg (by decide),Bool.false_and]
  |true=>
    rw[if_pos rfl,Bool.true_and]
    by_cases h1:200≤v
    · rw[if_pos h1]
      by_cases h2:v≤599
      · rw[if_pos h2,decide_eq_true (And.intro h1 h2),Bool.true_and]
        by_cases h3:y.size≤40
        · rw[if_pos (by omega),decide_eq_true h3,Bool.true_and,spec_plain_eq y (by omega) k (by omega),Option.bind_some]
        · rw[if_neg (by omega),decide_eq_false h3,Bool.false_and]
      · rw[if_neg h2,decide_eq_false (fun h=>h2 h.2),Bool.false_and]
    · rw[if_neg h1,decide_eq_false (fun h=>h1 h.1),Bool.false_and]
theorem impl_status_j0 (s x:ByteArray) (hs:s.size≤1048576) (h13:4≤s.size) (v:Int) (k:Nat) (hk:s.size+20<k) (hx:s.extract 0 3=x) (hr:strconv_Atoi_38.f x=some (v,none)) :
    impl_readFirst.j0 (k+1) s false=some (mkStatus v (s.extract 4 s.size) (stB v (s.extract 4 s.size))):=by
  have hsz:(s.extract 4 s.size).size≤s.size:=by rw[size_extract];omega
  generalize hy:s.extract 4 s.size=y at hsz ⊢
  simp only[impl_readFirst.j0]
  rw[if_neg (by decide),if_pos (by decide),if_pos (by omega),hx,hr,Option.bind_some,if_pos (by omega),hy]
  unfold stB mkStatus impl_isStatus.f
  rw[within_eq,Option.bind_some,Option.bind_some]
  by_cases h1:200≤v∧v≤599
  · rw[if_pos (decide_eq_true h1),decide_eq_true h1,Bool.true_and]
    unfold impl_isReason.f
    by_cases h3:y.size≤40
    · rw[if_pos (by omega),decide_eq_true h3,Bool.true_and,impl_plain_eq y (by omega) k (by omega)];rfl
    · rw[if_neg (by omega),decide_eq_false h3,Bool.false_and];rfl
  · rw[if_neg (by rw[decide_eq_false h1];decide),decide_eq_false h1,Bool.false_and]
def pfxS : List UInt8:=[72,84,84,80,47,49,46,49,32]
theorem cutPfx_yes (s:ByteArray) (h:9≤s.size) (hp:(s.extract 0 9).toList=pfxS):strings_CutPrefix.f s (⟨#[72,84,84,80,47,49,46,49,32]⟩:ByteArray)=some (s.extract 9 s.size,true):=by
  have hz:((⟨#[72,84,84,80,47,49,46,49,32]⟩:ByteArray).size:Int)=9:=rfl
  have hl:(⟨#[72,84,84,80,47,49,46,49,32]⟩:ByteArray).toList=pfxS:=by decide +kernel
  unfold strings_CutPrefix.f stringslite_CutPrefix.f stringslite_HasPrefix.f
  rw[hz,if_pos (by omega),if_pos (by decide),if_pos (by omega),hl]
  simp only[show(9:Int).toNat=9 from rfl]
  rw[hp,show(pfxS==pfxS)=true from by decide,Option.bind_some,if_pos rfl,if_pos (by omega),if_pos (by omega)]
  rfl
theorem cutPfx_no (s:ByteArray) (hp:¬ (9≤s.size∧(s.extract 0 9).toList=pfxS)):strings_CutPrefix.f s (⟨#[72,84,84,80,47,49,46,49,32]⟩:ByteArray)=some (s,false):=by
  have hz:((⟨#[72,84,84,80,47,49,46,49,32]⟩:ByteArray).size:Int)=9:=rfl
  have hl:(⟨#[72,84,84,80,47,49,46,49,32]⟩:ByteArray).toList=pfxS:=by decide +kernel
  unfold strings_CutPrefix.f stringslite_CutPrefix.f stringslite_HasPrefix.f
  rw[hz]
  by_cases h:9≤s.size
  · have hp':(s.extract 0 9).toList≠pfxS:=fun e=>hp ⟨h,e⟩
    rw[if_pos (by omega),if_pos (by decide),if_pos (by omega),hl]
    simp only[show(9:Int).toNat=9 from rfl]
    rw[show((s.extract 0 9).toList==pfxS)=false from beq_eq_false_iff_ne.2 hp',Option.bind_some,if_neg (by decide)]
    rfl
  · rw[if_neg (by omega)]
    rfl
theorem impl_first_no (k:Nat) (s:ByteArray):impl_readFirst.j0 (k+1) s true=some noFirst:=by
  simp only[impl_readFirst.j0]
  rfl
theorem spec_first_no (k:Nat) (s:ByteArray):spec_l6status.j0 (k+1) s true=some noFirst:=by
  simp only[spec_l6status.j0]
  rfl
theorem status_eq (s:ByteArray) (hs:s.size≤1048576):∃ r r':FirstR,(∀ k,s.size+40<k→spec_l6status.f k s=some r∧impl_readFirst.f k s true=some r')∧
    r.2.2.2.2.2.2.2=r'.2.2.2.2.2.2.2∧(r.2.2.2.2.2.2.2=true→r=r'∧r.2.2.2.2.2.1 = []):=by
  by_cases hp:9≤s.size∧(s.extract 0 9).toList=pfxS
  · have hcut:=cutPfx_yes s hp.1 hp.2
    have hp2:(s.extract 0 9).toList=([72,84,84,80,47,49,46,49,32]:List UInt8):=hp.2
    have hrs:(s.extract 9 s.size).size=s.size-9:=by rw[size_extract];omega
    by_cases h13:s.size<13
    · refine⟨noFirst,noFirst,fun k hk=>?_,rfl,fun h=>absurd h (by decide)⟩
      obtain⟨q,rfl⟩:=ex_succ k (by omega)
      unfold spec_l6status.f impl_readFirst.f
      rw[if_pos (by omega),if_pos rfl,hcut,Option.bind_some,if_pos rfl]
      simp only
      rw[if_pos (by omega)]
      exact⟨spec_first_no q s,impl_first_no q _⟩
    · have hb:bt (s.extract 9 s.size) 3=bt s 12:=by rw[bt_extract _ _ _ _ (by decide) (by omega) (by omega)];rfl
      by_cases h32:bt s 12=32
      · obtain⟨u0,u1,u2,hx⟩:=three_bytes (x:=s.extract 9 12) (by rw[size_extract];omega)
        have hx':(s.extract 9 s.size).extract 0 3=⟨#[u0,u1,u2]⟩:=by rw[ext_ext _ _ _ _ _ (by omega)];exact hx
        have hy':(s.extract 9 s.size).extract 4 (s.extract 9 s.size).size=s.extract 13 s.size:=by
          rw[hrs,ext_ext _ _ _ _ _ (by omega),show 9+(s.size-9)=s.size by omega]
        have hspec:∀ k,spec_l6status.f k s=spec_l6status.j0 k s false:=fun k=>by
          unfold spec_l6status.f
          rw[if_neg (by omega),if_pos (by decide),if_pos (by omega),if_pos hp2,if_pos (by omega),h32]
          rfl
        have himpl:∀ k,impl_readFirst.f (k+4) s true=impl_readFirst.j0 (k+4) (s.extract 9 s.size) (!(dg u0&&(dg u1&&dg u2))):=fun k=>by
          unfold impl_readFirst.f
          rw[if_pos rfl,hcut,Option.bind_some,if_pos rfl]
          simp only
          rw[if_neg (by omega),if_pos (by omega),hb,if_pos h32,if_pos (by decide),if_pos (by omega),hx',impl_digits3,Option.bind_some]
        cases hdg:(dg u0&&(dg u1&&dg u2)) with
        |false=>
          refine⟨mkStatus 0 (s.extract 13 s.size) false,noFirst,fun k hk=>?_,rfl,fun h=>absurd (show false=true from h) (by decide)⟩
          obtain⟨q,rfl⟩:∃ q,k=q+5+1:=⟨k-6,by omega⟩
          rw[hspec,spec_status_j0 s hs (by omega) (0,false) (q+5) (by omega) (by rw[hx];exact readDec3_no u0 u1 u2 hdg q)]
          refine⟨rfl,?_⟩
          rw[show q+5+1=(q+2)+4 by omega,himpl,hdg]
          exact impl_first_no _ _
        |true=>
          obtain⟨hd0,hd1,hd2⟩:dg u0=true∧dg u1=true∧dg u2=true:=by simpa using hdg
          obtain⟨a,rfl⟩:=dg_dd hd0
          obtain⟨b,rfl⟩:=dg_dd hd1
          obtain⟨c,rfl⟩:=dg_dd hd2
          obtain⟨r,hr1,hr2,hr3⟩:=readDec3_yes a b c
          have hat:strconv_Atoi_38.f (txt3 a b c)=some (val3 a b c,none):=by simpa using atoi3_all a b c
          refine⟨mkStatus r.1 (s.extract 13 s.size) (r.2&&stB r.1 (s.extract 13 s.size)),mkStatus (val3 a b c) (s.extract 13 s.size) (stB (val3 a b c) (s.extract 13 s.size)),fun k hk=>?_,?_⟩
          · obtain⟨q,rfl⟩:∃ q,k=q+14+1:=⟨k-15,by omega⟩
            rw[hspec,spec_status_j0 s hs (by omega) r (q+14) (by omega) (by rw[hx];exact hr1 _ (by omega))]
            refine⟨rfl,?_⟩
            rw[show q+14+1=(q+11)+4 by omega,himpl,hdg,show q+11+4=(q+14)+1 by omega]
            rw[show(!true)=false from rfl,impl_status_j0 _ (txt3 a b c) (by omega) (by omega) (val3 a b c) (q+14) (by omega) hx' hat,hy']
          · unfold mkStatus
            simp only
            cases h200:decide (200≤val3 a b c∧val3 a b c≤599) with
            |true=>
              have:=of_decide_eq_true h200
              have ha:2≤a.val:=by unfold val3 at this;omega
              rw[hr2 ha]
              exact⟨by simp,fun _=>⟨by simp,by simp⟩⟩
            |false=>
              have e2:stB (val3 a b c) (s.extract 13 s.size)=false:=by unfold stB;rw[h200,Bool.false_and]
              have e1:(r.2&&stB r.1 (s.extract 13 s.size))=false:=by
                cases hr:r.2 with
                |false=>rfl
                |true=>rw[hr3 hr,e2];rfl
              rw[e1,e2]
              exact⟨rfl,fun h=>by cases h⟩
      · refine⟨noFirst,noFirst,fun k hk=>?_,rfl,fun h=>absurd h (by decide)⟩
        obtain⟨q,rfl⟩:=ex_succ k (by omega)
        unfold spec_l6status.f impl_readFirst.f
        rw[if_neg (by omega),if_pos (by decide),if_pos (by omega),if_pos hp2,if_pos (by omega),if_pos rfl,hcut,Option.bind_some,if_pos rfl,show(bt s 12 != 32)=true from bne_iff_ne.2 h32]
        simp only
        rw[if_neg (by omega),if_pos (by omega),hb,if_neg h32]
        exact⟨spec_first_no q s,impl_first_no q _⟩
  · have hcut:=cutPfx_no s hp
    refine⟨noFirst,noFirst,fun k hk=>?_,rfl,fun h=>absurd h (by decide)⟩
    obtain⟨q,rfl⟩:=ex_succ k (by omega)
    refine⟨?_,?_⟩
    · unfold spec_l6status.f
      by_cases h13:s.size<13
      · rw[if_pos (by omega)];exact spec_first_no q s
      · rw[if_neg (by omega),if_pos (by decide),if_pos (by omega),if_neg (show ¬ (s.extract 0 9).toList=([72,84,84,80,47,49,46,49,32]:List UInt8) from fun e=>hp ⟨by omega,e⟩)];exact spec_first_no q s
    · unfold impl_readFirst.f
      rw[if_pos rfl,hcut,Option.bind_some,if_neg (show ¬ false=true from Bool.false_ne_true)]
      exact impl_first_no q _

end Go.Proofs.YtonmpnghlopnoaaGreatDoor.P
end

section
/- Plain laws of our own (ReadDec): about numbers and lists alone; no condition beyond those written. -/
namespace Go.Proofs.YtonmpnghlopnoaaGreatDoor.P
open Go.RowKit Go.Proofs.YtonmpnghlopnoaaGreatDoorW.PrintWords Go.Proofs.YtonmpnghlopnoaaGreatDoorW.PrintLast Go.Proofs.YtonmpnghlopnoaaGreatDoorW.PrintMore
set_option linter.unusedVariables false
set_option linter.unusedSimpArgs false
set_option maxHeartbeats 2000000
theorem parse_app : ∀(l r:List UInt8) (acc m:Nat),Lib.parseUint10 acc l = .ok m→Lib.parseUint10 acc (l++r)=Lib.parseUint10 m r
  |[],r,acc,m,h=>by
    simp only[Lib.parseUint10] at h
    injection h with h
    rw[h];rfl
  |c::l,r,acc,m,h=>by
    simp only[Lib.parseUint10,List.cons_append] at h ⊢
    split at h
    · rename_i h1
      rw[if_pos h1]
      split at h
      · cases h
      · rename_i h2
        rw[if_neg h2]
        split at h
        · cases h
        · rename_i h3
          rw[if_neg h3]
          exact parse_app l r _ m h
    · cases h
theorem parse_digit (acc d:Nat) (hd:d<10) (ha:acc≤999999999999999):Lib.parseUint10 acc [UInt8.ofNat (48+d)] = .ok (acc*10+d):=by
  have e:(UInt8.ofNat (48+d)).toNat=48+d:=by
    rw[UInt8.toNat_ofNat']
    omega
  simp only[Lib.parseUint10,e]
  rw[if_pos (by omega),if_neg (by omega),if_neg (by omega)]
  congr 1;omega
theorem parse_dec : ∀(d u:Nat),u<10 ^ (d+1)→u≤999999999999999→Lib.parseUint10 0 (Lib.decDigits u) = .ok u∧(Lib.decDigits u).length≤d+1∧Lib.decDigits u≠[]:=by
  intro d
  induction d with
  |zero=>
    intro u hu h15
    have h10:u<10:=by simpa using hu
    rw[Lib.decDigits_one h10]
    exact⟨by rw[parse_digit 0 u h10 (by omega)];congr 1;omega,by simp,by simp⟩
  |succ d ih=>
    intro u hu h15
    by_cases h10:u<10
    · rw[Lib.decDigits_one h10]
      exact⟨by rw[parse_digit 0 u h10 (by omega)];congr 1;omega,by simp,by simp⟩
    · have e3:Lib.decDigits u=Lib.decDigits (u / 10) ++ [UInt8.ofNat (48+u%10)]:=by rw[Lib.decDigits,dif_neg h10]
      obtain⟨h1,h2,h3⟩:=ih (u / 10) (by rw[Nat.pow_succ] at hu;omega) (by omega)
      rw[e3]
      refine⟨?_,by simp;omega,by simp⟩
      rw[parse_app _ _ _ _ h1,parse_digit (u / 10) (u%10) (by omega) (by omega)]
      congr 1;omega
theorem parse_first {c:UInt8} {r:List UInt8} {acc m:Nat} (h:Lib.parseUint10 acc (c::r) = .ok m):48≤c.toNat∧c.toNat≤57:=by
  simp only[Lib.parseUint10] at h
  split at h
  · assumption
  · cases h
theorem atoiAll_of_parse {l:List UInt8} {u:Nat} (hl:l≠[]) (h:Lib.parseUint10 0 l = .ok u) (hu:u≤999999999999999):Lib.atoiAll l = .ok (u:Int):=by
  cases l with
  |nil=>exact absurd rfl hl
  |cons c r=>
    have hc:=parse_first h
    unfold Lib.atoiAll Lib.parseMag
    simp only
    rw[if_neg (show ¬ (c.toNat=43∨c.toNat=45) by omega),if_neg (show ¬ (c::r = []) by simp),h]
    simp only
    rw[if_neg (by omega),if_neg (by omega),if_neg (by omega)]
theorem itoaT_list (v:Int) (h0:0≤v):(itoaT v).toList=Lib.decDigits v.toNat:=by
  rw[ByteArray.toList_eq]
  unfold itoaT Lib.itoa
  rw[if_neg (by omega)]
theorem decI_inv (s:ByteArray) (h:(decI s).2=true):decI s=((decI s).1,true)∧0≤(decI s).1∧(decI s).1≤999999999999999∧s.data.toList=Lib.decDigits (decI s).1.toNat:=by
  unfold decI at h ⊢
  rcases hA:Lib.atoiAll s.data.toList with v|_|_
  · rw[hA] at h
    simp only at h ⊢
    by_cases hc:0≤v∧v≤999999999999999∧(itoaT v).toList=s.toList
    · rw[if_pos hc]
      exact⟨rfl,hc.1,hc.2.1,by rw[← ByteArray.toList_eq,← hc.2.2,itoaT_list v hc.1]⟩
    · rw[if_neg hc] at h;cases h
  · rw[hA] at h;cases h
  · rw[hA] at h;cases h
theorem decI_false (s:ByteArray) (h:(decI s).2=false):decI s=(0,false):=by
  unfold decI at h ⊢
  rcases hA:Lib.atoiAll s.data.toList with v|_|_
  · rw[hA] at h
    simp only at h ⊢
    split
    · rename_i hc;rw[if_pos hc] at h;cases h
    · rfl
  · rfl
  · rfl
def endOf (s:ByteArray):Lib.NumEnd Nat→Int×Bool
  |.ok n=>if(itoaT (n:Int)).toList=s.toList then((n:Int),true) else(0,false)
  |_=>(0,false)
theorem pow_bound (acc i m:Nat) (ha:acc<10 ^ i) (hi:i≤m):acc<10 ^ m:=Nat.lt_of_lt_of_le ha (Nat.pow_le_pow_right (by decide) hi)
theorem pow_14 : (10:Nat) ^ 14=100000000000000:=by decide
theorem pow_15 : (10:Nat) ^ 15=1000000000000000:=by decide
theorem pow_next (acc x i:Nat) (ha:acc<10 ^ i) (hx:x≤9):acc*10+x<10 ^ (i+1):=by
  rw[Nat.pow_succ]
  have h:(acc+1)*10≤10 ^ i*10:=Nat.mul_le_mul_right 10 ha
  omega
theorem dec_loop (s:ByteArray) (hs:s.size≤15):∀(d:Nat) (acc i:Nat),i≤s.size→s.size-i=d→Aside0 (acc<10 ^ i)→∀ k,d+120<k→
    spec_ReadDec.l0 k s (acc:Int) (i:Int)=some (endOf s (Lib.parseUint10 acc (s.data.toList.drop i)))∧(∀ n,Lib.parseUint10 acc (s.data.toList.drop i) = .ok n→n<10 ^ s.size):=by
  intro d
  induction d with
  |zero=>
    intro acc i h0 hd ha k hk
    have hi:i=s.size:=by omega
    have hp2:acc≤999999999999999:=by
      have h1:=pow_bound acc i 15 ha.out (by omega)
      rw[pow_15] at h1
      omega
    rw[List.drop_of_length_le (by rw[len_eq];omega)]
    obtain⟨k,rfl⟩:=ex_succ k (by omega)
    refine⟨?_,fun n hn=>?_⟩
    · simp only[spec_ReadDec.l0,Lib.parseUint10,endOf]
      rw[if_neg (by omega),spec_DecText_eq (acc:Int) (by omega) (by omega) k (by omega),Option.bind_some]
      split <;> rfl
    · simp only[Lib.parseUint10] at hn
      injection hn with hn
      rw[← hn,← hi];exact ha.out
  |succ d ih=>
    intro acc i h0 hd ha k hk
    obtain⟨k,rfl⟩:=ex_succ k (by omega)
    obtain⟨b,hb1,hb2⟩:=at_bt (s:=s) (n:=i) (by omega)
    obtain⟨hb3,hb4⟩:=List.getElem?_eq_some_iff.mp hb1
    have hp:acc≤99999999999999:=by
      have h1:=pow_bound acc i 14 ha.out (by omega)
      rw[pow_14] at h1
      omega
    have hwi:=wrap_succ i (by omega)
    rw[List.drop_eq_getElem_cons hb3,hb4]
    clear hb1 hb3 hb4
    simp only[spec_ReadDec.l0,Lib.parseUint10]
    rw[if_pos (by omega),if_pos (by omega),hb2,spec_digit_eq,Option.bind_some,hwi]
    clear hwi hb2
    by_cases hd2:48≤b.toNat∧b.toNat≤57
    · have hdg:dg b=true:=decide_eq_true hd2
      have hwv:wrap64 (wrap64 ((acc:Int)*10)+((b.toNat:Int)-48)%256)=((acc*10+(b.toNat-48):Nat):Int):=by
        rw[wrap_id (x:=(acc:Int)*10) (by omega) (by omega),wrap_id (by omega) (by omega)]
        omega
      rw[if_pos hdg,if_pos hd2,if_neg (by omega),if_neg (by omega),hwv]
      exact ih (acc*10+(b.toNat-48)) (i+1) (by omega) (by omega) ⟨pow_next acc (b.toNat-48) i ha.out (by omega)⟩ k (by omega)
    · have hdg:dg b=false:=decide_eq_false hd2
      rw[hdg,if_neg (by decide),if_neg hd2]
      exact⟨rfl,fun n hn=>by cases hn⟩
theorem spec_ReadDec_eq (s:ByteArray) (k:Nat) (hk:200<k):spec_ReadDec.f k s=some (decI s):=by
  have inv:(decI s).2=true→1≤s.size∧s.size≤15∧Lib.parseUint10 0 s.data.toList = .ok (decI s).1.toNat:=by
    intro h
    obtain⟨_,h1,h2,h3⟩:=decI_inv s h
    obtain⟨p1,p2,p3⟩:=parse_dec 14 (decI s).1.toNat (by
      have e:10 ^ (14+1)=1000000000000000:=by decide
      omega) (by omega)
    rw[← h3] at p1 p2 p3
    rw[len_eq] at p2
    refine⟨?_,by omega,p1⟩
    rcases Nat.eq_zero_or_pos s.size with h0|h0
    · exact absurd (List.eq_nil_of_length_eq_zero (by rw[len_eq];exact h0)) p3
    · exact h0
  obtain⟨k,rfl⟩:=ex_succ k (by omega)
  unfold spec_ReadDec.f
  have no:(decI s).2=false→some ((0:Int),false)=some (decI s):=fun h=>by rw[decI_false s h]
  by_cases h0:s.size=0
  · rw[if_pos (by omega)]
    simp only[spec_ReadDec.j0]
    exact no (by cases hb:(decI s).2 with|false=>rfl|true=>have:=inv hb;omega)
  · rw[if_neg (by omega)]
    by_cases h15:s.size>15
    · rw[decide_eq_true (by omega)]
      simp only[spec_ReadDec.j0]
      exact no (by cases hb:(decI s).2 with|false=>rfl|true=>have:=inv hb;omega)
    · rw[decide_eq_false (by omega)]
      simp only[spec_ReadDec.j0]
      rw[if_neg (by decide)]
      have hl:=dec_loop s (by omega) s.size 0 0 (Nat.zero_le _) (by omega) ⟨by decide⟩ k (by omega)
      rw[List.drop_zero] at hl
      refine hl.1.trans ?_
      congr 1
      rcases hP:Lib.parseUint10 0 s.data.toList with n|_|_
      · have hn:=hl.2 n hP
        have hn15:n≤999999999999999:=by
          have h1:=pow_bound n s.size 15 hn (by omega)
          rw[pow_15] at h1
          clear hn hP hl
          omega
        clear hn
        have hne:s.data.toList≠[]:=fun e=>h0 (by rw[← len_eq,e];rfl)
        unfold decI
        rw[atoiAll_of_parse hne hP hn15]
        simp only[endOf]
        by_cases he:(itoaT (n:Int)).toList=s.toList
        · rw[if_pos he,if_pos ⟨by omega,by omega,he⟩]
        · rw[if_neg he,if_neg (fun x=>he x.2.2)]
      · have hb:(decI s).2=false:=by cases hb:(decI s).2 with|false=>rfl|true=>have:=(inv hb).2.2;rw[hP] at this;cases this
        rw[decI_false s hb];rfl
      · have hb:(decI s).2=false:=by cases hb:(decI s).2 with|false=>rfl|true=>have:=(inv hb).2.2;rw[hP] at this;cases this
        rw[decI_false s hb];rfl

end Go.Proofs.YtonmpnghlopnoaaGreatDoor.P
end

section
/- Plain laws of our own (Values): about numbers and lists alone; no condition beyond those written. -/
namespace Go.Proofs.YtonmpnghlopnoaaGreatDoor.P
open Go.RowKit Go.Proofs.YtonmpnghlopnoaaGreatDoorW.PrintWords Go.Proofs.YtonmpnghlopnoaaGreatDoorW.PrintLast Go.Proofs.YtonmpnghlopnoaaGreatDoorW.PrintMore
set_option linter.unusedVariables false
set_option linter.unusedSimpArgs false
set_option maxHeartbeats 2000000
def valsFrom (l:List FieldT) (a:ByteArray):Nat→Nat→List ByteArray→List ByteArray
  |0,_,out=>out
  |d+1,i,out=>valsFrom l a d (i+1) (if sameB (rd_T41 l (i:Int)).f0 a=true then out ++ [(rd_T41 l (i:Int)).f1] else out)
theorem valsFrom_length (l:List FieldT) (a:ByteArray):∀ d i out,(valsFrom l a d i out).length≤out.length+d:=by
  intro d
  induction d with
  |zero=>intro i out;simp[valsFrom]
  |succ d ih=>
    intro i out
    simp only[valsFrom]
    split
    · have:=ih (i+1) (out ++ [(rd_T41 l (i:Int)).f1])
      simp at this;omega
    · have:=ih (i+1) out;omega
theorem impl_vals (l:List FieldT) (a:ByteArray) (ha:a.size≤140737488351232) (hok:fieldsOkB l=true):∀(d k i:Nat) (out:List ByteArray),i≤l.length→l.length-i=d→out.length≤i→d<k→
    impl_Values.l0 k a out l (l.length:Int) (i:Int)=some (valsFrom l a d i out):=by
  have hl:=fieldsOk_short hok
  intro d
  induction d with
  |zero=>
    intro k i out h1 hd ho hk
    obtain⟨k,rfl⟩:∃ m,k=m+1:=⟨k-1,by omega⟩
    simp only[impl_Values.l0]
    rw[if_neg (by omega)]
    rfl
  |succ d ih=>
    intro k i out h1 hd ho hk
    obtain⟨k,rfl⟩:∃ m,k=m+1:=⟨k-1,by omega⟩
    have hn:=fieldsOk_name hok i (by omega)
    have hw:wrap64 ((i:Int)+1)=((i+1:Nat):Int):=by rw[wrap_id (by omega) (by omega)];omega
    simp only[impl_Values.l0,valsFrom]
    rw[if_pos (by omega),if_pos (by omega),if_pos (by omega),impl_SameFold_eq _ a (by omega) (by omega),Option.bind_some,hw]
    by_cases hb:sameB (rd_T41 l (i:Int)).f0 a=true
    · rw[if_pos hb,if_pos hb,if_pos (by omega)]
      exact ih k (i+1) _ (by omega) (by omega) (by simp;omega) (by omega)
    · rw[if_neg hb,if_neg hb]
      exact ih k (i+1) out (by omega) (by omega) (by omega) (by omega)
theorem spec_vals (l:List FieldT) (a:ByteArray) (ha:a.size≤140737488351232) (hok:fieldsOkB l=true):∀(d k i:Nat) (out:List ByteArray),i≤l.length→l.length-i=d→out.length≤i→d<k→
    spec_Values.l0 k l a out (i:Int)=some (valsFrom l a d i out):=by
  have hl:=fieldsOk_short hok
  intro d
  induction d with
  |zero=>
    intro k i out h1 hd ho hk
    obtain⟨k,rfl⟩:∃ m,k=m+1:=⟨k-1,by omega⟩
    simp only[spec_Values.l0]
    rw[if_neg (by omega)]
    rfl
  |succ d ih=>
    intro k i out h1 hd ho hk
    obtain⟨k,rfl⟩:∃ m,k=m+1:=⟨k-1,by omega⟩
    have hn:=fieldsOk_name hok i (by omega)
    have hw:wrap64 ((i:Int)+1)=((i+1:Nat):Int):=by rw[wrap_id (by omega) (by omega)];omega
    simp only[spec_Values.l0,valsFrom]
    rw[if_pos (by omega),if_pos (by omega),spec_SameFold_eq _ a (by omega) (by omega),Option.bind_some,hw]
    by_cases hb:sameB (rd_T41 l (i:Int)).f0 a=true
    · rw[if_pos hb,if_pos hb,if_pos (by omega)]
      exact ih k (i+1) _ (by omega) (by omega) (by simp;omega) (by omega)
    · rw[if_neg hb,if_neg hb]
      exact ih k (i+1) out (by omega) (by omega) (by omega) (by omega)
def valuesOf (l:List FieldT) (a:ByteArray):List ByteArray:=if fieldsOkB l=true then valsFrom l a l.length 0 [] else []
theorem valuesOf_length (l:List FieldT) (a:ByteArray):(valuesOf l a).length≤20:=by
  unfold valuesOf
  split
  · rename_i h
    have h1:=fieldsOk_short h
    have h2:=valsFrom_length l a l.length 0 []
    simp at h2;omega
  · exact Nat.zero_le _
theorem impl_Values_eq (l:List FieldT) (a:ByteArray) (ha:a.size≤140737488351232) (k:Nat) (hk:6000<k):impl_Values.f k l a=some (valuesOf l a):=by
  unfold impl_Values.f valuesOf
  rw[impl_FieldsOk_eq l k hk,Option.bind_some]
  by_cases h:fieldsOkB l=true
  · have:=fieldsOk_short h
    rw[if_pos h,if_pos h]
    exact impl_vals l a ha h l.length k 0 [] (Nat.zero_le _) (by omega) (Nat.le_refl _) (by omega)
  · rw[if_neg h,if_neg h]
theorem spec_Values_eq (l:List FieldT) (a:ByteArray) (ha:a.size≤140737488351232) (k:Nat) (hk:6000<k):spec_Values.f k l a=some (valuesOf l a):=by
  unfold spec_Values.f valuesOf
  rw[spec_FieldsOk_eq l k hk,Option.bind_some]
  by_cases h:fieldsOkB l=true
  · have:=fieldsOk_short h
    rw[if_pos h,if_pos h]
    exact spec_vals l a ha h l.length k 0 [] (Nat.zero_le _) (by omega) (Nat.le_refl _) (by omega)
  · rw[if_neg h,if_neg h]

end Go.Proofs.YtonmpnghlopnoaaGreatDoor.P
end

section
/- Plain laws of our own (Joined): about numbers and lists alone; no condition beyond those written. -/
namespace Go.Proofs.YtonmpnghlopnoaaGreatDoor.P
open Go.RowKit Go.Proofs.YtonmpnghlopnoaaGreatDoorW.PrintWords Go.Proofs.YtonmpnghlopnoaaGreatDoorW.PrintLast Go.Proofs.YtonmpnghlopnoaaGreatDoorW.PrintMore
set_option linter.unusedVariables false
set_option linter.unusedSimpArgs false
set_option maxHeartbeats 2000000
def tailB (acc:ByteArray):List ByteArray→ByteArray
  |[]=>acc
  |x::r=>tailB ((acc++(⟨#[44,32]⟩:ByteArray))++x) r
theorem tailB_toList : ∀(r:List ByteArray) (acc:ByteArray),(tailB acc r).data.toList=acc.data.toList++Go.Lib.joinTail [44,32] (r.map fun x=>x.data.toList):=by
  intro r
  induction r with
  |nil=>intro acc;simp[tailB,Go.Lib.joinTail]
  |cons x r ih=>
    intro acc
    simp only[tailB]
    rw[ih]
    simp[Go.Lib.joinTail]
theorem spec_join (vs:List ByteArray) (hn:vs.length≤20) (hs:∀ x∈vs,x.size≤190):∀(r:List ByteArray) (k i:Nat) (acc:ByteArray),vs.drop i=r→1≤i→acc.size≤200*i→r.length<k→spec_Joined.l0 k vs acc (i:Int)=some (tailB acc r):=by
  intro r
  induction r with
  |nil=>
    intro k i acc h h1 ha hk
    obtain⟨k,rfl⟩:∃ m,k=m+1:=⟨k-1,by omega⟩
    have hi:=List.drop_eq_nil_iff.mp h
    simp only[spec_Joined.l0]
    rw[if_neg (by omega)]
    rfl
  |cons x r ih=>
    intro k i acc h h1 ha hk
    obtain⟨k,rfl⟩:∃ m,k=m+1:=⟨k-1,by omega⟩
    have hi:i<vs.length:=by
      by_cases hq:i<vs.length
      · exact hq
      · rw[List.drop_eq_nil_iff.mpr (by omega)] at h;cases h
    rw[List.drop_eq_getElem_cons hi] at h
    injection h with h2 h3
    have hx:x.size≤190:=by rw[← h2];exact hs _ (List.getElem_mem hi)
    have e1:rdOf ByteArray.empty vs (i:Int)=x:=by
      unfold rdOf
      simp only[Int.toNat_natCast,List.getD_eq_getElem?_getD,List.getElem?_eq_getElem hi,Option.getD_some]
      exact h2
    have hw:wrap64 ((i:Int)+1)=((i+1:Nat):Int):=by rw[wrap_id (by omega) (by omega)];omega
    have s2:(acc++(⟨#[44,32]⟩:ByteArray)).size=acc.size+2:=by rw[ByteArray.size_append];rfl
    have s3:((acc++(⟨#[44,32]⟩:ByteArray))++x).size=acc.size+2+x.size:=by rw[ByteArray.size_append,s2]
    simp only[spec_Joined.l0,tailB]
    rw[if_pos (by omega),if_pos (by omega),if_pos (by omega),if_pos (by omega),e1,if_pos (by omega),hw]
    simp only[List.length_cons] at hk
    exact ih k (i+1) _ h3 (by omega) (by omega) (by omega)
theorem joinB_eq {x:ByteArray} {r:List ByteArray} {acc:ByteArray} (h:acc.data.toList=x.data.toList):tailB acc r=⟨(joinL (x::r)).toArray⟩:=by
  have e:(tailB acc r).data.toList=joinL (x::r):=by
    rw[tailB_toList,h]
    unfold joinL
    rw[List.map_cons,Go.Lib.join_cons]
  have e2:(tailB acc r).data=(joinL (x::r)).toArray:=by
    rw[← e,Array.toArray_toList]
  rw[← e2]
theorem spec_join0 (vs:List ByteArray) (hn:vs.length≤20) (hs:∀ x∈vs,x.size≤190) (k:Nat) (hk:100<k):spec_Joined.l0 k vs (⟨#[]⟩:ByteArray) 0=some ⟨(joinL vs).toArray⟩:=by
  obtain⟨k,rfl⟩:∃ m,k=m+1:=⟨k-1,by omega⟩
  rw[spec_Joined.l0.eq_def]
  dsimp only
  cases vs with
  |nil=>rw[if_neg (by simp)];rfl
  |cons x r=>
    have hx:x.size≤190:=hs x (List.mem_cons_self ..)
    have e1:rdOf ByteArray.empty (x::r) 0=x:=rfl
    have hw:wrap64 ((0:Int)+1)=((1:Nat):Int):=by rw[wrap_id (by omega) (by omega)];omega
    have s0:(⟨#[]⟩:ByteArray).size=0:=rfl
    have s3:((⟨#[]⟩:ByteArray)++x).size=x.size:=by rw[ByteArray.size_append,s0];omega
    simp only[List.length_cons] at hn
    rw[if_pos (by simp only[List.length_cons];omega),if_neg (by omega),if_pos (by omega),e1,if_pos (by omega),hw,spec_join (x::r) (by simp only[List.length_cons];omega) hs r k 1 _ rfl (Nat.le_refl _) (by omega) (by omega)]
    rw[joinB_eq (x:=x) (by simp)]
theorem valsFrom_small (l:List FieldT) (a:ByteArray) (hok:fieldsOkB l=true):∀ d i out,i+d≤l.length→(∀ x∈out,x.size≤190)→∀ x∈valsFrom l a d i out,x.size≤190:=by
  intro d
  induction d with
  |zero=>intro i out _ h;exact h
  |succ d ih=>
    intro i out hi h
    simp only[valsFrom]
    refine ih (i+1) _ (by omega) ?_
    split
    · intro x hx
      rcases List.mem_append.mp hx with h1|h1
      · exact h x h1
      · obtain rfl:=List.mem_singleton.mp h1
        exact(fieldsOk_name hok i (by omega)).2
    · exact h
theorem valuesOf_small (l:List FieldT) (a:ByteArray):∀ x∈valuesOf l a,x.size≤190:=by
  unfold valuesOf
  split
  · rename_i h
    exact valsFrom_small l a h l.length 0 [] (by omega) (fun x hx=>by cases hx)
  · intro x hx;cases hx
theorem lens_small : ∀(vs:List ByteArray),(∀ x∈vs,x.size≤190)→Go.Lib.lens (vs.map fun x=>x.data.toList)≤190*vs.length:=by
  intro vs
  induction vs with
  |nil=>intro _;simp[Go.Lib.lens]
  |cons x r ih=>
    intro h
    have h1:=h x (List.mem_cons_self ..)
    have h2:=ih (fun y hy=>h y (List.mem_cons_of_mem _ hy))
    have h3:x.data.toList.length=x.size:=by rw[Array.length_toList];rfl
    simp only[Go.Lib.lens,List.map_cons,List.sum_cons,List.length_cons] at h2 ⊢
    omega
theorem joinL_length (vs:List ByteArray) (hn:vs.length≤20) (hs:∀ x∈vs,x.size≤190):(joinL vs).length≤5000:=by
  unfold joinL
  cases vs with
  |nil=>simp[Go.Lib.join_nil]
  |cons x r=>
    have h:=lens_small (x::r) hs
    simp only[List.map_cons] at h ⊢
    rw[Go.Lib.join_length]
    simp only[List.length_cons,List.length_nil,List.length_map] at h hn ⊢
    omega
def joinedOf (l:List FieldT) (a:ByteArray):ByteArray:=⟨(joinL (valuesOf l a)).toArray⟩
theorem impl_Joined_eq (l:List FieldT) (a:ByteArray) (ha:a.size≤140737488351232) (k:Nat) (hk:6000<k):impl_Joined.f k l a=some (joinedOf l a):=by
  have h1:=valuesOf_length l a
  have h2:=joinL_length (valuesOf l a) h1 (valuesOf_small l a)
  unfold impl_Joined.f joinedOf
  rw[impl_Values_eq l a ha k hk,Option.bind_some,if_pos ⟨by omega,by omega⟩]
theorem spec_Joined_eq (l:List FieldT) (a:ByteArray) (ha:a.size≤140737488351232) (k:Nat) (hk:6000<k):spec_Joined.f k l a=some (joinedOf l a):=by
  unfold spec_Joined.f joinedOf
  rw[spec_Values_eq l a ha k hk,Option.bind_some]
  exact spec_join0 _ (valuesOf_length l a) (valuesOf_small l a) k (by omega)

end Go.Proofs.YtonmpnghlopnoaaGreatDoor.P
end

section
/- Plain laws of our own (Words): about numbers and lists alone; no condition beyond those written. -/
namespace Go.Proofs.YtonmpnghlopnoaaGreatDoor.P
open Go.RowKit Go.Proofs.YtonmpnghlopnoaaGreatDoorW.PrintWords Go.Proofs.YtonmpnghlopnoaaGreatDoorW.PrintLast Go.Proofs.YtonmpnghlopnoaaGreatDoorW.PrintMore
set_option linter.unusedVariables false
set_option linter.unusedSimpArgs false
set_option maxHeartbeats 2000000
def wordsOf (l:List FieldT) (a:ByteArray):List ByteArray:=elementsOf (joinedOf l a)
theorem wordsOf_length (l:List FieldT) (a:ByteArray):(wordsOf l a).length≤4001:=elementsOf_length _
theorem impl_Words_eq (l:List FieldT) (a:ByteArray) (ha:a.size≤140737488351232) (k:Nat) (hk:20000<k):impl_Words.f k l a=some (wordsOf l a):=by
  unfold impl_Words.f wordsOf
  rw[impl_Joined_eq l a ha k (by omega),Option.bind_some,impl_Elements_eq _ k hk,Option.bind_some]
theorem spec_Words_eq (l:List FieldT) (a:ByteArray) (ha:a.size≤140737488351232) (k:Nat) (hk:20000<k):spec_Words.f k l a=some (wordsOf l a):=by
  unfold spec_Words.f wordsOf
  rw[spec_Joined_eq l a ha k (by omega),Option.bind_some,spec_Elements_eq _ k hk,Option.bind_some]

end Go.Proofs.YtonmpnghlopnoaaGreatDoor.P
end

section
/- Plain laws of our own (Framing): about numbers and lists alone; no condition beyond those written. -/
namespace Go.Proofs.YtonmpnghlopnoaaGreatDoor.P
open Go.RowKit Go.Proofs.YtonmpnghlopnoaaGreatDoorW.PrintWords Go.Proofs.YtonmpnghlopnoaaGreatDoorW.PrintLast Go.Proofs.YtonmpnghlopnoaaGreatDoorW.PrintMore
set_option linter.unusedVariables false
set_option linter.unusedSimpArgs false
set_option maxHeartbeats 2000000
def AllSmall (l:List ByteArray):Prop:=∀ x∈l,x.size≤4000
theorem addS_small (out:List ByteArray) (t:ByteArray) (h:AllSmall out) (ht:t.size≤4000):AllSmall (addS out t):=by
  unfold addS
  split
  · exact h
  · intro x hx
    rcases List.mem_append.1 hx with h1|h1
    · exact h x h1
    · rw[List.mem_singleton.1 h1];exact ht
theorem trim_part (s:ByteArray) (hs:s.size≤4000) (a b:Nat):(trimS (s.extract a b)).size≤4000:=by
  have h1:=trimS_size (s.extract a b)
  have h2:(s.extract a b).size≤s.size:=by rw[size_extract];omega
  omega
theorem elF_small (s:ByteArray) (hs:s.size≤4000):∀(n d:Nat),d≤n→∀(out:List ByteArray) (a:Nat) (q:Bool) (i:Nat),AllSmall out→AllSmall (elS s d out a q i):=by
  intro n
  induction n with
  |zero=>
    intro d hd out a q i h
    obtain rfl:d=0:=by omega
    exact addS_small _ _ h (trim_part s hs _ _)
  |succ n ih=>
    intro d hd out a q i h
    cases d with
    |zero=>exact addS_small _ _ h (trim_part s hs _ _)
    |succ d=>
      rw[elS_succ]
      split
      · exact ih d (by omega) _ _ _ _ h
      · split
        · cases d with
          |zero=>exact addS_small _ _ h (trim_part s hs _ _)
          |succ e=>exact ih e (by omega) _ _ _ _ h
        · split
          · exact ih d (by omega) _ _ _ _ (addS_small _ _ h (trim_part s hs _ _))
          · exact ih d (by omega) _ _ _ _ h
theorem wordsF_small (l:List FieldT) (a:ByteArray):AllSmall (wordsOf l a):=by
  unfold wordsOf elementsOf
  split
  · intro x hx;cases hx
  · exact elF_small _ (by omega) _ _ (Nat.le_refl _) _ _ _ _ (fun x hx=>by cases hx)
theorem rdOf_mem {l:List ByteArray} {i:Nat} (h:i<l.length):rdOf ByteArray.empty l (i:Int)∈l:=by
  unfold rdOf
  rw[Int.toNat_natCast,List.getD_eq_getElem?_getD,List.getElem?_eq_getElem h]
  exact List.getElem_mem h
def clT : ByteArray:=(⟨#[99,111,110,116,101,110,116,45,108,101,110,103,116,104]⟩:ByteArray)
def teT : ByteArray:=(⟨#[116,114,97,110,115,102,101,114,45,101,110,99,111,100,105,110,103]⟩:ByteArray)
def hasB (l:List FieldT) (a:ByteArray):Bool:=decide (0<(valuesOf l a).length)
theorem impl_has_eq (l:List FieldT) (a:ByteArray) (ha:a.size≤140737488351232) (k:Nat) (hk:6000<k):impl_hasField.f k l a=some (hasB l a):=by
  unfold impl_hasField.f hasB
  rw[impl_Values_eq l a ha k hk,Option.bind_some]
  congr 1
  exact decide_eq_decide.2 (by omega)
theorem spec_Get_eq (l:List FieldT) (a:ByteArray) (ha:a.size≤140737488351232):∃ t:ByteArray,∀ k,6000<k→spec_Get.f k l a=some (t,hasB l a):=by
  unfold spec_Get.f hasB
  by_cases h:(valuesOf l a).length=0
  · refine⟨(⟨#[]⟩:ByteArray),fun k hk=>?_⟩
    rw[spec_Values_eq l a ha k hk,Option.bind_some,if_pos (by omega),decide_eq_false (by omega)]
  · refine⟨rdOf ByteArray.empty (valuesOf l a) 0,fun k hk=>?_⟩
    rw[spec_Values_eq l a ha k hk,Option.bind_some,if_neg (by omega),if_pos (by omega),decide_eq_true (by omega)]
def lenFrom (ws:List ByteArray):Nat→Nat→Int→Option Int
  |0,_,n=>some n
  |d+1,i,n=>
    let x:=decI (rdOf ByteArray.empty ws (i:Int))
    if x.2=true then(if i>0∧x.1≠n then none else lenFrom ws d (i+1) x.1) else none
theorem decI_pos (s:ByteArray) (h:(decI s).2=true):0≤(decI s).1:=(decI_inv s h).2.1
theorem impl_len_loop (ws:List ByteArray) (hw:AllSmall ws) (hl:ws.length≤5000):∀(d i:Nat) (n:Int),i≤ws.length→ws.length-i=d→(i=0→n = -1)→(0<i→0≤n)→∀ k,d<k→
    impl_lengthOf.l0 k n ws (ws.length:Int) (i:Int)=some (match lenFrom ws d i n with|some m=>(m,decide (0≤m))|none=>(0,false)):=by
  intro d
  induction d with
  |zero=>
    intro i n h0 hd hn0 hn1 k hk
    obtain⟨k,rfl⟩:=ex_succ k (by omega)
    simp only[impl_lengthOf.l0,lenFrom]
    rw[if_neg (by omega)]
  |succ d ih=>
    intro i n h0 hd hn0 hn1 k hk
    obtain⟨k,rfl⟩:=ex_succ k (by omega)
    have hwi:=wrap_succ i (by omega)
    have hsz:=hw _ (rdOf_mem (l:=ws) (i:=i) (by omega))
    simp only[impl_lengthOf.l0,lenFrom]
    rw[if_pos (by omega),if_pos (by omega),if_pos (by omega)]
    unfold impl_ReadDec.f
    rw[if_pos (by omega),Option.bind_some,hwi]
    by_cases hok:(decI (rdOf ByteArray.empty ws (i:Int))).2=true
    · have hp:=decI_pos _ hok
      rw[if_pos hok,if_pos hok]
      rcases Nat.eq_zero_or_pos i with h|h
      · rw[if_neg (by have:=hn0 h;omega),if_neg (by omega)]
        exact ih (i+1) _ (by omega) (by omega) (by omega) (fun _=>hp) k (by omega)
      · rw[if_pos (by have:=hn1 h;omega)]
        by_cases he:(decI (rdOf ByteArray.empty ws (i:Int))).1=n
        · rw[if_pos he,if_neg (fun x=>x.2 he)]
          exact ih (i+1) _ (by omega) (by omega) (by omega) (fun _=>hp) k (by omega)
        · rw[if_neg he,if_pos ⟨h,he⟩]
    · rw[if_neg hok,if_neg hok]
theorem spec_len_loop (ws:List ByteArray) (hl:ws.length≤5000) (x1 x2 x9 x11:Bool):∀(d i:Nat) (n:Int),i≤ws.length→ws.length-i=d→∀ k,d+300<k→
    spec_Framing.l0 k x1 x2 x9 x11 n ws (i:Int)=(match lenFrom ws d i n with|some m=>spec_Framing.j2 (k-d-1) x1 x2 x9 x11 m|none=>some (4,0)):=by
  intro d
  induction d with
  |zero=>
    intro i n h0 hd k hk
    obtain⟨k,rfl⟩:=ex_succ k (by omega)
    simp only[spec_Framing.l0,lenFrom]
    rw[if_neg (by omega)]
    rfl
  |succ d ih=>
    intro i n h0 hd k hk
    obtain⟨k,rfl⟩:=ex_succ k (by omega)
    have hwi:=wrap_succ i (by omega)
    simp only[spec_Framing.l0,lenFrom]
    rw[if_pos (by omega),if_pos (by omega),spec_ReadDec_eq _ k (by omega),Option.bind_some,hwi]
    by_cases hok:(decI (rdOf ByteArray.empty ws (i:Int))).2=true
    · rw[if_pos hok,if_pos hok]
      rcases Nat.eq_zero_or_pos i with h|h
      · rw[if_neg (by omega),if_neg (by omega),show k+1-(d+1)-1=k-d-1 by omega]
        exact ih (i+1) _ (by omega) (by omega) k (by omega)
      · rw[if_pos (by omega)]
        by_cases he:(decI (rdOf ByteArray.empty ws (i:Int))).1=n
        · rw[if_pos he,if_neg (fun x=>x.2 he),show k+1-(d+1)-1=k-d-1 by omega]
          exact ih (i+1) _ (by omega) (by omega) k (by omega)
        · rw[if_neg he,if_pos ⟨h,he⟩]
    · rw[if_neg hok,if_neg hok]
theorem lenFrom_pos (ws:List ByteArray):∀(d i:Nat) (n m:Int),lenFrom ws (d+1) i n=some m→0≤m:=by
  intro d
  induction d with
  |zero=>
    intro i n m h
    simp only[lenFrom] at h
    split at h
    · rename_i hok
      split at h
      · cases h
      · injection h with h;rw[← h];exact decI_pos _ hok
    · cases h
  |succ d ih=>
    intro i n m h
    rw[lenFrom] at h
    split at h
    · split at h
      · cases h
      · exact ih _ _ _ h
    · cases h
theorem lenFrom_start (ws:List ByteArray) (d:Nat) (n n':Int):lenFrom ws (d+1) 0 n=lenFrom ws (d+1) 0 n':=by
  simp only[lenFrom]
  split
  · rw[if_neg (by omega),if_neg (by omega)]
  · rfl
abbrev FrameT := Int×Int
def frameEnd (x1 x2 x8 x9:Bool) (n:Int):FrameT:=if x2=true then(0,0) else if x8=true then(2,0) else if x9=true then(1,n) else if x1=true then(3,0) else(0,0)
theorem impl_frame_j1 (k:Nat) (x1 x2 x8 x9:Bool) (n:Int):impl_Framing.j1 (k+1) x1 x2 x8 x9 n=some (frameEnd x1 x2 x8 x9 n):=by
  simp only[impl_Framing.j1,frameEnd]
  cases x2 <;> cases x8 <;> cases x9 <;> cases x1 <;> rfl
theorem spec_frame_j2 (k:Nat) (x1 x2 x8 x9:Bool) (n:Int):spec_Framing.j2 (k+1) x1 x2 x8 x9 n=some (frameEnd x1 x2 x8 x9 n):=by
  simp only[spec_Framing.j2,frameEnd]
  cases x2 <;> cases x8 <;> cases x9 <;> cases x1 <;> rfl
def frameLen (l:List FieldT) (x1 x2 x8 x9:Bool):FrameT:=
  if x9=true then(match wordsOf l clT with
    |[]=>(4,0)
    |w::r=>match lenFrom (wordsOf l clT) (r.length+1) 0 0 with|some m=>frameEnd x1 x2 x8 x9 m|none=>(4,0))
  else frameEnd x1 x2 x8 x9 0
theorem impl_frame_j0 (l:List FieldT) (x1 x2 x8 x9:Bool) (k:Nat) (hk:30000<k):impl_Framing.j0 (k+1) l x1 x2 x8 x9=some (frameLen l x1 x2 x8 x9):=by
  obtain⟨k,rfl⟩:=ex_succ k (by omega)
  simp only[impl_Framing.j0,frameLen]
  cases x9 with
  |false=>rw[if_neg (by decide),if_neg (by decide)];exact impl_frame_j1 k x1 x2 x8 false 0
  |true=>
    rw[if_pos rfl,if_pos rfl]
    unfold impl_lengthOf.f
    have hlen:=wordsOf_length l clT
    have hsm:=wordsF_small l clT
    have hw:=impl_Words_eq l clT (by decide) (k+1) (by omega)
    have hw':impl_Words.f (k+1) l (⟨#[99,111,110,116,101,110,116,45,108,101,110,103,116,104]⟩:ByteArray)=some (wordsOf l clT):=hw
    rw[hw',Option.bind_some]
    have hl:=impl_len_loop (wordsOf l clT) hsm (by omega) (wordsOf l clT).length 0 (-1) (Nat.zero_le _) (by omega) (fun _=>rfl) (fun h=>absurd h (by omega)) (k+1) (by omega)
    rw[show((0:Nat):Int)=0 from rfl] at hl
    rw[hl,Option.bind_some]
    generalize hws:wordsOf l clT=ws
    cases ws with
    |nil=>rfl
    |cons w r=>
      simp only[List.length_cons]
      rw[lenFrom_start (w::r) r.length (-1) 0]
      cases hm:lenFrom (w::r) (r.length+1) 0 0 with
      |none=>rfl
      |some m=>
        have:=lenFrom_pos (w::r) r.length 0 0 m hm
        simp only
        rw[decide_eq_true this,if_pos rfl]
        exact impl_frame_j1 k x1 x2 x8 true m
theorem spec_frame_j0 (l:List FieldT) (x1 x2 x8 x9:Bool) (k:Nat) (hk:30000<k):spec_Framing.j0 (k+1) l x1 x2 x8 x9=some (frameLen l x1 x2 x8 x9):=by
  obtain⟨k,rfl⟩:=ex_succ k (by omega)
  simp only[spec_Framing.j0,frameLen]
  cases x9 with
  |false=>rw[if_neg (by decide),if_neg (by decide)];exact spec_frame_j2 k x1 x2 x8 false 0
  |true=>
    rw[if_pos rfl,if_pos rfl]
    have hlen:=wordsOf_length l clT
    have hw':spec_Words.f (k+1) l (⟨#[99,111,110,116,101,110,116,45,108,101,110,103,116,104]⟩:ByteArray)=some (wordsOf l clT):=spec_Words_eq l clT (by decide) (k+1) (by omega)
    rw[hw',Option.bind_some]
    generalize hws:wordsOf l clT=ws at hlen
    cases ws with
    |nil=>rfl
    |cons w r=>
      rw[if_neg (by simp only[List.length_cons];omega)]
      have hl:=spec_len_loop (w::r) (by omega) x1 x2 x8 true (w::r).length 0 0 (Nat.zero_le _) (by omega) (k+1) (by omega)
      rw[show((0:Nat):Int)=0 from rfl] at hl
      rw[hl]
      simp only[List.length_cons]
      cases hm:lenFrom (w::r) (r.length+1) 0 0 with
      |none=>rfl
      |some m=>
        simp only
        obtain⟨q,hq⟩:∃ q,k+1-(r.length+1)-1=q+1:=⟨k-r.length-2,by simp only[List.length_cons] at hlen;omega⟩
        rw[hq]
        exact spec_frame_j2 q x1 x2 x8 true m
def framingOf (l:List FieldT) (a1 a2:Bool):FrameT:=
  if fieldsOkB l=true then(if hasB l teT=true then(if hasB l clT=true then(4,0) else(match wordsOf l teT with
    |[w]=>if(foldS w).toList=([99,104,117,110,107,101,100]:List UInt8) then frameLen l a1 a2 (hasB l teT) (hasB l clT) else(4,0)
    |_=>(4,0))) else frameLen l a1 a2 (hasB l teT) (hasB l clT)) else(4,0)
theorem impl_Framing_eq (l:List FieldT) (a1 a2:Bool) (k:Nat) (hk:30002<k):impl_Framing.f k l a1 a2=some (framingOf l a1 a2):=by
  obtain⟨k,rfl⟩:=ex_succ k (by omega)
  have ht:impl_hasField.f (k+1) l (⟨#[116,114,97,110,115,102,101,114,45,101,110,99,111,100,105,110,103]⟩:ByteArray)=some (hasB l teT):=impl_has_eq l teT (by decide) _ (by omega)
  have hc:impl_hasField.f (k+1) l (⟨#[99,111,110,116,101,110,116,45,108,101,110,103,116,104]⟩:ByteArray)=some (hasB l clT):=impl_has_eq l clT (by decide) _ (by omega)
  have hw:impl_Words.f (k+1) l (⟨#[116,114,97,110,115,102,101,114,45,101,110,99,111,100,105,110,103]⟩:ByteArray)=some (wordsOf l teT):=impl_Words_eq l teT (by decide) _ (by omega)
  have hj:=impl_frame_j0 l a1 a2 (hasB l teT) (hasB l clT) k (by omega)
  have hsm:=wordsF_small l teT
  unfold impl_Framing.f framingOf
  rw[impl_FieldsOk_eq l (k+1) (by omega),Option.bind_some]
  by_cases hf:fieldsOkB l=true
  · rw[if_pos hf,if_pos hf,ht,Option.bind_some,hc,Option.bind_some]
    by_cases h1:hasB l teT=true
    · rw[if_pos h1,if_pos h1,hw,Option.bind_some]
      by_cases h2:hasB l clT=true
      · rw[if_pos h2,if_pos h2]
      · rw[if_neg h2,if_neg h2]
        generalize hws:wordsOf l teT=ws at hsm
        match ws,hsm with
        |[],_=>rfl
        |[w],hsm=>
          have hz:=hsm w (by simp)
          rw[if_pos (by rfl),if_pos (by show(0:Int)<((1:Nat):Int);decide)]
          have e0:rdOf ByteArray.empty [w] 0=w:=rfl
          unfold impl_Fold.f
          rw[e0,if_pos (by omega),Option.bind_some]
          simp only
          split
          · exact hj
          · rfl
        |a::b::r,_=>rw[if_neg (by simp only[List.length_cons];omega)]
    · rw[if_neg h1,if_neg h1];exact hj
  · rw[if_neg hf,if_neg hf]
theorem spec_Framing_eq (l:List FieldT) (a1 a2:Bool) (k:Nat) (hk:30002<k):spec_Framing.f k l a1 a2=some (framingOf l a1 a2):=by
  obtain⟨k,rfl⟩:=ex_succ k (by omega)
  obtain⟨t1,g1⟩:=spec_Get_eq l teT (by decide)
  obtain⟨t2,g2⟩:=spec_Get_eq l clT (by decide)
  have ht:spec_Get.f (k+1) l (⟨#[116,114,97,110,115,102,101,114,45,101,110,99,111,100,105,110,103]⟩:ByteArray)=some (t1,hasB l teT):=g1 _ (by omega)
  have hc:spec_Get.f (k+1) l (⟨#[99,111,110,116,101,110,116,45,108,101,110,103,116,104]⟩:ByteArray)=some (t2,hasB l clT):=g2 _ (by omega)
  have hw:spec_Words.f (k+1) l (⟨#[116,114,97,110,115,102,101,114,45,101,110,99,111,100,105,110,103]⟩:ByteArray)=some (wordsOf l teT):=spec_Words_eq l teT (by decide) _ (by omega)
  have hj:=spec_frame_j0 l a1 a2 (hasB l teT) (hasB l clT) k (by omega)
  have hsm:=wordsF_small l teT
  unfold spec_Framing.f framingOf
  rw[spec_FieldsOk_eq l (k+1) (by omega),Option.bind_some]
  by_cases hf:fieldsOkB l=true
  · rw[if_pos hf,if_pos hf,ht,Option.bind_some,hc,Option.bind_some]
    simp only
    by_cases h1:hasB l teT=true
    · rw[if_pos h1,if_pos h1,hw,Option.bind_some]
      by_cases h2:hasB l clT=true
      · rw[if_pos h2,if_pos h2]
      · rw[if_neg h2,if_neg h2]
        generalize hws:wordsOf l teT=ws at hsm
        match ws,hsm with
        |[],_=>rfl
        |[w],hsm=>
          have hz:=hsm w (by simp)
          rw[if_pos (by rfl),if_pos (by show(0:Int)<((1:Nat):Int);decide)]
          have e0:rdOf ByteArray.empty [w] 0=w:=rfl
          unfold spec_Fold.f
          rw[e0,if_pos (by omega),Option.bind_some]
          simp only
          split
          · exact hj
          · rfl
        |a::b::r,_=>rw[if_neg (by simp only[List.length_cons];omega)]
    · rw[if_neg h1,if_neg h1];exact hj
  · rw[if_neg hf,if_neg hf]
theorem frameEnd_kind (x1 x2 x8 x9:Bool) (n:Int):(frameEnd x1 x2 x8 x9 n).1=0∨(frameEnd x1 x2 x8 x9 n).1=1∨(frameEnd x1 x2 x8 x9 n).1=2∨(frameEnd x1 x2 x8 x9 n).1=3:=by
  unfold frameEnd
  cases x2 <;> cases x8 <;> cases x9 <;> cases x1 <;> simp
def KindOk (r:FrameT):Prop:=r.1=0∨r.1=1∨r.1=2∨r.1=3∨r.1=4
theorem frameLen_kind (l:List FieldT) (x1 x2 x8 x9:Bool):KindOk (frameLen l x1 x2 x8 x9):=by
  have e:∀ n,KindOk (frameEnd x1 x2 x8 x9 n):=fun n=>by
    rcases frameEnd_kind x1 x2 x8 x9 n with h|h|h|h <;> unfold KindOk <;> simp[h]
  have f:KindOk (4,0):=by unfold KindOk;simp
  unfold frameLen
  split
  · split
    · exact f
    · split
      · exact e _
      · exact f
  · exact e _
theorem framing_kind (l:List FieldT) (a1 a2:Bool):KindOk (framingOf l a1 a2):=by
  have f:KindOk (4,0):=by unfold KindOk;simp
  unfold framingOf
  split
  · split
    · split
      · exact f
      · split
        · split
          · exact frameLen_kind _ _ _ _ _
          · exact f
        · exact f
    · exact frameLen_kind _ _ _ _ _
  · exact f

end Go.Proofs.YtonmpnghlopnoaaGreatDoor.P
end

section
/- Plain laws of our own (WithoutS): about numbers and lists alone; no condition beyond those written. -/
namespace Go.Proofs.YtonmpnghlopnoaaGreatDoor.P
open Go.RowKit Go.Proofs.YtonmpnghlopnoaaGreatDoorW.PrintWords Go.Proofs.YtonmpnghlopnoaaGreatDoorW.PrintLast Go.Proofs.YtonmpnghlopnoaaGreatDoorW.PrintMore
set_option linter.unusedVariables false
set_option linter.unusedSimpArgs false
set_option maxHeartbeats 2000000
-- the reference's side alone (Without.lean has both: use one of them in a seat)
def keptFrom (l:List FieldT) (a:ByteArray):Nat→Nat→List FieldT→List FieldT
  |0,_,out=>out
  |d+1,i,out=>keptFrom l a d (i+1) (if sameB (rd_T41 l (i:Int)).f0 a=true then out else out ++ [rd_T41 l (i:Int)])
theorem keptFrom_length (l:List FieldT) (a:ByteArray):∀ d i out,(keptFrom l a d i out).length≤out.length+d:=by
  intro d
  induction d with
  |zero=>intro i out;simp[keptFrom]
  |succ d ih=>
    intro i out
    simp only[keptFrom]
    split
    · have:=ih (i+1) out;omega
    · have:=ih (i+1) (out ++ [rd_T41 l (i:Int)])
      simp at this;omega
theorem spec_kept (l:List FieldT) (a:ByteArray) (ha:a.size≤140737488351232) (hok:fieldsOkB l=true):∀(d k i:Nat) (out:List FieldT),i≤l.length→l.length-i=d→out.length≤i→d<k→
    spec_Without.l0 k l a out (i:Int)=some (keptFrom l a d i out):=by
  have hl:=fieldsOk_short hok
  intro d
  induction d with
  |zero=>
    intro k i out h1 hd ho hk
    obtain⟨k,rfl⟩:∃ m,k=m+1:=⟨k-1,by omega⟩
    simp only[spec_Without.l0]
    rw[if_neg (by omega)]
    rfl
  |succ d ih=>
    intro k i out h1 hd ho hk
    obtain⟨k,rfl⟩:∃ m,k=m+1:=⟨k-1,by omega⟩
    have hn:=fieldsOk_name hok i (by omega)
    have hw:wrap64 ((i:Int)+1)=((i+1:Nat):Int):=by rw[wrap_id (by omega) (by omega)];omega
    simp only[spec_Without.l0,keptFrom]
    rw[if_pos (by omega),if_pos (by omega),spec_SameFold_eq _ a (by omega) (by omega),Option.bind_some,hw]
    by_cases hb:sameB (rd_T41 l (i:Int)).f0 a=true
    · rw[if_pos hb,if_pos hb]
      exact ih k (i+1) out (by omega) (by omega) (by omega) (by omega)
    · rw[if_neg hb,if_neg hb,if_pos (by omega)]
      exact ih k (i+1) _ (by omega) (by omega) (by simp;omega) (by omega)
def withoutOf (l:List FieldT) (a:ByteArray):List FieldT:=if fieldsOkB l=true then keptFrom l a l.length 0 [] else []
theorem withoutOf_length (l:List FieldT) (a:ByteArray):(withoutOf l a).length≤20:=by
  unfold withoutOf
  split
  · rename_i h
    have h1:=fieldsOk_short h
    have h2:=keptFrom_length l a l.length 0 []
    simp at h2;omega
  · exact Nat.zero_le _
theorem spec_Without_eq (l:List FieldT) (a:ByteArray) (ha:a.size≤140737488351232) (k:Nat) (hk:6000<k):spec_Without.f k l a=some (withoutOf l a):=by
  unfold spec_Without.f withoutOf
  rw[spec_FieldsOk_eq l k hk,Option.bind_some]
  by_cases h:fieldsOkB l=true
  · have:=fieldsOk_short h
    rw[if_pos h,if_pos h]
    exact spec_kept l a ha h l.length k 0 [] (Nat.zero_le _) (by omega) (Nat.le_refl _) (by omega)
  · rw[if_neg h,if_neg h]

end Go.Proofs.YtonmpnghlopnoaaGreatDoor.P
end

section
/- Plain laws of our own (KeptF): about numbers and lists alone; no condition beyond those written. -/
namespace Go.Proofs.YtonmpnghlopnoaaGreatDoor.P
open Go.RowKit Go.Proofs.YtonmpnghlopnoaaGreatDoorW.PrintWords Go.Proofs.YtonmpnghlopnoaaGreatDoorW.PrintLast Go.Proofs.YtonmpnghlopnoaaGreatDoorW.PrintMore
set_option linter.unusedVariables false
set_option linter.unusedSimpArgs false
set_option maxHeartbeats 2000000
def trT : ByteArray:=(⟨#[116,114,97,105,108,101,114]⟩:ByteArray)
def frB (n:ByteArray):Bool:=(foldS n).toList==([99,111,110,116,101,110,116,45,108,101,110,103,116,104]:List UInt8)||((foldS n).toList==([116,114,97,110,115,102,101,114,45,101,110,99,111,100,105,110,103]:List UInt8)||(foldS n).toList==([116,114,97,105,108,101,114]:List UInt8))
theorem readMsg_1_eq (n:ByteArray) (hn:n.size≤9223372036854775807) (k:Nat) (hk:10<k):impl_readMsg_1.f k n=some (!frB n):=by
  obtain⟨k,rfl⟩:∃ q,k=q+4:=⟨k-4,by omega⟩
  unfold impl_readMsg_1.f impl_framed.f impl_Fold.f
  rw[Option.bind_some,if_pos hn,Option.bind_some]
  unfold slices_Contains_string_string.f slices_Index_string_string.f
  have w0:wrap64 (0+1)=1:=by unfold wrap64;omega
  have w1:wrap64 (1+1)=2:=by unfold wrap64;omega
  have w2:wrap64 (2+1)=3:=by unfold wrap64;omega
  have e1:(⟨#[99,111,110,116,101,110,116,45,108,101,110,103,116,104]⟩:ByteArray).toList=([99,111,110,116,101,110,116,45,108,101,110,103,116,104]:List UInt8):=by decide +kernel
  have e2:(⟨#[116,114,97,110,115,102,101,114,45,101,110,99,111,100,105,110,103]⟩:ByteArray).toList=([116,114,97,110,115,102,101,114,45,101,110,99,111,100,105,110,103]:List UInt8):=by decide +kernel
  have e3:(⟨#[116,114,97,105,108,101,114]⟩:ByteArray).toList=([116,114,97,105,108,101,114]:List UInt8):=by decide +kernel
  have hl:((([(⟨#[99,111,110,116,101,110,116,45,108,101,110,103,116,104]⟩:ByteArray),(⟨#[116,114,97,110,115,102,101,114,45,101,110,99,111,100,105,110,103]⟩:ByteArray),(⟨#[116,114,97,105,108,101,114]⟩:ByteArray)]:List ByteArray).length:Nat):Int)=3:=rfl
  have r0:∀ a b c:ByteArray,rdOf ByteArray.empty [a,b,c] 0=a:=fun _ _ _=>rfl
  have r1:∀ a b c:ByteArray,rdOf ByteArray.empty [a,b,c] 1=b:=fun _ _ _=>rfl
  have r2:∀ a b c:ByteArray,rdOf ByteArray.empty [a,b,c] 2=c:=fun _ _ _=>rfl
  simp only[slices_Index_string_string.l0,hl,w0,w1,w2,r0,r1,r2,e1,e2,e3,show((0:Int)<3)=True from eq_true (by decide),show((1:Int)<3)=True from eq_true (by decide),show((2:Int)<3)=True from eq_true (by decide),show((3:Int)<3)=False from eq_false (by decide),
    show((0:Int)≤0)=True from eq_true (by decide),show((0:Int)≤1)=True from eq_true (by decide),show((0:Int)≤2)=True from eq_true (by decide),if_true,if_false]
  unfold frB
  by_cases h1:(foldS n).toList=([99,111,110,116,101,110,116,45,108,101,110,103,116,104]:List UInt8)
  · rw[if_pos h1,h1];rfl
  · rw[if_neg h1,beq_eq_false_iff_ne.2 h1]
    by_cases h2:(foldS n).toList=([116,114,97,110,115,102,101,114,45,101,110,99,111,100,105,110,103]:List UInt8)
    · rw[if_pos h2,h2];rfl
    · rw[if_neg h2,beq_eq_false_iff_ne.2 h2]
      by_cases h3:(foldS n).toList=([116,114,97,105,108,101,114]:List UInt8)
      · rw[if_pos h3,h3];rfl
      · rw[if_neg h3,beq_eq_false_iff_ne.2 h3];rfl
def notNamed (a:ByteArray) (f:FieldT):Bool:=!(sameB f.f0 a)
theorem keptFrom_filter (l:List FieldT) (a:ByteArray):∀(d i:Nat) (out:List FieldT),i≤l.length→l.length-i=d→keptFrom l a d i out=out++(l.drop i).filter (notNamed a):=by
  intro d
  induction d with
  |zero=>
    intro i out h0 hd
    rw[List.drop_of_length_le (by omega)]
    simp[keptFrom]
  |succ d ih=>
    intro i out h0 hd
    have hi:i<l.length:=by omega
    have e:rd_T41 l (i:Int)=l[i]:=by
      unfold rd_T41
      rw[Int.toNat_natCast,List.getD_eq_getElem?_getD,List.getElem?_eq_getElem hi]
      rfl
    simp only[keptFrom]
    rw[ih (i+1) _ (by omega) (by omega),List.drop_eq_getElem_cons hi,List.filter_cons,e]
    unfold notNamed
    cases hb:sameB l[i].f0 a with
    |true=>simp
    |false=>simp
theorem fieldsOk_iff (l:List FieldT):fieldsOkB l=true↔l.length≤20∧∀ f∈l,fieldOkB f.f0 f.f1=true:=by
  have back:∀(d i:Nat),i+d=l.length→(∀ f∈l,fieldOkB f.f0 f.f1=true)→allB (fun i=>fieldOkB (rd_T41 l i).f0 (rd_T41 l i).f1) d (i:Int)=true:=by
    intro d
    induction d with
    |zero=>intro i _ _;rfl
    |succ d ih=>
      intro i hi hf
      have hlt:i<l.length:=by omega
      have e:rd_T41 l (i:Int)=l[i]:=by
        unfold rd_T41
        rw[Int.toNat_natCast,List.getD_eq_getElem?_getD,List.getElem?_eq_getElem hlt]
        rfl
      simp only[allB]
      rw[e,hf _ (List.getElem_mem hlt),Bool.true_and]
      exact ih (i+1) (by omega) hf
  constructor
  · intro h
    refine⟨fieldsOk_short h,fun f hf=>?_⟩
    obtain⟨j,hj,rfl⟩:=List.getElem_of_mem hf
    unfold fieldsOkB at h
    have h2:=allB_at _ _ (Bool.and_eq_true_iff.1 h).2 j hj
    rw[Int.zero_add] at h2
    have e:rd_T41 l (j:Int)=l[j]:=by
      unfold rd_T41
      rw[Int.toNat_natCast,List.getD_eq_getElem?_getD,List.getElem?_eq_getElem hj]
      rfl
    rw[e] at h2
    exact h2
  · intro h
    unfold fieldsOkB
    rw[decide_eq_true h.1,Bool.true_and]
    exact back l.length 0 (by omega) h.2
theorem fieldsOk_filter {l:List FieldT} (h:fieldsOkB l=true) (p:FieldT→Bool):fieldsOkB (l.filter p)=true:=by
  obtain⟨h1,h2⟩:=(fieldsOk_iff l).1 h
  refine(fieldsOk_iff _).2 ⟨Nat.le_trans (List.length_filter_le p l) h1,fun f hf=>h2 f (List.mem_filter.1 hf).1⟩
theorem withoutOf_filter {l:List FieldT} (h:fieldsOkB l=true) (a:ByteArray):withoutOf l a=l.filter (notNamed a):=by
  unfold withoutOf
  rw[if_pos h,keptFrom_filter l a l.length 0 [] (Nat.zero_le _) (by omega)]
  simp
def keptOf (l:List FieldT):List FieldT:=if fieldsOkB l=true then l.filter (fun f=>!frB f.f0) else []
theorem fold_cl : (foldS clT).toList=([99,111,110,116,101,110,116,45,108,101,110,103,116,104]:List UInt8):=by decide +kernel
theorem fold_te : (foldS teT).toList=([116,114,97,110,115,102,101,114,45,101,110,99,111,100,105,110,103]:List UInt8):=by decide +kernel
theorem fold_tr : (foldS trT).toList=([116,114,97,105,108,101,114]:List UInt8):=by decide +kernel
theorem not_fr (f:FieldT):(notNamed clT f&&(notNamed teT f&&notNamed trT f)) = !frB f.f0:=by
  unfold notNamed sameB frB
  rw[fold_cl,fold_te,fold_tr]
  cases(foldS f.f0).toList==([99,111,110,116,101,110,116,45,108,101,110,103,116,104]:List UInt8) <;> cases(foldS f.f0).toList==([116,114,97,110,115,102,101,114,45,101,110,99,111,100,105,110,103]:List UInt8) <;> rfl
theorem without3 (l:List FieldT):withoutOf (withoutOf (withoutOf l clT) teT) trT=keptOf l:=by
  unfold keptOf
  by_cases h:fieldsOkB l=true
  · rw[if_pos h,withoutOf_filter h,withoutOf_filter (fieldsOk_filter h _),withoutOf_filter (fieldsOk_filter (fieldsOk_filter h _) _),List.filter_filter,List.filter_filter]
    congr 1
    funext f
    rw[← not_fr f]
    cases notNamed clT f <;> cases notNamed teT f <;> cases notNamed trT f <;> rfl
  · rw[if_neg h]
    have e:withoutOf l clT = []:=by unfold withoutOf;rw[if_neg h]
    have n:∀ a,withoutOf ([]:List FieldT) a = []:=fun a=>by
      rw[withoutOf_filter ((fieldsOk_iff []).2 ⟨Nat.zero_le _,fun f hf=>by cases hf⟩)]
      rfl
    rw[e,n,n]
theorem impl_keptF_loop (l:List FieldT) (hok:fieldsOkB l=true):∀(d i:Nat) (out:List FieldT),i≤l.length→l.length-i=d→out.length≤i→∀ k,d+20<k→
    impl_kept__impl_readMsg_1.l0 k out l (l.length:Int) (i:Int)=some (out++(l.drop i).filter (fun f=>!frB f.f0)):=by
  have hl:=fieldsOk_short hok
  intro d
  induction d with
  |zero=>
    intro i out h0 hd ho k hk
    obtain⟨k,rfl⟩:=ex_succ k (by omega)
    rw[List.drop_of_length_le (by omega)]
    simp only[impl_kept__impl_readMsg_1.l0]
    rw[if_neg (by omega)]
    simp
  |succ d ih=>
    intro i out h0 hd ho k hk
    obtain⟨k,rfl⟩:=ex_succ k (by omega)
    have hi:i<l.length:=by omega
    have hn:=fieldsOk_name hok i hi
    have hwi:=wrap_succ i (by omega)
    have e:rd_T41 l (i:Int)=l[i]:=by
      unfold rd_T41
      rw[Int.toNat_natCast,List.getD_eq_getElem?_getD,List.getElem?_eq_getElem hi]
      rfl
    simp only[impl_kept__impl_readMsg_1.l0]
    rw[if_pos (by omega),if_pos (by omega),if_pos (by omega),readMsg_1_eq _ (by omega) k (by omega),Option.bind_some,hwi,List.drop_eq_getElem_cons hi,List.filter_cons,e]
    cases hb:frB l[i].f0 with
    |true=>
      rw[if_neg (by decide),if_neg (by decide)]
      exact ih (i+1) out (by omega) (by omega) (by omega) k (by omega)
    |false=>
      rw[if_pos (show(!false)=true from rfl),if_pos (show(!false)=true from rfl),if_pos (by omega),ih (i+1) _ (by omega) (by omega) (by simp;omega) k (by omega)]
      simp
theorem impl_keptF_eq (l:List FieldT) (k:Nat) (hk:6100<k):impl_kept__impl_readMsg_1.f k l=some (keptOf l):=by
  unfold impl_kept__impl_readMsg_1.f keptOf
  rw[impl_FieldsOk_eq l k (by omega),Option.bind_some]
  by_cases h:fieldsOkB l=true
  · have:=fieldsOk_short h
    rw[if_pos h,if_pos h]
    refine(impl_keptF_loop l h l.length 0 [] (Nat.zero_le _) (by omega) (Nat.le_refl _) k (by omega)).trans ?_
    simp
  · rw[if_neg h,if_neg h]
theorem spec_without3_eq (l:List FieldT) (k:Nat) (hk:6100<k) {β:Type} (F:List FieldT→Option β) :
    ((spec_Without.f k l clT).bind fun t=>(spec_Without.f k t teT).bind fun t=>(spec_Without.f k t trT).bind F)=F (keptOf l):=by
  rw[spec_Without_eq l clT (by decide) k (by omega),Option.bind_some,spec_Without_eq _ teT (by decide) k (by omega),Option.bind_some,spec_Without_eq _ trT (by decide) k (by omega),Option.bind_some,without3]
theorem keptOf_len (l:List FieldT):(keptOf l).length≤20:=by rw[← without3];exact withoutOf_length _ _

end Go.Proofs.YtonmpnghlopnoaaGreatDoor.P
end

section
/- Plain laws of our own (MsgOk): about numbers and lists alone; no condition beyond those written. -/
namespace Go.Proofs.YtonmpnghlopnoaaGreatDoor.P
open Go.RowKit Go.Proofs.YtonmpnghlopnoaaGreatDoorW.PrintWords Go.Proofs.YtonmpnghlopnoaaGreatDoorW.PrintLast Go.Proofs.YtonmpnghlopnoaaGreatDoorW.PrintMore
set_option linter.unusedVariables false
set_option linter.unusedSimpArgs false
set_option maxHeartbeats 2000000
theorem valsFrom_filter (l:List FieldT) (a:ByteArray):∀(d i:Nat) (out:List ByteArray),i≤l.length→l.length-i=d→valsFrom l a d i out=out++((l.drop i).filter (fun f=>sameB f.f0 a)).map (fun f=>f.f1):=by
  intro d
  induction d with
  |zero=>
    intro i out h0 hd
    rw[List.drop_of_length_le (by omega)]
    simp[valsFrom]
  |succ d ih=>
    intro i out h0 hd
    have hi:i<l.length:=by omega
    have e:rd_T41 l (i:Int)=l[i]:=by
      unfold rd_T41
      rw[Int.toNat_natCast,List.getD_eq_getElem?_getD,List.getElem?_eq_getElem hi]
      rfl
    simp only[valsFrom]
    rw[ih (i+1) _ (by omega) (by omega),List.drop_eq_getElem_cons hi,List.filter_cons,e]
    cases hb:sameB l[i].f0 a with
    |true=>simp
    |false=>simp
theorem hasB_any {l:List FieldT} (h:fieldsOkB l=true) (a:ByteArray):hasB l a=l.any (fun f=>sameB f.f0 a):=by
  unfold hasB valuesOf
  rw[if_pos h,valsFrom_filter l a l.length 0 [] (Nat.zero_le _) (by omega)]
  simp only[List.nil_append,List.length_map,List.drop_zero]
  cases ha:l.any (fun f=>sameB f.f0 a) with
  |true=>
    obtain⟨f,hf,hs⟩:=List.any_eq_true.1 ha
    exact decide_eq_true (List.length_pos_of_mem (List.mem_filter.2 ⟨hf,hs⟩))
  |false=>
    have:l.filter (fun f=>sameB f.f0 a) = []:=List.filter_eq_nil_iff.2 (fun f hf hs=>by
      have:=List.any_eq_false.1 ha f hf
      exact this hs)
    rw[this];rfl
theorem anyFr (l:List FieldT):l.any (fun f=>frB f.f0)=(l.any (fun f=>sameB f.f0 clT)||(l.any (fun f=>sameB f.f0 teT)||l.any (fun f=>sameB f.f0 trT))):=by
  induction l with
  |nil=>rfl
  |cons f l ih=>
    simp only[List.any_cons,ih]
    have e:frB f.f0=(sameB f.f0 clT||(sameB f.f0 teT||sameB f.f0 trT)):=by
      unfold frB sameB
      rw[fold_cl,fold_te,fold_tr]
    rw[e]
    cases sameB f.f0 clT <;> cases sameB f.f0 teT <;> cases sameB f.f0 trT <;> simp
theorem spec_framed_loop (l:List FieldT) (hok:fieldsOkB l=true):∀(d i:Nat),i≤l.length→l.length-i=d→∀ k,d<k→spec_l6framed.l0 k l (i:Int)=some ((l.drop i).any (fun f=>frB f.f0)):=by
  have hl:=fieldsOk_short hok
  intro d
  induction d with
  |zero=>
    intro i h0 hd k hk
    obtain⟨k,rfl⟩:=ex_succ k (by omega)
    rw[List.drop_of_length_le (by omega)]
    simp only[spec_l6framed.l0]
    rw[if_neg (by omega)]
    rfl
  |succ d ih=>
    intro i h0 hd k hk
    obtain⟨k,rfl⟩:=ex_succ k (by omega)
    have hi:i<l.length:=by omega
    have hn:=fieldsOk_name hok i hi
    have hwi:=wrap_succ i (by omega)
    have e:rd_T41 l (i:Int)=l[i]:=by
      unfold rd_T41
      rw[Int.toNat_natCast,List.getD_eq_getElem?_getD,List.getElem?_eq_getElem hi]
      rfl
    rw[e] at hn
    simp only[spec_l6framed.l0]
    unfold spec_Fold.f
    rw[if_pos (by omega),if_pos (by omega),e,if_pos (by omega),Option.bind_some,hwi,List.drop_eq_getElem_cons hi,List.any_cons]
    unfold frB
    by_cases h1:(foldS l[i].f0).toList=([99,111,110,116,101,110,116,45,108,101,110,103,116,104]:List UInt8)
    · rw[if_pos h1,h1];rfl
    · rw[if_neg h1,beq_eq_false_iff_ne.2 h1]
      by_cases h2:(foldS l[i].f0).toList=([116,114,97,110,115,102,101,114,45,101,110,99,111,100,105,110,103]:List UInt8)
      · rw[if_pos h2,h2];rfl
      · rw[if_neg h2,beq_eq_false_iff_ne.2 h2]
        by_cases h3:(foldS l[i].f0).toList=([116,114,97,105,108,101,114]:List UInt8)
        · rw[if_pos h3,h3];rfl
        · rw[if_neg h3,beq_eq_false_iff_ne.2 h3,ih (i+1) (by omega) (by omega) k (by omega)]
          rfl
def linesN : List FieldT→Nat
  |[]=>0
  |f::l=>f.f0.size+f.f1.size+4+linesN l
def firstN (m0 m1:ByteArray) (m2:Int) (m3:ByteArray):Nat:=if m0.toList=([]:List UInt8) then 9+(itoaT m2).size+1+m3.size+2 else m0.size+1+m1.size+11
def headN (m0 m1:ByteArray) (m2:Int) (m3:ByteArray) (m4:Bool) (l:List FieldT) (m6:ByteArray):Nat:=firstN m0 m1 m2 m3+linesN l+(if tellsB m0 m4 m6=true then 16+(itoaT (m6.size:Int)).size+2 else 0)+2
theorem linesT_exact : ∀(l:List FieldT) (t:ByteArray),(linesT t l).size=t.size+linesN l
  |[],t=>rfl
  |f::l,t=>by
    have h1:=linesT_exact l (t++lineT f)
    have h2:(lineT f).size=f.f0.size+f.f1.size+4:=by
      unfold lineT
      simp only[app_size]
      show f.f0.size+2+f.f1.size+2=_
      omega
    rw[app_size] at h1
    show(linesT (t++lineT f) l).size=t.size+(f.f0.size+f.f1.size+4+linesN l)
    omega
theorem headT_size (m0 m1:ByteArray) (m2:Int) (m3:ByteArray) (m4:Bool) (l:List FieldT) (m6:ByteArray):(headT m0 m1 m2 m3 m4 l m6).size=headN m0 m1 m2 m3 m4 l m6:=by
  have h1:(firstT m0 m1 m2 m3).size=firstN m0 m1 m2 m3:=by
    unfold firstT firstN
    split
    · simp only[app_size];rfl
    · simp only[app_size];rfl
  have h2:(lengthT m6).size=16+(itoaT (m6.size:Int)).size+2:=by
    unfold lengthT
    simp only[app_size];rfl
  have h3:=linesT_exact l ((⟨#[]⟩:ByteArray)++firstT m0 m1 m2 m3)
  rw[app_size,h1] at h3
  have h4:(⟨#[]⟩:ByteArray).size=0:=rfl
  have h5:(⟨#[13,10]⟩:ByteArray).size=2:=rfl
  unfold headT headN
  simp only
  rw[app_size,h5]
  split
  · rw[app_size,h2];omega
  · omega
theorem fieldsOk_sizes {l:List FieldT} (h:fieldsOkB l=true):∀ f∈l,f.f0.size≤40∧f.f1.size≤190:=by
  intro f hf
  have:=((fieldsOk_iff l).1 h).2 f hf
  unfold fieldOkB at this
  simp only[Bool.and_eq_true,decide_eq_true_eq] at this
  exact⟨this.1,this.2.2.1⟩
theorem c2_size : (⟨#[13,10]⟩:ByteArray).size=2:=rfl
theorem c16_size : (⟨#[67,111,110,116,101,110,116,45,76,101,110,103,116,104,58,32]⟩:ByteArray).size=16:=rfl
theorem cc_size : (⟨#[58,32]⟩:ByteArray).size=2:=rfl
theorem tail_tell (t d:ByteArray) (ht:t.size≤2000000) (hd:d.size≤21) (o:Option ByteArray) (ho:o=some d):∃ r:ByteArray,
    (if t.size+16≤9223372036854775807 then(o.bind fun t856=>(if(t++(⟨#[67,111,110,116,101,110,116,45,76,101,110,103,116,104,58,32]⟩:ByteArray)).size+t856.size≤9223372036854775807 then(if((t++(⟨#[67,111,110,116,101,110,116,45,76,101,110,103,116,104,58,32]⟩:ByteArray))++t856).size+2≤9223372036854775807 then(if(((t++(⟨#[67,111,110,116,101,110,116,45,76,101,110,103,116,104,58,32]⟩:ByteArray))++t856)++(⟨#[13,10]⟩:ByteArray)).size+2≤9223372036854775807 then(some ((((t++(⟨#[67,111,110,116,101,110,116,45,76,101,110,103,116,104,58,32]⟩:ByteArray))++t856)++(⟨#[13,10]⟩:ByteArray))++(⟨#[13,10]⟩:ByteArray))) else(none)) else(none)) else(none))) else(none))=some r∧r.size=t.size+16+d.size+2+2:=by
  have e1:(t++(⟨#[67,111,110,116,101,110,116,45,76,101,110,103,116,104,58,32]⟩:ByteArray)).size=t.size+16:=by rw[app_size,c16_size]
  have e2:((t++(⟨#[67,111,110,116,101,110,116,45,76,101,110,103,116,104,58,32]⟩:ByteArray))++d).size=t.size+16+d.size:=by rw[app_size,e1]
  have e3:(((t++(⟨#[67,111,110,116,101,110,116,45,76,101,110,103,116,104,58,32]⟩:ByteArray))++d)++(⟨#[13,10]⟩:ByteArray)).size=t.size+16+d.size+2:=by rw[app_size,e2,c2_size]
  have e4:((((t++(⟨#[67,111,110,116,101,110,116,45,76,101,110,103,116,104,58,32]⟩:ByteArray))++d)++(⟨#[13,10]⟩:ByteArray))++(⟨#[13,10]⟩:ByteArray)).size=t.size+16+d.size+2+2:=by rw[app_size,e3,c2_size]
  rw[ho,if_pos (by omega),Option.bind_some,if_pos (by rw[e1];omega),if_pos (by rw[e2];omega),if_pos (by rw[e3];omega)]
  exact⟨_,rfl,e4⟩
theorem tail_none (t:ByteArray) (ht:t.size≤2000000):∃ r:ByteArray,(if t.size+2≤9223372036854775807 then(some (t++(⟨#[13,10]⟩:ByteArray))) else(none))=some r∧r.size=t.size+2:=by
  rw[if_pos (by omega)]
  exact⟨_,rfl,by rw[app_size,c2_size]⟩
theorem field_step (t a b:ByteArray) (ht:t.size≤2000000) (ha:a.size≤40) (hb:b.size≤190) :
    a.size+2≤9223372036854775807∧(a++(⟨#[58,32]⟩:ByteArray)).size+b.size≤9223372036854775807∧t.size+((a++(⟨#[58,32]⟩:ByteArray))++b).size≤9223372036854775807∧(t++((a++(⟨#[58,32]⟩:ByteArray))++b)).size+2≤9223372036854775807∧
    ((t++((a++(⟨#[58,32]⟩:ByteArray))++b))++(⟨#[13,10]⟩:ByteArray)).size=t.size+(a.size+b.size+4):=by
  have e1:(a++(⟨#[58,32]⟩:ByteArray)).size=a.size+2:=by rw[app_size,cc_size]
  have e2:((a++(⟨#[58,32]⟩:ByteArray))++b).size=a.size+2+b.size:=by rw[app_size,e1]
  have e3:(t++((a++(⟨#[58,32]⟩:ByteArray))++b)).size=t.size+(a.size+2+b.size):=by rw[app_size,e2]
  have e4:((t++((a++(⟨#[58,32]⟩:ByteArray))++b))++(⟨#[13,10]⟩:ByteArray)).size=t.size+(a.size+2+b.size)+2:=by rw[app_size,e3,c2_size]
  rw[e1,e2,e3,e4]
  refine⟨?_,?_,?_,?_,?_⟩ <;> omega
theorem spec_head_loop (m0 m1:ByteArray) (m2:Int) (m3:ByteArray) (m4:Bool) (l:List FieldT) (m6:ByteArray) (hok:fieldsOkB l=true) (h6:m6.size≤600):∀(d i:Nat),i≤l.length→l.length-i=d→∀(t:ByteArray),t.size≤1000000+300*i→
    ∀ k,d+5200<k→∃ r:ByteArray,spec_l6head.l0 k t (i:Int) m0 m1 m2 m3 m4 l m6=some r∧r.size=t.size+linesN (l.drop i)+(if tellsB m0 m4 m6=true then 16+(itoaT (m6.size:Int)).size+2 else 0)+2:=by
  have hl:=fieldsOk_short hok
  have hi21:=itoaT_size (m6.size:Int) (by omega) (by omega)
  intro d
  induction d with
  |zero=>
    intro i h0 hd t ht k hk
    obtain⟨k,rfl⟩:=ex_succ k (by omega)
    have ht2:t.size≤2000000:=by omega
    have hdec:=spec_DecText_eq (m6.size:Int) (by omega) (by omega) k (by omega)
    rw[List.drop_of_length_le (by omega)]
    obtain⟨ra,ha1,ha2⟩:=tail_tell t _ ht2 hi21 _ hdec
    obtain⟨rb,hb1,hb2⟩:=tail_none t ht2
    clear ht hk hdec ht2
    simp only[spec_l6head.l0,linesN]
    rw[if_neg (by omega)]
    by_cases e0:m0.toList=([]:List UInt8)
    · rw[if_pos e0]
      cases m4 with
      |true=>
        rw[if_pos rfl,if_neg (show ¬ tellsB m0 true m6=true by unfold tellsB;rw[if_pos e0];decide)]
        exact⟨rb,hb1,by rw[hb2]⟩
      |false=>
        rw[if_neg (by decide),if_pos (show tellsB m0 false m6=true by unfold tellsB;rw[if_pos e0];rfl)]
        exact⟨ra,ha1,by rw[ha2];omega⟩
    · rw[if_neg e0]
      by_cases e6:m6.toList=([]:List UInt8)
      · rw[if_pos e6,if_neg (show ¬ tellsB m0 m4 m6=true by unfold tellsB;rw[if_neg e0,e6];decide)]
        exact⟨rb,hb1,by rw[hb2]⟩
      · rw[if_neg e6,if_pos (show tellsB m0 m4 m6=true by unfold tellsB;rw[if_neg e0];exact bne_iff_ne.2 e6)]
        exact⟨ra,ha1,by rw[ha2];omega⟩
  |succ d ih=>
    intro i h0 hd t ht k hk
    obtain⟨k,rfl⟩:=ex_succ k (by omega)
    have hi:i<l.length:=by omega
    have hwi:=wrap_succ i (by omega)
    have e:rd_T41 l (i:Int)=l[i]:=by
      unfold rd_T41
      rw[Int.toNat_natCast,List.getD_eq_getElem?_getD,List.getElem?_eq_getElem hi]
      rfl
    have hf:=((fieldsOk_iff l).1 hok).2 l[i] (List.getElem_mem hi)
    have hs:=fieldsOk_sizes hok l[i] (List.getElem_mem hi)
    obtain⟨q1,q2,q3,q4,q5⟩:=field_step t l[i].f0 l[i].f1 (by omega) hs.1 hs.2
    have hft:spec_FieldText.f k l[i].f0 l[i].f1=some ((l[i].f0++(⟨#[58,32]⟩:ByteArray))++l[i].f1):=by
      unfold spec_FieldText.f
      rw[spec_FieldOk_eq _ _ k (by omega),Option.bind_some,if_pos hf,if_pos q1,if_pos q2]
    have hih:=ih (i+1) (by omega) (by omega) (((t++((l[i].f0++(⟨#[58,32]⟩:ByteArray))++l[i].f1))++(⟨#[13,10]⟩:ByteArray))) (by rw[q5];omega) k (by omega)
    rw[q5] at hih
    obtain⟨r,hr1,hr2⟩:=hih
    clear ht hk ih
    simp only[spec_l6head.l0]
    rw[if_pos (by omega),if_pos (by omega),e,hft,Option.bind_some,if_pos q3,if_pos q4,hwi]
    refine⟨r,hr1,?_⟩
    rw[hr2,List.drop_eq_getElem_cons hi]
    simp only[linesN]
    omega
theorem spec_head_eq (m0 m1:ByteArray) (m2:Int) (m3:ByteArray) (m4:Bool) (l:List FieldT) (m6:ByteArray) (hok:fieldsOkB l=true) (h6:m6.size≤600) (h0:m0.size≤20) (h1:m1.size≤200) (h2:0≤m2∧m2≤599) (h3:m3.size≤40) (k:Nat) (hk:6000<k) :
    ∃ r:ByteArray,spec_l6head.f k m0 m1 m2 m3 m4 l m6=some r∧r.size=headN m0 m1 m2 m3 m4 l m6:=by
  have hi21:=itoaT_size m2 h2.1 (by omega)
  have c1:(⟨#[32]⟩:ByteArray).size=1:=rfl
  have c2:(⟨#[13,10]⟩:ByteArray).size=2:=rfl
  have c9:(⟨#[72,84,84,80,47,49,46,49,32]⟩:ByteArray).size=9:=rfl
  have c11:(⟨#[32,72,84,84,80,47,49,46,49,13,10]⟩:ByteArray).size=11:=rfl
  obtain⟨k,rfl⟩:=ex_succ k (by omega)
  unfold spec_l6head.f headN firstN
  rw[if_pos (by omega),if_pos (by rw[app_size,c1];omega),if_pos (by simp only[app_size,c1];omega)]
  by_cases e0:m0.toList=([]:List UInt8)
  · rw[if_pos e0,if_pos e0,spec_DecText_eq m2 h2.1 (by omega) (k+1) (by omega),Option.bind_some,if_pos (by omega),if_pos (by simp only[app_size,c9];omega),if_pos (by simp only[app_size,c9,c1];omega),if_pos (by simp only[app_size,c9,c1];omega)]
    simp only[spec_l6head.j0]
    obtain⟨r,hr1,hr2⟩:=spec_head_loop m0 m1 m2 m3 m4 l m6 hok h6 l.length 0 (Nat.zero_le _) (by omega) (((((⟨#[72,84,84,80,47,49,46,49,32]⟩:ByteArray)++itoaT m2)++(⟨#[32]⟩:ByteArray))++m3)++(⟨#[13,10]⟩:ByteArray)) (by simp only[app_size,c9,c1,c2];omega) k (by have:=fieldsOk_short hok;omega)
    refine⟨r,hr1,?_⟩
    rw[hr2,List.drop_zero]
    simp only[app_size,c9,c1,c2]
  · rw[if_neg e0,if_neg e0]
    simp only[spec_l6head.j0]
    obtain⟨r,hr1,hr2⟩:=spec_head_loop m0 m1 m2 m3 m4 l m6 hok h6 l.length 0 (Nat.zero_le _) (by omega) (((m0++(⟨#[32]⟩:ByteArray))++m1)++(⟨#[32,72,84,84,80,47,49,46,49,13,10]⟩:ByteArray)) (by simp only[app_size,c1,c11];omega) k (by have:=fieldsOk_short hok;omega)
    refine⟨r,hr1,?_⟩
    rw[hr2,List.drop_zero]
    simp only[app_size,c1,c11]
theorem impl_head_eq (m0 m1:ByteArray) (m2:Int) (m3:ByteArray) (m4:Bool) (l:List FieldT) (m6:ByteArray) (hok:fieldsOkB l=true) (h6:m6.size≤600) (h0:m0.size≤20) (h1:m1.size≤200) (h2:0≤m2∧m2≤599) (h3:m3.size≤40) :
    ∃ r:ByteArray,impl_writeHead.f m0 m1 m2 m3 m4 l m6=some r∧r.size=headN m0 m1 m2 m3 m4 l m6:=by
  have hl:=fieldsOk_short hok
  have hs:=fieldsOk_sizes hok
  refine⟨headT m0 m1 m2 m3 m4 l m6,?_,headT_size _ _ _ _ _ _ _⟩
  unfold impl_writeHead.f
  rw[if_pos]
  exact⟨by omega,by omega,⟨h2.1,by omega⟩,by omega,by omega,by omega,fun f hf=>⟨by have:=(hs f hf).1;omega,by have:=(hs f hf).2;omega⟩⟩

end Go.Proofs.YtonmpnghlopnoaaGreatDoor.P
end

section
/- Plain laws of our own (Request): about numbers and lists alone; no condition beyond those written. -/
namespace Go.Proofs.YtonmpnghlopnoaaGreatDoor.P
open Go.RowKit Go.Proofs.YtonmpnghlopnoaaGreatDoorW.PrintWords Go.Proofs.YtonmpnghlopnoaaGreatDoorW.PrintLast Go.Proofs.YtonmpnghlopnoaaGreatDoorW.PrintMore
set_option linter.unusedVariables false
set_option linter.unusedSimpArgs false
set_option maxHeartbeats 2000000
theorem toListD (s:ByteArray):s.toList=s.data.toList:=ByteArray.toList_eq s
theorem rest_hit (s:ByteArray) (p n:Nat) (hp:p≤n) (h1:n<s.size) (h2:bt s (n:Int)=32) (h3:∀ m:Nat,p≤m→m<n→bt s (m:Int)≠32) :
    Lib.indexB (s.extract p s.size) (⟨#[32]⟩:ByteArray)=((n-p:Nat):Int):=by
  have hsz:(s.extract p s.size).size=s.size-p:=by rw[size_extract];omega
  show Lib.index (s.extract p s.size).data.toList [32]=_
  rw[Lib.index_one]
  apply indexByte_at_hit
  · omega
  · rw[bt_extract _ _ _ _ (by omega) (by omega) (by omega),show(p:Int)+((n-p:Nat):Int)=(n:Int) by omega];exact h2
  · intro m hm
    rw[bt_extract _ _ _ _ (by omega) (by omega) (by omega)]
    exact h3 (p+m) (by omega) (by omega)
theorem rest_none (s:ByteArray) (p:Nat) (h3:∀ m:Nat,p≤m→m<s.size→bt s (m:Int)≠32) :
    Lib.indexB (s.extract p s.size) (⟨#[32]⟩:ByteArray) = -1:=by
  have hsz:(s.extract p s.size).size=s.size-p:=by rw[size_extract];omega
  show Lib.index (s.extract p s.size).data.toList [32]=_
  rw[Lib.index_one]
  apply indexByte_at_none
  intro m hm
  rw[bt_extract _ _ _ _ (by omega) (by omega) (by omega)]
  exact h3 (p+m) (by omega) (by omega)
def splitW (s:ByteArray) (p:Nat):List ByteArray:=Lib.splitB (⟨#[32]⟩:ByteArray) 0 (Lib.countB (s.extract p s.size) (⟨#[32]⟩:ByteArray)) (s.extract p s.size)
theorem splitW_none (s:ByteArray) (p:Nat) (h3:∀ m:Nat,p≤m→m<s.size→bt s (m:Int)≠32):splitW s p = [s.extract p s.size]:=by
  unfold splitW
  exact Lib.splitB_miss _ _ _ _ (rest_none s p h3)
theorem splitW_hit (s:ByteArray) (p n:Nat) (hp:p≤n) (h1:n<s.size) (h2:bt s (n:Int)=32) (h3:∀ m:Nat,p≤m→m<n→bt s (m:Int)≠32) :
    splitW s p=s.extract p n::splitW s (n+1):=by
  have hix:=rest_hit s p n hp h1 h2 h3
  have hsz:(s.extract p s.size).size=s.size-p:=by rw[size_extract];omega
  have h1s:(⟨#[32]⟩:ByteArray).size=1:=rfl
  have hr:(s.extract p s.size).extract (n-p+1) (s.extract p s.size).size=s.extract (n+1) s.size:=by
    rw[hsz,ext_ext _ _ _ _ _ (by omega),show p+(n-p+1)=n+1 by omega,show p+(s.size-p)=s.size by omega]
  unfold splitW
  rw[Lib.countB_hit _ _ _ (by decide) hix,h1s,hr,Nat.add_comm 1,Lib.splitB_hit _ _ _ _ _ hix,h1s,hr,ext_ext _ _ _ _ _ (by omega),show p+0=p by omega,show p+(n-p+0)=n by omega]
theorem extract_all (s:ByteArray):s.extract 0 s.size=s:=by
  apply ByteArray.ext
  rw[ByteArray.data_extract]
  exact Array.extract_eq_self_of_le (Nat.le_refl _)
def visB (s:ByteArray):Bool:=allB (fun i=>decide (33≤bt s i∧bt s i≤126)) s.size 0
theorem impl_visible_eq (s:ByteArray) (hs:s.size≤1048576) (k:Nat) (hk:s.size+1<k):impl_all__impl_isVisible.f k s=some (visB s):=by
  refine all_from (fun k i=>impl_all__impl_isVisible.l0 k s i) s.size _ 1 (fun k i hi=>by simp only[impl_all__impl_isVisible.l0];rw[if_neg (by omega)]) (fun k i h0 h1 hk=>?_) k (by omega)
  simp only[impl_all__impl_isVisible.l0,impl_isVisible.f]
  rw[if_pos h1,if_pos h0,wrap_id (by omega) (by omega)]
  by_cases h:bt s i≥33
  · rw[if_pos h,Option.bind_some]
    by_cases h2:bt s i≤126
    · rw[if_pos (decide_eq_true h2),if_pos (decide_eq_true ⟨h,h2⟩)]
    · rw[if_neg (by rw[decide_eq_false h2];decide),if_neg (by rw[decide_eq_false (fun x=>h2 x.2)];decide)]
  · rw[if_neg h,Option.bind_some,if_neg (by decide),if_neg (by rw[decide_eq_false (fun x=>h x.1)];decide)]
theorem spec_visible_eq (s:ByteArray) (hs:s.size≤1048576) (k:Nat) (hk:s.size+1<k):spec_l6visible.f k s=some (decide (0<s.size)&&visB s):=by
  by_cases h0:0<s.size
  · rw[decide_eq_true h0,Bool.true_and]
    refine all_from (fun k i=>spec_l6visible.l0 k s i) s.size _ 1 (fun k i hi=>by simp only[spec_l6visible.l0];rw[if_neg (by omega),decide_eq_true (by omega)]) (fun k i h0 h1 hk=>?_) k (by omega)
    simp only[spec_l6visible.l0]
    rw[if_pos h1,if_pos h0,wrap_id (by omega) (by omega)]
    by_cases h:bt s i<33
    · rw[if_pos h,if_neg (by rw[decide_eq_false (fun x=>by omega)];decide)]
    · rw[if_neg h]
      by_cases h2:bt s i>126
      · rw[if_pos h2,if_neg (by rw[decide_eq_false (fun x=>by omega)];decide)]
      · rw[if_neg h2,if_pos (decide_eq_true (by omega))]
  · obtain⟨k,rfl⟩:=ex_succ k (by omega)
    unfold spec_l6visible.f
    simp only[spec_l6visible.l0]
    rw[if_neg (by omega),decide_eq_false h0,Bool.false_and,decide_eq_false (by omega)]
def reqR (a b:ByteArray) (ok:Bool):FirstR:=(a,b,0,(⟨#[]⟩:ByteArray),false,[],(⟨#[]⟩:ByteArray),ok)
def reqB (a b:ByteArray):Bool:=decide (a.size≤20)&&(tokB a&&(decide (b.size≤200)&&(decide (0<b.size)&&visB b)))
theorem spec_request_eq (a b:ByteArray) (k:Nat) (hk:5500<k):spec_l6request.f k a b 0 (⟨#[]⟩:ByteArray) false [] (⟨#[]⟩:ByteArray)=some (reqB a b):=by
  have h0:((⟨#[]⟩:ByteArray).toList=([]:List UInt8))=True:=eq_true (by decide +kernel)
  unfold spec_l6request.f reqB
  by_cases h1:a.size≤20
  · rw[if_pos (by omega),decide_eq_true h1,Bool.true_and,spec_Token_eq a k (by omega),Option.bind_some]
    by_cases h2:tokB a=true
    · rw[if_pos h2,h2,Bool.true_and]
      by_cases h3:b.size≤200
      · rw[if_pos (by omega),decide_eq_true h3,Bool.true_and,spec_visible_eq b (by omega) k (by omega),Option.bind_some]
        simp only[h0]
        cases(decide (0<b.size)&&visB b) <;> rfl
      · rw[if_neg (by omega),decide_eq_false h3,Bool.false_and]
    · rw[if_neg h2];simp[h2]
  · rw[if_neg (by omega),decide_eq_false h1,Bool.false_and]
theorem impl_request_eq (a b c:ByteArray) (k:Nat) (hk:5500<k):impl_readFirst.j1 (k+1) [a,b,c] false=some (reqR a b (reqB a b)):=by
  have e0:rdOf ByteArray.empty [a,b,c] 0=a:=rfl
  have e1:rdOf ByteArray.empty [a,b,c] 1=b:=rfl
  simp only[impl_readFirst.j1,e0,e1]
  rw[if_neg (by decide),if_pos (by simp),if_pos (by simp)]
  unfold impl_isMethod.f impl_isTarget.f reqB reqR
  rw[impl_Token_eq a k (by omega),Option.bind_some,within_eq]
  by_cases h2:tokB a=true
  · rw[if_pos h2,Option.bind_some,h2,Bool.true_and]
    by_cases h1:a.size≤20
    · rw[if_pos (decide_eq_true (by omega)),decide_eq_true h1,Bool.true_and,Option.bind_some]
      by_cases h3:b.size≤200
      · rw[decide_eq_true h3,Bool.true_and]
        by_cases h4:0<b.size
        · rw[if_pos (decide_eq_true (by omega)),decide_eq_true h4,Bool.true_and,impl_visible_eq b (by omega) k (by omega)]
          rfl
        · rw[if_neg (by rw[decide_eq_false (by omega)];decide),decide_eq_false h4,Bool.false_and]
          rfl
      · rw[if_neg (by rw[decide_eq_false (by omega)];decide),decide_eq_false h3,Bool.false_and]
        rfl
    · rw[if_neg (by rw[decide_eq_false (by omega)];decide),decide_eq_false h1,Bool.false_and]
  · rw[if_neg h2,Option.bind_some,if_neg (by decide)]
    simp[h2]
theorem impl_req_no (k:Nat) (l:List ByteArray):impl_readFirst.j1 (k+1) l true=some noFirst:=by
  simp only[impl_readFirst.j1]
  rfl
def verL : List UInt8:=[72,84,84,80,47,49,46,49]
def firstAt (s:ByteArray) (n:Nat):FirstR:=
  if s.size<n+11 then noFirst
  else if(s.extract (s.size-9) s.size).toList=([32,72,84,84,80,47,49,46,49]:List UInt8) then
    reqR (s.extract 0 n) (s.extract (n+1) (s.size-9)) (reqB (s.extract 0 n) (s.extract (n+1) (s.size-9)))
  else noFirst
theorem spec_first_hit (s:ByteArray) (hs:s.size≤1048576) (n:Nat) (hn:n<s.size) (hb:bt s (n:Int)=32) (k:Nat) (hk:5500<k):spec_l6first.l0 (k+1) s (n:Int)=some (firstAt s n):=by
  have hw:=wrap_succ n (by omega)
  have hw2:wrap64 ((n:Int)+11)=((n+11:Nat):Int):=by rw[wrap_id (by omega) (by omega)];rfl
  simp only[spec_l6first.l0]
  rw[if_pos (by omega),if_pos (by omega),if_pos hb,hw2,hw]
  clear hb
  unfold firstAt noFirst
  by_cases h:s.size<n+11
  · rw[if_pos (by omega),if_pos h]
  · have hw3:wrap64 ((s.size:Int)-9)=((s.size-9:Nat):Int):=by
      rw[wrap_id (by clear hw hw2;omega) (by clear hw hw2;omega)];clear hw hw2;omega
    rw[if_neg (by omega),if_neg h,hw3,if_pos (by clear hw hw2 hw3;omega),if_pos (by clear hw hw2 hw3;omega)]
    simp only[Int.toNat_natCast]
    clear hw hw2 hw3
    split
    · rw[if_pos (by omega),if_pos (by omega),if_pos (by omega),spec_request_eq _ _ k hk]
      rfl
    · rfl
theorem spec_first_none (s:ByteArray) (hs:s.size≤1048576) (k:Nat):spec_l6first.l0 (k+1) s (s.size:Int)=some noFirst:=by
  have hw2:wrap64 ((s.size:Int)+11)=((s.size+11:Nat):Int):=by rw[wrap_id (by omega) (by omega)];rfl
  simp only[spec_l6first.l0]
  rw[if_neg (by omega),hw2,if_pos (by omega)]
  rfl
theorem tail_list (s:ByteArray) (p:Nat):(s.extract p s.size).toList=s.data.toList.drop p:=by
  rw[toListD,list_extract,List.take_of_length_le (by rw[len_eq];omega)]
theorem last9_bt {s:ByteArray} (h9:9≤s.size) (h:(s.extract (s.size-9) s.size).toList=([32,72,84,84,80,47,49,46,49]:List UInt8)) :
    bt s ((s.size-9:Nat):Int)=32∧(∀ m:Nat,s.size-9<m→m<s.size→bt s (m:Int)≠32)∧(s.extract (s.size-8) s.size).toList=verL:=by
  rw[tail_list] at h
  have at9:∀ j:Nat,s.data.toList[s.size-9+j]? = ([32,72,84,84,80,47,49,46,49]:List UInt8)[j]?:=fun j=>by rw[← h,List.getElem?_drop]
  refine⟨(bt_at (b:=32) (at9 0)).2,fun m h1 h2=>?_,?_⟩
  · obtain⟨j,rfl⟩:∃ j,m=s.size-9+(j+1):=⟨m-(s.size-9)-1,by omega⟩
    have hj:j<8:=by omega
    have hx:=at9 (j+1)
    obtain⟨b,hb1,hb2⟩:=at_bt h2
    rw[hx] at hb1
    rw[hb2]
    intro e
    have e2:b=32:=UInt8.toNat_inj.1 (by show b.toNat=32;omega)
    subst e2
    have hall:∀ j:Fin 8,([32,72,84,84,80,47,49,46,49]:List UInt8)[j.val+1]?≠some 32:=by decide
    exact hall ⟨j,hj⟩ hb1
  · rw[tail_list,show s.size-8=(s.size-9)+1 by omega,← List.drop_drop,h]
    rfl
theorem last9_of {s:ByteArray} {n:Nat} (h9:s.size=n+9) (hb:bt s (n:Int)=32) (h:(s.extract (n+1) s.size).toList=verL):(s.extract (s.size-9) s.size).toList=([32,72,84,84,80,47,49,46,49]:List UInt8):=by
  rw[tail_list] at h ⊢
  obtain⟨b,hb1,hb2⟩:=at_bt (s:=s) (n:=n) (by omega)
  have e2:b=32:=UInt8.toNat_inj.1 (by show b.toNat=32;omega)
  obtain⟨h1,h2⟩:=List.getElem?_eq_some_iff.mp hb1
  rw[show s.size-9=n by omega,List.drop_eq_getElem_cons h1,h,h2,e2]
  rfl
theorem not_vis {s:ByteArray} {m:Nat} (h:m<s.size) (hb:bt s (m:Int)=32):visB s=false:=by
  cases hv:visB s with
  |false=>rfl
  |true=>
    have:=allB_at _ _ hv m h
    rw[Int.zero_add] at this
    have:=of_decide_eq_true this
    omega
theorem impl_first_split (s:ByteArray) (hs:s.size≤1048576) (k:Nat):impl_readFirst.f k s false=if(((splitW s 0).length:Nat):Int)=3 then(if 2<(((splitW s 0).length:Nat):Int) then impl_readFirst.j1 k (splitW s 0) ((rdOf ByteArray.empty (splitW s 0) 2).toList != ([72,84,84,80,47,49,46,49]:List UInt8)) else none) else impl_readFirst.j1 k (splitW s 0) true:=by
  have h:strings_Split.f s (⟨#[32]⟩:ByteArray)=some (splitW s 0):=by
    unfold strings_Split.f splitW
    simp only
    rw[if_pos (by omega),extract_all]
  unfold impl_readFirst.f
  rw[if_neg (by decide),h,Option.bind_some]
theorem impl_words_no (s:ByteArray) (hs:s.size≤1048576) (h:(splitW s 0).length≠3) (k:Nat):impl_readFirst.f (k+1) s false=some noFirst:=by
  rw[impl_first_split s hs,if_neg (by omega)]
  exact impl_req_no k _
theorem impl_words_3 (s a b c:ByteArray) (hs:s.size≤1048576) (h:splitW s 0 = [a,b,c]) (k:Nat) (hk:5500<k) :
    impl_readFirst.f (k+1) s false=some (if c.toList=verL then reqR a b (reqB a b) else noFirst):=by
  rw[impl_first_split s hs,h,if_pos (by rfl),if_pos (show(2:Int)<(([a,b,c].length:Nat):Int) from(by show(2:Int)<((3:Nat):Int);decide))]
  have e2:rdOf ByteArray.empty [a,b,c] 2=c:=rfl
  rw[e2]
  by_cases hc:c.toList=verL
  · rw[if_pos hc,hc,show(verL != ([72,84,84,80,47,49,46,49]:List UInt8))=false from by decide]
    exact impl_request_eq a b c k hk
  · rw[if_neg hc,show(c.toList != ([72,84,84,80,47,49,46,49]:List UInt8))=true from bne_iff_ne.2 hc]
    exact impl_req_no k _
theorem reqB_false_of (a b:ByteArray) (h:b.size=0∨visB b=false):reqB a b=false:=by
  unfold reqB
  rcases h with h|h
  · rw[decide_eq_false (show ¬ 0<b.size by omega),Bool.false_and,Bool.and_false,Bool.and_false,Bool.and_false]
  · rw[h,Bool.and_false,Bool.and_false,Bool.and_false,Bool.and_false]
theorem request_eq (s:ByteArray) (hs:s.size≤1048576):∃ r r':FirstR,(∀ k,s.size+5600<k→spec_l6first.f k s=some r∧impl_readFirst.f k s false=some r')∧
    r.2.2.2.2.2.2.2=r'.2.2.2.2.2.2.2∧(r.2.2.2.2.2.2.2=true→r=r'∧r.2.2.2.2.2.1 = []):=by
  have skip:=fun(hi:Nat) (hhi:hi≤s.size) (hno:∀ m:Nat,m<hi→bt s (m:Int)≠32) (k:Nat)=>
    skip_to (fun k i=>spec_l6first.l0 k s i) 0 hi (fun k i h0 h1=>by
      have hw:=wrap_succ i (by omega)
      simp only[spec_l6first.l0]
      rw[if_pos (by omega),if_pos (by omega),if_neg (hno i h1),hw]) hi k 0 (Nat.le_refl _) (by omega)
  have fon:∀ p,p≤s.size→(∃ n,p≤n∧n<s.size∧bt s (n:Int)=32∧∀ m:Nat,p≤m→m<n→bt s (m:Int)≠32)∨(∀ m:Nat,p≤m→m<s.size→bt s (m:Int)≠32):=by
    intro p hp
    rcases first_or_none (fun n=>decide (bt s (n:Int)=32)) s.size (s.size-p) p (by omega) with⟨n,h1,h2,h3,h4⟩|h4
    · exact .inl ⟨n,h1,h2,of_decide_eq_true h3,fun m m1 m2=>of_decide_eq_false (h4 m m1 m2)⟩
    · exact .inr fun m m1 m2=>of_decide_eq_false (h4 m m1 m2)
  have ok_no:noFirst.2.2.2.2.2.2.2=false:=rfl
  rcases fon 0 (Nat.zero_le _) with⟨n,h1,h2,h3,h4⟩|h4
  · have hspec:∀ k,s.size+5600<k→spec_l6first.f k s=some (firstAt s n):=by
      intro k hk
      unfold spec_l6first.f
      obtain⟨q,rfl⟩:=ex_rounds k n (by omega)
      exact(skip n (by omega) (fun m hm=>h4 m (Nat.zero_le _) hm) (q+1)).trans (spec_first_hit s hs n h2 h3 q (by omega))
    have hw0:=splitW_hit s 0 n (Nat.zero_le _) h2 h3 h4
    -- when the line does not end well, spec says no
    have bad:(∀ k,s.size+5600<k→impl_readFirst.f k s false=some noFirst)→(firstAt s n).2.2.2.2.2.2.2=false→∃ r r':FirstR,(∀ k,s.size+5600<k→spec_l6first.f k s=some r∧impl_readFirst.f k s false=some r')∧
        r.2.2.2.2.2.2.2=r'.2.2.2.2.2.2.2∧(r.2.2.2.2.2.2.2=true→r=r'∧r.2.2.2.2.2.1 = []):=fun hi hf=>
      ⟨firstAt s n,noFirst,fun k hk=>⟨hspec k hk,hi k hk⟩,by rw[hf];rfl,fun h=>by rw[hf] at h;cases h⟩
    rcases fon (n+1) (by omega) with⟨n1,g1,g2,g3,g4⟩|g4
    · have hw1:=splitW_hit s (n+1) n1 g1 g2 g3 g4
      rcases fon (n1+1) (by omega) with⟨n2,f1,f2,f3,f4⟩|f4
      · have hw2:=splitW_hit s (n1+1) n2 f1 f2 f3 f4
        have hlen:(splitW s 0).length≠3:=by
          rw[hw0,hw1,hw2]
          have:(splitW s (n2+1))≠[]:=by
            unfold splitW
            cases hc:Lib.countB (s.extract (n2+1) s.size) (⟨#[32]⟩:ByteArray) with
            |zero=>simp[Lib.splitB]
            |succ c=>unfold Lib.splitB;split <;> simp
          intro e
          have:(splitW s (n2+1)).length=0:=by simpa using e
          exact absurd (List.eq_nil_of_length_eq_zero this) ‹_›
        refine bad (fun k hk=>?_) ?_
        · obtain⟨q,rfl⟩:=ex_succ k (by omega)
          exact impl_words_no s hs hlen q
        · unfold firstAt
          split
          · rfl
          · rename_i hl
            split
            · rename_i hx
              obtain⟨l1,l2,_⟩:=last9_bt (by omega) hx
              have hlt:n1<s.size-9:=by
                rcases Nat.lt_or_ge n1 (s.size-9) with h|h
                · exact h
                · exact absurd f3 (l2 n2 (by omega) f2)
              show reqB _ _=false
              apply reqB_false_of
              right
              apply not_vis (m:=n1-(n+1)) (by rw[size_extract];omega)
              rw[bt_extract _ _ _ _ (by omega) (by omega) (by omega),show((n+1:Nat):Int)+((n1-(n+1):Nat):Int)=(n1:Int) by omega]
              exact g3
            · rfl
      · have hws:splitW s 0 = [s.extract 0 n,s.extract (n+1) n1,s.extract (n1+1) s.size]:=by
          rw[hw0,hw1,splitW_none s (n1+1) f4]
        by_cases hc:(s.extract (n1+1) s.size).toList=verL
        · have hsz:s.size=n1+9:=by
            have:=congrArg List.length hc
            rw[tail_list,List.length_drop,len_eq] at this
            have e8:verL.length=8:=rfl
            omega
          have h9:=last9_of hsz g3 hc
          have hn1:s.size-9=n1:=by omega
          have himpl:∀ k,s.size+5600<k→impl_readFirst.f k s false=some (reqR (s.extract 0 n) (s.extract (n+1) n1) (reqB (s.extract 0 n) (s.extract (n+1) n1))):=by
            intro k hk
            obtain⟨q,rfl⟩:=ex_succ k (by omega)
            rw[impl_words_3 s _ _ _ hs hws q (by omega),if_pos hc]
          by_cases hl:s.size<n+11
          · have hb:reqB (s.extract 0 n) (s.extract (n+1) n1)=false:=reqB_false_of _ _ (.inl (by rw[size_extract];omega))
            rw[hb] at himpl
            have hf:firstAt s n=noFirst:=by unfold firstAt;rw[if_pos hl]
            rw[hf] at hspec
            exact⟨_,_,fun k hk=>⟨hspec k hk,himpl k hk⟩,rfl,fun h=>by cases h⟩
          · have hf:firstAt s n=reqR (s.extract 0 n) (s.extract (n+1) n1) (reqB (s.extract 0 n) (s.extract (n+1) n1)):=by
              unfold firstAt
              rw[if_neg hl,if_pos h9,hn1]
            rw[hf] at hspec
            exact⟨_,_,fun k hk=>⟨hspec k hk,himpl k hk⟩,rfl,fun _=>⟨rfl,rfl⟩⟩
        · refine bad (fun k hk=>?_) ?_
          · obtain⟨q,rfl⟩:=ex_succ k (by omega)
            rw[impl_words_3 s _ _ _ hs hws q (by omega),if_neg hc]
          · unfold firstAt
            split
            · rfl
            · rename_i hl
              split
              · rename_i hx
                obtain⟨l1,l2,l3⟩:=last9_bt (by omega) hx
                exfalso
                have e:s.size-9=n1:=by
                  rcases Nat.lt_trichotomy n1 (s.size-9) with h|h|h
                  · exact absurd l1 (f4 _ (by omega) (by omega))
                  · exact h.symm
                  · exact absurd l1 (g4 _ (by omega) h)
                apply hc
                rw[show n1+1=s.size-8 by omega]
                exact l3
              · rfl
    · have hws:splitW s 0 = [s.extract 0 n,s.extract (n+1) s.size]:=by rw[hw0,splitW_none s (n+1) g4]
      refine bad (fun k hk=>?_) ?_
      · obtain⟨q,rfl⟩:=ex_succ k (by omega)
        exact impl_words_no s hs (by rw[hws];simp) q
      · unfold firstAt
        split
        · rfl
        · rename_i hl
          split
          · rename_i hx
            obtain⟨l1,l2,l3⟩:=last9_bt (by omega) hx
            exact absurd l1 (g4 _ (by omega) (by omega))
          · rfl
  · refine⟨noFirst,noFirst,fun k hk=>⟨?_,?_⟩,rfl,fun h=>by cases h⟩
    · unfold spec_l6first.f
      obtain⟨q,rfl⟩:=ex_rounds k s.size (by omega)
      exact(skip s.size (Nat.le_refl _) (fun m hm=>h4 m (Nat.zero_le _) hm) (q+1)).trans (spec_first_none s hs q)
    · obtain⟨q,rfl⟩:=ex_succ k (by omega)
      exact impl_words_no s hs (by rw[splitW_none s 0 h4];simp) q

end Go.Proofs.YtonmpnghlopnoaaGreatDoor.P
end

section
/- Plain laws of our own (MsgOk2): about numbers and lists alone; no condition beyond those written. -/
namespace Go.Proofs.YtonmpnghlopnoaaGreatDoor.P
open Go.RowKit Go.Proofs.YtonmpnghlopnoaaGreatDoorW.PrintWords Go.Proofs.YtonmpnghlopnoaaGreatDoorW.PrintLast Go.Proofs.YtonmpnghlopnoaaGreatDoorW.PrintMore
set_option linter.unusedVariables false
set_option linter.unusedSimpArgs false
set_option maxHeartbeats 2000000
def answerB (m1:ByteArray) (m2:Int) (m3:ByteArray) (m4:Bool) (m6:ByteArray):Bool:=
  decide (m1.toList=([]:List UInt8))&&(decide (200≤m2∧m2≤599)&&(decide (m3.size≤40)&&(plainB m3&&(if m4=true then decide (m6.toList=([]:List UInt8)) else !(m2==204||m2==304)))))
def requestB (m0 m1:ByteArray) (m2:Int) (m3:ByteArray) (m4:Bool):Bool:=reqB m0 m1&&(decide (m2=0)&&(decide (m3.toList=([]:List UInt8)) && !m4))
def msgOkB (m0 m1:ByteArray) (m2:Int) (m3:ByteArray) (m4:Bool) (l:List FieldT) (m6:ByteArray):Bool:=
  fieldsOkB l&&(decide (l.length<20)&&(!(l.any fun f=>frB f.f0)&&(decide (m6.size≤600)&&((if m0.toList=([]:List UInt8) then answerB m1 m2 m3 m4 m6 else requestB m0 m1 m2 m3 m4)&&decide (headN m0 m1 m2 m3 m4 l m6≤1500)))))
theorem bare_eq (n:Int):impl_isBareStatus.f n=some (n==204||n==304):=by
  unfold impl_isBareStatus.f
  by_cases h:n=204
  · rw[if_pos h,h];rfl
  · rw[if_neg h,beq_eq_false_iff_ne.2 h,Bool.false_or]
theorem spec_bare_eq (n:Int):spec_l6bare.f n=some (n==204||n==304):=bare_eq n
theorem empty_size {s:ByteArray} (h:s.toList=([]:List UInt8)):s.size=0:=(toList_nil s).1 h
theorem spec_answer_eq (m0 m1:ByteArray) (m2:Int) (m3:ByteArray) (m4:Bool) (l:List FieldT) (m6:ByteArray) (k:Nat) (hk:5500<k):spec_l6answer.f k m0 m1 m2 m3 m4 l m6=some (answerB m1 m2 m3 m4 m6):=by
  unfold spec_l6answer.f answerB
  by_cases h1:m1.toList=([]:List UInt8)
  · rw[if_pos h1,decide_eq_true h1,Bool.true_and]
    by_cases h2:m2<200
    · rw[if_pos h2,decide_eq_false (by omega),Bool.false_and]
    · rw[if_neg h2]
      by_cases h2':m2>599
      · rw[if_pos h2',decide_eq_false (by omega),Bool.false_and]
      · rw[if_neg h2',decide_eq_true (by omega),Bool.true_and]
        by_cases h3:m3.size≤40
        · rw[if_neg (by omega),decide_eq_true h3,Bool.true_and,spec_plain_eq m3 (by omega) k (by omega),Option.bind_some]
          by_cases h4:plainB m3=true
          · rw[if_pos h4,h4,Bool.true_and]
            cases m4 with
            |true=>
              rw[if_pos rfl,if_pos rfl]
              split
              · rename_i h;rw[decide_eq_true h]
              · rename_i h;rw[decide_eq_false h]
            |false=>rw[if_neg (by decide),if_neg (by decide),spec_bare_eq,Option.bind_some]
          · rw[if_neg h4];simp[h4]
        · rw[if_pos (by omega),decide_eq_false h3,Bool.false_and]
  · rw[if_neg h1,decide_eq_false h1,Bool.false_and]
theorem spec_request2_eq (m0 m1:ByteArray) (m2:Int) (m3:ByteArray) (m4:Bool) (l:List FieldT) (m6:ByteArray) (k:Nat) (hk:5500<k):spec_l6request.f k m0 m1 m2 m3 m4 l m6=some (requestB m0 m1 m2 m3 m4):=by
  unfold spec_l6request.f requestB reqB
  by_cases h1:m0.size≤20
  · rw[if_pos (by omega),decide_eq_true h1,Bool.true_and,spec_Token_eq m0 k (by omega),Option.bind_some]
    by_cases h2:tokB m0=true
    · rw[if_pos h2,h2,Bool.true_and]
      by_cases h3:m1.size≤200
      · rw[if_pos (by omega),decide_eq_true h3,Bool.true_and,spec_visible_eq m1 (by omega) k (by omega),Option.bind_some]
        by_cases h4:(decide (0<m1.size)&&visB m1)=true
        · rw[if_pos h4,h4,Bool.true_and]
          by_cases h5:m2=0
          · rw[if_pos h5,decide_eq_true h5,Bool.true_and]
            by_cases h6:m3.toList=([]:List UInt8)
            · rw[if_pos h6,decide_eq_true h6,Bool.true_and]
            · rw[if_neg h6,decide_eq_false h6,Bool.false_and]
          · rw[if_neg h5,decide_eq_false h5,Bool.false_and]
        · rw[if_neg h4]
          have:(decide (0<m1.size)&&visB m1)=false:=by simpa using h4
          rw[this,Bool.false_and]
      · rw[if_neg (by omega),decide_eq_false h3,Bool.false_and,Bool.false_and]
    · rw[if_neg h2];simp[h2]
  · rw[if_neg (by omega),decide_eq_false h1,Bool.false_and,Bool.false_and]
theorem answer_sizes {m1:ByteArray} {m2:Int} {m3:ByteArray} {m4:Bool} {m6:ByteArray} (h:answerB m1 m2 m3 m4 m6=true):m1.size=0∧200≤m2∧m2≤599∧m3.size≤40:=by
  unfold answerB at h
  simp only[Bool.and_eq_true,decide_eq_true_eq] at h
  exact⟨empty_size h.1,h.2.1.1,h.2.1.2,h.2.2.1⟩
theorem request_sizes {m0 m1:ByteArray} {m2:Int} {m3:ByteArray} {m4:Bool} (h:requestB m0 m1 m2 m3 m4=true):m0.size≤20∧m1.size≤200∧m2=0∧m3.size=0:=by
  unfold requestB reqB at h
  simp only[Bool.and_eq_true,decide_eq_true_eq] at h
  exact⟨h.1.1,h.1.2.2.1,h.2.1,empty_size h.2.2.1⟩
theorem spec_MsgOk_eq (m0 m1:ByteArray) (m2:Int) (m3:ByteArray) (m4:Bool) (l:List FieldT) (m6:ByteArray) (k:Nat) (hk:7000<k):spec_MsgOk.f k m0 m1 m2 m3 m4 l m6=some (msgOkB m0 m1 m2 m3 m4 l m6):=by
  obtain⟨k,rfl⟩:=ex_succ k (by omega)
  have no:spec_MsgOk.j0 (k+1) true m0 m1 m2 m3 m4 l m6=some false:=by simp only[spec_MsgOk.j0];rfl
  unfold spec_MsgOk.f msgOkB
  rw[spec_FieldsOk_eq l (k+1) (by omega),Option.bind_some]
  by_cases hf:fieldsOkB l=true
  case neg=>rw[if_neg hf,no];simp[hf]
  have hl:=fieldsOk_short hf
  rw[if_pos hf,hf,Bool.true_and]
  by_cases h20:l.length=20
  · rw[if_pos (by omega),no,decide_eq_false (by omega),Bool.false_and]
  rw[if_neg (by omega),show decide (l.length<20)=true from decide_eq_true (by omega),Bool.true_and]
  unfold spec_l6framed.f
  have hfr:=spec_framed_loop l hf l.length 0 (Nat.zero_le _) (by omega) (k+1) (by omega)
  rw[List.drop_zero] at hfr
  rw[show((0:Nat):Int)=0 from rfl] at hfr
  rw[hfr,Option.bind_some]
  cases hb:l.any (fun f=>frB f.f0) with
  |true=>rw[if_pos rfl,no];rfl
  |false=>
    rw[if_neg (by decide)]
    simp only[Bool.not_false,Bool.true_and]
    by_cases h6:m6.size≤600
    case neg=>rw[show decide ((m6.size:Int)>600)=true from decide_eq_true (by omega),no,decide_eq_false h6,Bool.false_and]
    rw[show decide ((m6.size:Int)>600)=false from decide_eq_false (by omega),decide_eq_true h6,Bool.true_and]
    simp only[spec_MsgOk.j0]
    rw[if_neg (by decide)]
    by_cases e0:m0.toList=([]:List UInt8)
    · rw[if_pos e0,if_pos e0,spec_answer_eq m0 m1 m2 m3 m4 l m6 k (by omega),Option.bind_some]
      cases ha:answerB m1 m2 m3 m4 m6 with
      |false=>rw[if_neg (by decide),Bool.false_and]
      |true=>
        obtain⟨s1,s2,s3,s4⟩:=answer_sizes ha
        have s0:=empty_size e0
        obtain⟨r,hr1,hr2⟩:=spec_head_eq m0 m1 m2 m3 m4 l m6 hf h6 (by omega) (by omega) ⟨by omega,s3⟩ s4 k (by omega)
        rw[if_pos rfl,hr1,Option.bind_some,Bool.true_and]
        congr 1
        exact decide_eq_decide.2 (by omega)
    · rw[if_neg e0,if_neg e0,spec_request2_eq m0 m1 m2 m3 m4 l m6 k (by omega),Option.bind_some]
      cases ha:requestB m0 m1 m2 m3 m4 with
      |false=>rw[if_neg (by decide),Bool.false_and]
      |true=>
        obtain⟨s1,s2,s3,s4⟩:=request_sizes ha
        obtain⟨r,hr1,hr2⟩:=spec_head_eq m0 m1 m2 m3 m4 l m6 hf h6 s1 s2 ⟨by omega,by omega⟩ (by omega) k (by omega)
        rw[if_pos rfl,hr1,Option.bind_some,Bool.true_and]
        congr 1
        exact decide_eq_decide.2 (by omega)
theorem impl_MsgOk_eq (m0 m1:ByteArray) (m2:Int) (m3:ByteArray) (m4:Bool) (l:List FieldT) (m6:ByteArray) (k:Nat) (hk:7000<k):impl_MsgOk.f k m0 m1 m2 m3 m4 l m6=some (msgOkB m0 m1 m2 m3 m4 l m6):=by
  obtain⟨k,rfl⟩:∃ q,k=q+5:=⟨k-5,by omega⟩
  have no:impl_MsgOk.j0 (k+5) true m0 m1 m2 m3 m4 l m6=some false:=by simp only[impl_MsgOk.j0];rfl
  unfold impl_MsgOk.f msgOkB
  rw[impl_FieldsOk_eq l (k+5) (by omega),Option.bind_some]
  by_cases hf:fieldsOkB l=true
  case neg=>rw[if_neg hf,no];simp[hf]
  have hl:=fieldsOk_short hf
  rw[if_pos hf,hf,Bool.true_and]
  by_cases h20:l.length=20
  · rw[if_pos (by omega),no,decide_eq_false (by omega),Bool.false_and]
  rw[if_neg (by omega),show decide (l.length<20)=true from decide_eq_true (by omega),Bool.true_and]
  by_cases h6:m6.size≤600
  case neg=>
    rw[show decide ((m6.size:Int)>600)=true from decide_eq_true (by omega),no,decide_eq_false h6,Bool.false_and,Bool.and_false]
  rw[show decide ((m6.size:Int)>600)=false from decide_eq_false (by omega),decide_eq_true h6,Bool.true_and]
  simp only[impl_MsgOk.j0]
  rw[if_neg (by decide)]
  unfold impl_framed.f
  rw[Option.bind_some]
  have w0:wrap64 (0+1)=1:=by unfold wrap64;omega
  have w1:wrap64 (1+1)=2:=by unfold wrap64;omega
  have w2:wrap64 (2+1)=3:=by unfold wrap64;omega
  have hl3:(([clT,teT,trT]:List ByteArray).length:Int)=3:=rfl
  have r0:rdOf ByteArray.empty [clT,teT,trT] 0=clT:=rfl
  have r1:rdOf ByteArray.empty [clT,teT,trT] 1=teT:=rfl
  have r2:rdOf ByteArray.empty [clT,teT,trT] 2=trT:=rfl
  have a1:=impl_has_eq l clT (by decide) (k+3) (by omega)
  have a2:=impl_has_eq l teT (by decide) (k+2) (by omega)
  have a3:=impl_has_eq l trT (by decide) (k+1) (by omega)
  rw[hasB_any hf] at a1 a2 a3
  show impl_MsgOk.l0 (k+4) [clT,teT,trT] (([clT,teT,trT]:List ByteArray).length:Int) 0 m0 m1 m2 m3 m4 l m6=_
  rw[anyFr l,hl3]
  have s0:impl_MsgOk.l0 (k+4) [clT,teT,trT] 3 0 m0 m1 m2 m3 m4 l m6=if l.any (fun f=>sameB f.f0 clT)=true then some false else impl_MsgOk.l0 (k+3) [clT,teT,trT] 3 1 m0 m1 m2 m3 m4 l m6:=by
    rw[impl_MsgOk.l0,if_pos (by decide),if_pos (by decide),if_pos (by rw[hl3];decide),r0,a1,Option.bind_some,w0]
  have s1:impl_MsgOk.l0 (k+3) [clT,teT,trT] 3 1 m0 m1 m2 m3 m4 l m6=if l.any (fun f=>sameB f.f0 teT)=true then some false else impl_MsgOk.l0 (k+2) [clT,teT,trT] 3 2 m0 m1 m2 m3 m4 l m6:=by
    rw[impl_MsgOk.l0,if_pos (by decide),if_pos (by decide),if_pos (by rw[hl3];decide),r1,a2,Option.bind_some,w1]
  have s2:impl_MsgOk.l0 (k+2) [clT,teT,trT] 3 2 m0 m1 m2 m3 m4 l m6=if l.any (fun f=>sameB f.f0 trT)=true then some false else impl_MsgOk.l0 (k+1) [clT,teT,trT] 3 3 m0 m1 m2 m3 m4 l m6:=by
    rw[impl_MsgOk.l0,if_pos (by decide),if_pos (by decide),if_pos (by rw[hl3];decide),r2,a3,Option.bind_some,w2]
  rw[s0,s1,s2]
  cases l.any (fun f=>sameB f.f0 clT) with
  |true=>rfl
  |false=>
  rw[if_neg (by decide)]
  cases l.any (fun f=>sameB f.f0 teT) with
  |true=>rfl
  |false=>
  rw[if_neg (by decide)]
  cases l.any (fun f=>sameB f.f0 trT) with
  |true=>rfl
  |false=>
  rw[if_neg (by decide)]
  simp only[Bool.or_self,Bool.not_false,Bool.true_and]
  rw[impl_MsgOk.l0,if_neg (by decide)]
  by_cases e0:m0.toList=([]:List UInt8)
  · rw[if_pos e0,if_pos e0]
    unfold answerB
    by_cases h1:m1.toList=([]:List UInt8)
    case neg=>rw[if_neg h1,decide_eq_false h1,Bool.false_and,Bool.false_and]
    rw[if_pos h1,decide_eq_true h1,Bool.true_and]
    unfold impl_isStatus.f
    rw[within_eq,Option.bind_some,Option.bind_some]
    by_cases h2:200≤m2∧m2≤599
    case neg=>rw[if_neg (by rw[decide_eq_false h2];decide),decide_eq_false h2,Bool.false_and,Bool.false_and]
    rw[if_pos (decide_eq_true h2),decide_eq_true h2,Bool.true_and]
    unfold impl_isReason.f
    by_cases h3:m3.size≤40
    case neg=>rw[if_neg (by omega),Option.bind_some,if_neg (by decide),decide_eq_false h3,Bool.false_and,Bool.false_and]
    rw[if_pos (by omega),decide_eq_true h3,Bool.true_and,impl_plain_eq m3 (by omega) k (by omega)]
    simp only[Option.bind_some]
    have s0:=empty_size e0
    have s1:=empty_size h1
    obtain⟨r,hr1,hr2⟩:=impl_head_eq m0 m1 m2 m3 m4 l m6 hf h6 (by omega) (by omega) ⟨by omega,h2.2⟩ h3
    have hd:decide ((r.size:Int)≤1500)=decide (headN m0 m1 m2 m3 m4 l m6≤1500):=decide_eq_decide.2 (by omega)
    rw[bare_eq,hr1]
    simp only[Option.bind_some]
    rw[hd]
    cases plainB m3 <;> cases m4 <;> cases(m2==204||m2==304) <;> by_cases h6e:m6.toList=([]:List UInt8) <;> simp[h6e]
  · rw[if_neg e0,if_neg e0]
    unfold requestB reqB impl_isMethod.f
    rw[impl_Token_eq m0 k (by omega),Option.bind_some]
    by_cases t1:tokB m0=true
    case neg=>rw[if_neg t1,Option.bind_some,if_neg (by decide)];simp[t1]
    rw[if_pos t1,Option.bind_some,t1,Bool.true_and]
    by_cases h1:m0.size≤20
    case neg=>rw[if_neg (by rw[decide_eq_false (by omega)];decide),decide_eq_false h1];simp
    rw[if_pos (decide_eq_true (by omega)),decide_eq_true h1,Bool.true_and]
    unfold impl_isTarget.f
    rw[within_eq,Option.bind_some]
    by_cases h3:0<m1.size∧m1.size≤200
    case neg=>
      rw[if_neg (by rw[decide_eq_false (by omega)];decide),Option.bind_some,if_neg (by decide)]
      by_cases h4:m1.size≤200
      · rw[decide_eq_false (show ¬ 0<m1.size by omega)];simp
      · rw[decide_eq_false h4];simp
    rw[if_pos (decide_eq_true (by omega)),decide_eq_true h3.2,decide_eq_true h3.1,impl_visible_eq m1 (by omega) k (by omega)]
    simp only[Option.bind_some,Bool.true_and]
    by_cases hv:visB m1=true
    case neg=>rw[if_neg hv];simp[hv]
    rw[if_pos hv,hv,Bool.true_and]
    by_cases h5:m2=0
    case neg=>rw[if_neg h5];simp[h5]
    rw[if_pos h5,decide_eq_true h5,Bool.true_and]
    by_cases h7:m3.toList=([]:List UInt8)
    case neg=>rw[if_neg h7];simp[h7]
    rw[if_pos h7,decide_eq_true h7,Bool.true_and]
    cases m4 with
    |true=>rw[if_pos rfl];rfl
    |false=>
      rw[if_neg (by decide)]
      obtain⟨r,hr1,hr2⟩:=impl_head_eq m0 m1 m2 m3 false l m6 hf h6 h1 h3.2 ⟨by omega,by omega⟩ (by rw[empty_size h7];omega)
      rw[hr1,Option.bind_some]
      simp only[Bool.not_false,Bool.true_and]
      congr 1
      exact decide_eq_decide.2 (by omega)

end Go.Proofs.YtonmpnghlopnoaaGreatDoor.P
end

section
/- Plain laws of our own (ReadHead): about numbers and lists alone; no condition beyond those written. -/
namespace Go.Proofs.YtonmpnghlopnoaaGreatDoor.P
open Go.RowKit Go.Proofs.YtonmpnghlopnoaaGreatDoorW.PrintWords Go.Proofs.YtonmpnghlopnoaaGreatDoorW.PrintLast Go.Proofs.YtonmpnghlopnoaaGreatDoorW.PrintMore
set_option linter.unusedVariables false
set_option linter.unusedSimpArgs false
set_option maxHeartbeats 2000000
abbrev HeadR := ByteArray×ByteArray×Int×ByteArray×Bool×(List (S41))×ByteArray×Int×Int
def noHead (c:Int):HeadR:=((⟨#[]⟩:ByteArray),(⟨#[]⟩:ByteArray),0,(⟨#[]⟩:ByteArray),false,[],(⟨#[]⟩:ByteArray),0,c)
theorem first_eq (s:ByteArray) (hs:s.size≤1048576) (a1:Bool):∃ r r':FirstR,(∀ k,s.size+5600<k→(if a1=true then spec_l6status.f k s else spec_l6first.f k s)=some r∧impl_readFirst.f k s a1=some r')∧
    r.2.2.2.2.2.2.2=r'.2.2.2.2.2.2.2∧(r.2.2.2.2.2.2.2=true→r=r'∧r.2.2.2.2.2.1 = []):=by
  cases a1 with
  |true=>
    obtain⟨r,r',h1,h2⟩:=status_eq s hs
    exact⟨r,r',fun k hk=>by rw[if_pos rfl];exact h1 k (by omega),h2⟩
  |false=>
    obtain⟨r,r',h1,h2⟩:=request_eq s hs
    exact⟨r,r',fun k hk=>by rw[if_neg (by decide)];exact h1 k (by omega),h2⟩
theorem spec_head_j1_first (k:Nat) (a1:Bool) (x m0 m1 m3 m6 T:ByteArray) (m2:Int) (m4:Bool) (l:List S41) (p:Int) (r:FirstR)
    (h:(if a1=true then spec_l6status.f k x else spec_l6first.f k x)=some r) :
    spec_ReadHead.j1 (k+1) a1 true x false m0 m1 m2 m3 m4 l m6 T p=if r.2.2.2.2.2.2.2=true then spec_ReadHead.l0 k a1 false r.1 r.2.1 r.2.2.1 r.2.2.2.1 r.2.2.2.2.1 r.2.2.2.2.2.1 r.2.2.2.2.2.2.1 T p else some (noHead 400):=by
  simp only[spec_ReadHead.j1]
  rw[if_neg (by decide),if_pos trivial]
  cases a1 with
  |true=>rw[if_pos rfl] at h ⊢;rw[h,Option.bind_some];rfl
  |false=>rw[if_neg (by decide)] at h ⊢;rw[h,Option.bind_some];rfl
theorem impl_head_j1_first (k:Nat) (a1:Bool) (x m0 m1 m3 m6 T:ByteArray) (m2:Int) (m4:Bool) (l:List S41) (p:Int) (r:FirstR)
    (h:impl_readFirst.f k x a1=some r) :
    impl_ReadHead.j1 (k+1) a1 true x false T p m0 m1 m2 m3 m4 l m6=if r.2.2.2.2.2.2.2=true then impl_ReadHead.l0 k a1 false T p r.1 r.2.1 r.2.2.1 r.2.2.2.1 r.2.2.2.2.1 r.2.2.2.2.2.1 r.2.2.2.2.2.2.1 else some (noHead 400):=by
  simp only[impl_ReadHead.j1]
  rw[if_neg (by decide),if_pos trivial,h,Option.bind_some]
  rfl
theorem spec_head_j1_next (k:Nat) (a1:Bool) (x m0 m1 m3 m6 T:ByteArray) (m2:Int) (m4:Bool) (l:List S41) (p:Int) (r:FieldR)
    (h:spec_ReadField.f k x=some r) (hl:l.length≤20) :
    spec_ReadHead.j1 (k+1) a1 false x false m0 m1 m2 m3 m4 l m6 T p=if x.toList=([]:List UInt8) then some (m0,m1,m2,m3,m4,l,m6,p,0) else if(l.length:Int)=20 then some (noHead 431) else
      if r.2.2=true then spec_ReadHead.l0 k a1 false m0 m1 m2 m3 m4 (l ++ [⟨r.1,r.2.1⟩]) m6 T p else some (noHead 400):=by
  simp only[spec_ReadHead.j1]
  rw[if_neg (by decide),if_neg (by decide),h,Option.bind_some,if_pos (show l.length<4398046511104 by omega)]
  rfl
theorem impl_head_j1_next (k:Nat) (a1:Bool) (x m0 m1 m3 m6 T:ByteArray) (m2:Int) (m4:Bool) (l:List S41) (p:Int) (r:FieldR)
    (h:impl_ReadField.f k x=some r) (hl:l.length≤20) :
    impl_ReadHead.j1 (k+1) a1 false x false T p m0 m1 m2 m3 m4 l m6=if x.toList=([]:List UInt8) then some (m0,m1,m2,m3,m4,l,m6,p,0) else if(l.length:Int)=20 then some (noHead 431) else
      if r.2.2=true then impl_ReadHead.l0 k a1 false T p m0 m1 m2 m3 m4 (l ++ [⟨r.1,r.2.1⟩]) m6 else some (noHead 400):=by
  simp only[impl_ReadHead.j1]
  rw[if_neg (by decide),if_neg (by decide),h,Option.bind_some,if_pos (show l.length<4398046511104 by omega)]
  rfl
theorem spec_head_l0 (k:Nat) (a1 b:Bool) (m0 m1 m3 m6 T:ByteArray) (m2:Int) (m4:Bool) (l:List S41) (p:Int) (r:LineT) (h:spec_TakeLine.f (k+1) T p=some r) (h0:r.2.2.2=0) (hT:r.2.1=T) :
    spec_ReadHead.l0 (k+2) a1 b m0 m1 m2 m3 m4 l m6 T p=if((r.1.size:Int)>300∨r.2.2.1>1500) then some (noHead 431) else spec_ReadHead.j1 (k+1) a1 b r.1 false m0 m1 m2 m3 m4 l m6 T r.2.2.1:=by
  simp only[spec_ReadHead.l0]
  rw[h,Option.bind_some,if_pos h0,hT]
  by_cases h1:(r.1.size:Int)>300
  · rw[if_pos h1,if_pos (.inl h1)]
    simp only[spec_ReadHead.j1]
    rfl
  · rw[if_neg h1]
    by_cases h2:r.2.2.1>1500
    · rw[if_pos (.inr h2),decide_eq_true h2]
      simp only[spec_ReadHead.j1]
      rfl
    · rw[if_neg (fun e=>e.elim h1 h2),decide_eq_false h2]
theorem impl_head_l0 (k:Nat) (a1 b:Bool) (m0 m1 m3 m6 T:ByteArray) (m2:Int) (m4:Bool) (l:List S41) (p:Int) (r:LineT) (h:impl_TakeLine.f (k+1) T p=some r) (h0:r.2.2.2=0) (hT:r.2.1=T) :
    impl_ReadHead.l0 (k+2) a1 b T p m0 m1 m2 m3 m4 l m6=if((r.1.size:Int)>300∨r.2.2.1>1500) then some (noHead 431) else impl_ReadHead.j1 (k+1) a1 b r.1 false T r.2.2.1 m0 m1 m2 m3 m4 l m6:=by
  simp only[impl_ReadHead.l0]
  rw[h,Option.bind_some,if_pos h0,hT]
  by_cases h1:(r.1.size:Int)>300
  · rw[if_pos h1,if_pos (.inl h1)]
    simp only[impl_ReadHead.j1]
    rfl
  · rw[if_neg h1]
    by_cases h2:r.2.2.1>1500
    · rw[if_pos (.inr h2),decide_eq_true h2]
      simp only[impl_ReadHead.j1]
      rfl
    · rw[if_neg (fun e=>e.elim h1 h2),decide_eq_false h2]
theorem noHead_len (c:Int):(noHead c).2.2.2.2.2.1.length≤20:=by show 0≤20;omega
theorem noHead_pos (c:Int) (T:ByteArray) (h:c≠0):(noHead c).2.2.2.2.2.2.2.2=0→∃ q:Nat,(noHead c).2.2.2.2.2.2.2.1=(q:Int)∧q≤T.size:=fun e=>absurd e h
theorem readHead_loop (T:ByteArray) (hT:T.size≤1048576) (a1:Bool):∀(d p:Nat),p≤T.size→T.size-p=d→∀(b:Bool) (m0 m1 m3 m6:ByteArray) (m2:Int) (m4:Bool) (l:List S41),l.length≤20→
    ∃ r:HeadR,r.2.2.2.2.2.1.length≤20∧(r.2.2.2.2.2.2.2.2=0→∃ q:Nat,r.2.2.2.2.2.2.2.1=(q:Int)∧q≤T.size)∧∀ k,3*T.size+10000+2*d<k→spec_ReadHead.l0 k a1 b m0 m1 m2 m3 m4 l m6 T (p:Int)=some r∧impl_ReadHead.l0 k a1 b T (p:Int) m0 m1 m2 m3 m4 l m6=some r:=by
  intro d
  induction d using Nat.strongRecOn with
  |_ d ih=>
    intro p hp hd b m0 m1 m3 m6 m2 m4 l hl
    obtain⟨r,hr,hr2⟩:=takeLine_eq T hT p hp
    by_cases h0:r.2.2.2=0
    · obtain⟨hrT,q,hq,hq1,hq2⟩:=hr2 h0
      by_cases hbig:(r.1.size:Int)>300∨r.2.2.1>1500
      · refine⟨noHead 431,noHead_len _,noHead_pos _ T (by decide),fun k hk=>?_⟩
        obtain⟨k,rfl⟩:∃ j,k=j+2:=⟨k-2,by omega⟩
        obtain⟨e1,e2⟩:=hr (k+1) (by omega)
        rw[spec_head_l0 k a1 b m0 m1 m3 m6 T m2 m4 l _ r e1 h0 hrT,impl_head_l0 k a1 b m0 m1 m3 m6 T m2 m4 l _ r e2 h0 hrT,if_pos hbig,if_pos hbig]
        exact⟨rfl,rfl⟩
      · have hx:r.1.size≤300:=by omega
        have ihq:=ih (T.size-q) (by omega) q hq2 rfl
        have toj1:∀ R:HeadR,(∀ k,3*T.size+9998+2*d<k→spec_ReadHead.j1 (k+1) a1 b r.1 false m0 m1 m2 m3 m4 l m6 T (q:Int)=some R∧impl_ReadHead.j1 (k+1) a1 b r.1 false T (q:Int) m0 m1 m2 m3 m4 l m6=some R)→
            ∀ k,3*T.size+10000+2*d<k→spec_ReadHead.l0 k a1 b m0 m1 m2 m3 m4 l m6 T (p:Int)=some R∧impl_ReadHead.l0 k a1 b T (p:Int) m0 m1 m2 m3 m4 l m6=some R:=by
          intro R hR k hk
          obtain⟨k,rfl⟩:∃ j,k=j+2:=⟨k-2,by omega⟩
          obtain⟨e1,e2⟩:=hr (k+1) (by omega)
          rw[spec_head_l0 k a1 b m0 m1 m3 m6 T m2 m4 l _ r e1 h0 hrT,impl_head_l0 k a1 b m0 m1 m3 m6 T m2 m4 l _ r e2 h0 hrT,if_neg hbig,if_neg hbig,hq]
          exact hR k (by omega)
        cases b with
        |true=>
          obtain⟨f,f',hf,hf1,hf2⟩:=first_eq r.1 (by omega) a1
          cases hok:f.2.2.2.2.2.2.2 with
          |false=>
            refine⟨noHead 400,noHead_len _,noHead_pos _ T (by decide),toj1 _ fun k hk=>?_⟩
            obtain⟨g1,g2⟩:=hf k (by omega)
            rw[spec_head_j1_first k a1 r.1 m0 m1 m3 m6 T m2 m4 l _ f g1,impl_head_j1_first k a1 r.1 m0 m1 m3 m6 T m2 m4 l _ f' g2,← hf1,hok,if_neg (by decide),if_neg (by decide)]
            exact⟨rfl,rfl⟩
          |true=>
            obtain⟨hff,hfl⟩:=hf2 hok
            subst hff
            obtain⟨R,hRl,hRp',hR⟩:=ihq false f.1 f.2.1 f.2.2.2.1 f.2.2.2.2.2.2.1 f.2.2.1 f.2.2.2.2.1 f.2.2.2.2.2.1 (by rw[hfl];exact Nat.zero_le _)
            have hRp:=Aside0.mk hRp'
            clear hRp'
            refine⟨R,hRl,hRp.out,toj1 _ fun k hk=>?_⟩
            obtain⟨g1,g2⟩:=hf k (by omega)
            rw[spec_head_j1_first k a1 r.1 m0 m1 m3 m6 T m2 m4 l _ f g1,impl_head_j1_first k a1 r.1 m0 m1 m3 m6 T m2 m4 l _ f g2,if_pos hok,if_pos hok]
            exact hR k (by omega)
        |false=>
          obtain⟨f,hf⟩:=readField_eq r.1 (by omega)
          have step:=fun k (hk:3*T.size+9998+2*d<k)=>(show _∧_ from⟨spec_head_j1_next k a1 r.1 m0 m1 m3 m6 T m2 m4 l (q:Int) f (hf k (by omega)).1 hl,impl_head_j1_next k a1 r.1 m0 m1 m3 m6 T m2 m4 l (q:Int) f (hf k (by omega)).2 hl⟩)
          by_cases hnil:r.1.toList=([]:List UInt8)
          · refine⟨(m0,m1,m2,m3,m4,l,m6,(q:Int),0),hl,(fun _=>⟨q,rfl,hq2⟩),toj1 _ fun k hk=>?_⟩
            obtain⟨g1,g2⟩:=step k hk
            rw[g1,g2,if_pos hnil,if_pos hnil]
            exact⟨rfl,rfl⟩
          · by_cases h20:(l.length:Int)=20
            · refine⟨noHead 431,noHead_len _,noHead_pos _ T (by decide),toj1 _ fun k hk=>?_⟩
              obtain⟨g1,g2⟩:=step k hk
              rw[g1,g2,if_neg hnil,if_neg hnil,if_pos h20,if_pos h20]
              exact⟨rfl,rfl⟩
            · by_cases hok:f.2.2=true
              · obtain⟨R,hRl,hRp',hR⟩:=ihq false m0 m1 m3 m6 m2 m4 (l ++ [⟨f.1,f.2.1⟩]) (by rw[List.length_append];show l.length+1≤20;omega)
                have hRp:=Aside0.mk hRp'
                clear hRp'
                refine⟨R,hRl,hRp.out,toj1 _ fun k hk=>?_⟩
                obtain⟨g1,g2⟩:=step k hk
                rw[g1,g2,if_neg hnil,if_neg hnil,if_neg h20,if_neg h20,if_pos hok,if_pos hok]
                exact hR k (by omega)
              · refine⟨noHead 400,noHead_len _,noHead_pos _ T (by decide),toj1 _ fun k hk=>?_⟩
                obtain⟨g1,g2⟩:=step k hk
                rw[g1,g2,if_neg hnil,if_neg hnil,if_neg h20,if_neg h20,if_neg hok,if_neg hok]
                exact⟨rfl,rfl⟩
    · refine⟨noHead 400,noHead_len _,noHead_pos _ T (by decide),fun k hk=>?_⟩
      obtain⟨k,rfl⟩:∃ j,k=j+1:=⟨k-1,by omega⟩
      obtain⟨e1,e2⟩:=hr k (by omega)
      simp only[spec_ReadHead.l0,impl_ReadHead.l0]
      rw[e1,e2,Option.bind_some,Option.bind_some,if_neg h0,if_neg h0]
      exact⟨rfl,rfl⟩
theorem readHead_eq (T:ByteArray) (a1:Bool):∃ r:HeadR,r.2.2.2.2.2.1.length≤20∧(r.2.2.2.2.2.2.2.2=0→T.size≤4000∧∃ q:Nat,r.2.2.2.2.2.2.2.1=(q:Int)∧q≤T.size)∧∀ k,6000000<k→spec_ReadHead.f k T a1=some r∧impl_ReadHead.f k T a1=some r:=by
  unfold spec_ReadHead.f impl_ReadHead.f
  by_cases h:(T.size:Int)>4000
  · refine⟨noHead 413,noHead_len _,(fun e=>absurd e (by decide)),fun k hk=>?_⟩
    rw[if_pos h,if_pos h]
    exact⟨rfl,rfl⟩
  · obtain⟨r,h1,hp,h2⟩:=readHead_loop T (by omega) a1 T.size 0 (Nat.zero_le _) (by omega) true (⟨#[]⟩:ByteArray) (⟨#[]⟩:ByteArray) (⟨#[]⟩:ByteArray) (⟨#[]⟩:ByteArray) 0 false [] (Nat.zero_le _)
    refine⟨r,h1,(fun e=>⟨by omega,hp e⟩),fun k hk=>?_⟩
    rw[if_neg h,if_neg h]
    exact h2 k (by omega)

end Go.Proofs.YtonmpnghlopnoaaGreatDoor.P
end

section
/- Plain laws of our own (ReadMsg): about numbers and lists alone; no condition beyond those written. -/
namespace Go.Proofs.YtonmpnghlopnoaaGreatDoor.P
open Go.RowKit Go.Proofs.YtonmpnghlopnoaaGreatDoorW.PrintWords Go.Proofs.YtonmpnghlopnoaaGreatDoorW.PrintLast Go.Proofs.YtonmpnghlopnoaaGreatDoorW.PrintMore
set_option linter.unusedVariables false
set_option linter.unusedSimpArgs false
set_option maxHeartbeats 2000000
abbrev ReadR := ByteArray×ByteArray×Int×ByteArray×Bool×(List (S41))×ByteArray×Int
def noRead (c:Int):ReadR:=((⟨#[]⟩:ByteArray),(⟨#[]⟩:ByteArray),0,(⟨#[]⟩:ByteArray),false,[],(⟨#[]⟩:ByteArray),c)
def finish (m0 m1:ByteArray) (m2:Int) (m3:ByteArray) (m4:Bool) (l:List FieldT) (body:ByteArray):ReadR:=
  if msgOkB m0 m1 m2 m3 m4 (keptOf l) body=true then(m0,m1,m2,m3,m4,keptOf l,body,0) else noRead 431
def endRead (m0 m1:ByteArray) (m2:Int) (m3:ByteArray) (m4:Bool) (l:List FieldT) (B:BodyT):ReadR:=if B.2=0 then finish m0 m1 m2 m3 m4 l B.1 else noRead B.2
theorem empty_of_list {s:ByteArray} (h:s.toList=([]:List UInt8)):s=(⟨#[]⟩:ByteArray):=by
  obtain⟨⟨l⟩⟩:=s
  rw[ByteArray.toList_eq] at h
  have:l = []:=h
  rw[this]
theorem impl_msg_j1 (m0 m1:ByteArray) (m2:Int) (m3:ByteArray) (m4:Bool) (l:List FieldT) (m6 body:ByteArray) (k:Nat) (hk:7100<k):impl_readMsg.j1 (k+1) body m0 m1 m2 m3 m4 l m6=some (finish m0 m1 m2 m3 m4 l body):=by
  simp only[impl_readMsg.j1]
  rw[impl_keptF_eq l k (by omega),Option.bind_some,impl_MsgOk_eq m0 m1 m2 m3 m4 (keptOf l) body k (by omega),Option.bind_some]
  unfold finish noRead
  split <;> rfl
theorem body_eq (T:ByteArray) (hT:T.size≤4000) (p:Nat) (hp:p≤T.size) (a1:Bool) (m0 m1:ByteArray) (m2:Int) (m3:ByteArray) (m4:Bool) (l:List FieldT) (m6:ByteArray):∃ B:BodyT,
    (∀ k,70000<k→spec_l6body.f k (T.extract p T.size) (framingOf l a1 m4).1 (framingOf l a1 m4).2=some B)∧(∀ k,70000<k→impl_readMsg.j0 (k+2) T a1 (p:Int) m0 m1 m2 m3 m4 l m6=some (endRead m0 m1 m2 m3 m4 l B)):=by
  have hz:(T.extract p T.size).size≤4000:=by rw[size_extract];omega
  have hk:=framing_kind l a1 m4
  have impl0:∀ k,70000<k→impl_readMsg.j0 (k+2) T a1 (p:Int) m0 m1 m2 m3 m4 l m6=(if(framingOf l a1 m4).1=4 then some (noRead 400) else(if(framingOf l a1 m4).1=0 then(if(T.extract p T.size).toList=([]:List UInt8) then(impl_readMsg.j1 (k+1) (T.extract p T.size) m0 m1 m2 m3 m4 l m6) else some (noRead 400)) else(if(framingOf l a1 m4).1=1 then(if(framingOf l a1 m4).2>600 then some (noRead 413) else(if((T.extract p T.size).size:Int)=(framingOf l a1 m4).2 then(impl_readMsg.j1 (k+1) (T.extract p T.size) m0 m1 m2 m3 m4 l m6) else some (noRead 400))) else(if(framingOf l a1 m4).1=2 then((impl_Chunks.f (k+1) (T.extract p T.size)).bind fun b=>(if b.2=0 then(impl_readMsg.j1 (k+1) b.1 m0 m1 m2 m3 m4 l m6) else some (noRead b.2))) else(if(framingOf l a1 m4).1=3 then(if((T.extract p T.size).size:Int)>600 then some (noRead 413) else(impl_readMsg.j1 (k+1) (T.extract p T.size) m0 m1 m2 m3 m4 l m6)) else(impl_readMsg.j1 (k+1) (T.extract p T.size) m0 m1 m2 m3 m4 l m6)))))):=by
    intro k hk
    simp only[impl_readMsg.j0]
    rw[if_pos (by omega),if_pos (by omega),impl_Framing_eq l a1 m4 (k+1) (by omega),Option.bind_some]
    rfl
  have fin:=fun body k (hk:70000<k)=>impl_msg_j1 m0 m1 m2 m3 m4 l m6 body k (by omega)
  generalize framingOf l a1 m4=F at hk impl0
  generalize T.extract p T.size=rest at hz impl0
  obtain⟨kind,n⟩:=F
  simp only at impl0
  rcases hk with h|h|h|h|h
  · have h:kind=0:=h
    subst h
    by_cases hr:rest.toList=([]:List UInt8)
    · have hre:=empty_of_list hr
      refine⟨((⟨#[]⟩:ByteArray),0),fun k hk=>?_,fun k hk=>?_⟩
      · show spec_l6body.f k rest 0 n=_
        unfold spec_l6body.f
        rw[if_pos rfl,if_pos hr]
      · rw[impl0 k hk,if_neg (by decide),if_pos rfl,if_pos hr,fin rest k hk,hre];rfl
    · refine⟨((⟨#[]⟩:ByteArray),400),fun k hk=>?_,fun k hk=>?_⟩
      · show spec_l6body.f k rest 0 n=_
        unfold spec_l6body.f
        rw[if_pos rfl,if_neg hr]
      · rw[impl0 k hk,if_neg (by decide),if_pos rfl,if_neg hr];rfl
  · have h:kind=1:=h
    subst h
    by_cases hn:n>600
    · refine⟨((⟨#[]⟩:ByteArray),413),fun k hk=>?_,fun k hk=>?_⟩
      · show spec_l6body.f k rest 1 n=_
        unfold spec_l6body.f
        rw[if_neg (by decide),if_pos rfl,if_pos hn]
      · rw[impl0 k hk,if_neg (by decide),if_neg (by decide),if_pos rfl,if_pos hn];rfl
    · by_cases hs:(rest.size:Int)=n
      · refine⟨(rest,0),fun k hk=>?_,fun k hk=>?_⟩
        · show spec_l6body.f k rest 1 n=_
          unfold spec_l6body.f
          rw[if_neg (by decide),if_pos rfl,if_neg hn,if_pos hs]
        · rw[impl0 k hk,if_neg (by decide),if_neg (by decide),if_pos rfl,if_neg hn,if_pos hs,fin rest k hk];rfl
      · refine⟨((⟨#[]⟩:ByteArray),400),fun k hk=>?_,fun k hk=>?_⟩
        · show spec_l6body.f k rest 1 n=_
          unfold spec_l6body.f
          rw[if_neg (by decide),if_pos rfl,if_neg hn,if_neg hs]
        · rw[impl0 k hk,if_neg (by decide),if_neg (by decide),if_pos rfl,if_neg hn,if_neg hs];rfl
  · have h:kind=2:=h
    subst h
    obtain⟨B,_,hB⟩:=chunks_eq rest (by omega)
    refine⟨B,fun k hk=>?_,fun k hk=>?_⟩
    · show spec_l6body.f k rest 2 n=_
      unfold spec_l6body.f
      rw[if_neg (by decide),if_neg (by decide),if_pos rfl,(hB k (by omega)).1];rfl
    · rw[impl0 k hk,if_neg (by decide),if_neg (by decide),if_neg (by decide),if_pos rfl,(hB (k+1) (by omega)).2,Option.bind_some]
      unfold endRead
      split
      · exact fin B.1 k hk
      · rfl
  · have h:kind=3:=h
    subst h
    by_cases hs:(rest.size:Int)>600
    · refine⟨((⟨#[]⟩:ByteArray),413),fun k hk=>?_,fun k hk=>?_⟩
      · show spec_l6body.f k rest 3 n=_
        unfold spec_l6body.f
        rw[if_neg (by decide),if_neg (by decide),if_neg (by decide),if_pos rfl,if_pos hs]
      · rw[impl0 k hk,if_neg (by decide),if_neg (by decide),if_neg (by decide),if_neg (by decide),if_pos rfl,if_pos hs];rfl
    · refine⟨(rest,0),fun k hk=>?_,fun k hk=>?_⟩
      · show spec_l6body.f k rest 3 n=_
        unfold spec_l6body.f
        rw[if_neg (by decide),if_neg (by decide),if_neg (by decide),if_pos rfl,if_neg hs]
      · rw[impl0 k hk,if_neg (by decide),if_neg (by decide),if_neg (by decide),if_neg (by decide),if_pos rfl,if_neg hs,fin rest k hk];rfl
  · have h:kind=4:=h
    subst h
    refine⟨((⟨#[]⟩:ByteArray),400),fun k hk=>?_,fun k hk=>?_⟩
    · show spec_l6body.f k rest 4 n=_
      unfold spec_l6body.f
      rw[if_neg (by decide),if_neg (by decide),if_neg (by decide),if_neg (by decide)]
    · rw[impl0 k hk,if_pos rfl];rfl
theorem read_j0_eq (T:ByteArray) (hT:T.size≤4000) (p:Nat) (hp:p≤T.size) (a1:Bool) (m0 m1:ByteArray) (m2:Int) (m3:ByteArray) (m4:Bool) (l:List FieldT) (m6:ByteArray):∃ R:ReadR,R.2.2.2.2.2.1.length≤20∧
    ∀ k,70002<k→spec_l6read.j0 k T a1 (p:Int) m0 m1 m2 m3 m4 l m6=some R∧impl_readMsg.j0 k T a1 (p:Int) m0 m1 m2 m3 m4 l m6=some R:=by
  obtain⟨B,h1,h2⟩:=body_eq T hT p hp a1 m0 m1 m2 m3 m4 l m6
  refine⟨endRead m0 m1 m2 m3 m4 l B,?_,fun k hk=>?_⟩
  · unfold endRead finish noRead
    split
    · split
      · exact keptOf_len l
      · exact Nat.zero_le _
    · exact Nat.zero_le _
  · obtain⟨k,rfl⟩:∃ q,k=q+2:=⟨k-2,by omega⟩
    refine⟨?_,h2 k (by omega)⟩
    simp only[spec_l6read.j0]
    rw[spec_Framing_eq l a1 m4 (k+1) (by omega),Option.bind_some,if_pos (by omega),if_pos (by omega)]
    simp only[Int.toNat_natCast]
    rw[h1 (k+1) (by omega),Option.bind_some]
    unfold endRead
    by_cases h0:B.2=0
    · rw[if_pos h0,if_pos h0]
      have hw:=spec_without3_eq l (k+1) (by omega) (fun t=>(spec_MsgOk.f (k+1) m0 m1 m2 m3 m4 t B.1).bind fun t892=>(if t892=true then(some (m0,m1,m2,m3,m4,t,B.1,0)) else(some (noRead 431))))
      refine Eq.trans hw ?_
      rw[spec_MsgOk_eq m0 m1 m2 m3 m4 (keptOf l) B.1 (k+1) (by omega),Option.bind_some]
      unfold finish
      split <;> rfl
    · rw[if_neg h0,if_neg h0];rfl
theorem readMsg_eq (T:ByteArray) (a1 a2:Bool):∃ R:ReadR,R.2.2.2.2.2.1.length≤20∧∀ k,6000000<k→spec_l6read.f k T a1 a2=some R∧impl_readMsg.f k T a1 a2=some R:=by
  obtain⟨r,hl,hp,hr⟩:=readHead_eq T a1
  unfold spec_l6read.f impl_readMsg.f
  by_cases h0:r.2.2.2.2.2.2.2.2=0
  · obtain⟨hT,q,hq,hq2⟩:=hp h0
    cases a1 with
    |false=>
      obtain⟨R,hR1,hR2⟩:=read_j0_eq T hT q hq2 false r.1 r.2.1 r.2.2.1 r.2.2.2.1 false r.2.2.2.2.2.1 r.2.2.2.2.2.2.1
      refine⟨R,hR1,fun k hk=>?_⟩
      obtain⟨e1,e2⟩:=hr k hk
      rw[e1,e2,Option.bind_some,Option.bind_some,if_pos h0,if_pos h0,if_neg (by decide),if_neg (by decide),hq]
      exact hR2 k (by omega)
    |true=>
      cases a2 with
      |true=>
        obtain⟨R,hR1,hR2⟩:=read_j0_eq T hT q hq2 true r.1 r.2.1 r.2.2.1 r.2.2.2.1 true r.2.2.2.2.2.1 r.2.2.2.2.2.2.1
        refine⟨R,hR1,fun k hk=>?_⟩
        obtain⟨e1,e2⟩:=hr k hk
        rw[e1,e2,Option.bind_some,Option.bind_some,if_pos h0,if_pos h0,if_pos rfl,if_pos rfl,if_pos rfl,if_pos rfl,hq]
        exact hR2 k (by omega)
      |false=>
        obtain⟨R,hR1,hR2⟩:=read_j0_eq T hT q hq2 true r.1 r.2.1 r.2.2.1 r.2.2.2.1 (r.2.2.1==204||r.2.2.1==304) r.2.2.2.2.2.1 r.2.2.2.2.2.2.1
        refine⟨R,hR1,fun k hk=>?_⟩
        obtain⟨e1,e2⟩:=hr k hk
        rw[e1,e2,Option.bind_some,Option.bind_some,if_pos h0,if_pos h0,if_pos rfl,if_pos rfl,if_neg (by decide),if_neg (by decide),spec_bare_eq,bare_eq,Option.bind_some,Option.bind_some,hq]
        exact hR2 k (by omega)
  · refine⟨noRead r.2.2.2.2.2.2.2.2,Nat.zero_le _,fun k hk=>?_⟩
    obtain⟨e1,e2⟩:=hr k hk
    rw[e1,e2,Option.bind_some,Option.bind_some,if_neg h0,if_neg h0]
    exact⟨rfl,rfl⟩

end Go.Proofs.YtonmpnghlopnoaaGreatDoor.P
end

section
/- The program's ReadAnswer answers what the reference's answers, for every text and both flags; no condition. -/
namespace Go.Proofs.YtonmpnghlopnoaaGreatDoor.Pure
open Go.RowKit Go.Proofs.YtonmpnghlopnoaaGreatDoor.P Go.Proofs.YtonmpnghlopnoaaGreatDoorW.PrintWords Go.Proofs.YtonmpnghlopnoaaGreatDoorW.PrintLast Go.Proofs.YtonmpnghlopnoaaGreatDoorW.PrintMore
set_option linter.unusedVariables false
set_option linter.unusedSimpArgs false

theorem FnExactReadAnswer : laws_FnExactReadAnswer.Pure:=by
  intro a0 a1 h
  by_cases hbig:(a0.size:Int)>1048576
  · exact⟨0,by unfold laws_FnExactReadAnswer.f;rw[if_pos hbig]⟩
  · obtain⟨r,hl,hr⟩:=readMsg_eq a0 true a1
    obtain⟨m0,m1,m2,m3,m4,l,m6,c⟩:=r
    have hl':l.length≤20:=hl
    obtain⟨l',hm⟩:=mark_then_FieldS l 1 (by omega) (by omega) (by omega)
    have hpos:¬ (1+2*(l.length:Int)<0):=by omega
    obtain⟨K,hK⟩:∃ K,K=6000000:=⟨_,rfl⟩
    have hs:∀ k,6000000<k→spec_ReadAnswer.f k a0 a1=some (m0,m1,m2,m3,m4,l,m6,c):=fun k hk=>by
      unfold spec_ReadAnswer.f
      rw[(hr k hk).1,Option.bind_some]
    have hi:∀ k,6000000<k→impl_ReadAnswer.f k a0 a1=some (m0,m1,m2,m3,m4,l,m6,c):=fun k hk=>by
      unfold impl_ReadAnswer.f
      rw[(hr k hk).2,Option.bind_some]
    refine⟨K+3,?_⟩
    have e1:=hs (K+3) (by omega)
    have e2:=hi (K+3) (by omega)
    have e4:=hi (K+2) (by omega)
    obtain⟨g1,g2⟩:=hm (K+2) (by omega)
    obtain⟨_,g3⟩:=hm (K+1) (by omega)
    unfold laws_FnExactReadAnswer.f
    rw[if_neg hbig,e1,Option.bind_some,e2,Option.bind_some]
    simp only
    rw[eqMsg_self m0 m1 m3 m6 m2 m4 l hl' _ (by omega),Option.bind_some,if_pos rfl,show(c != c)=false by simp]
    simp only[laws_FnExactReadAnswer.j0]
    unfold laws_markMsg.f laws_heldMsg.f
    rw[if_neg (by decide),g1,Option.bind_some,Option.bind_some]
    simp only
    rw[g2,Option.bind_some,if_neg hpos,Option.bind_some,if_neg hpos,if_pos rfl,e4,Option.bind_some]
    simp only
    rw[eqMsg_self m0 m1 m3 m6 m2 m4 l hl' _ (by omega),Option.bind_some,if_pos rfl,show(c != c)=false by simp]
    simp only[laws_FnExactReadAnswer.j1]
    unfold laws_heldMsg.f
    rw[if_neg (by decide),g3,Option.bind_some,if_neg hpos,Option.bind_some,if_neg hpos,if_pos rfl]

end Go.Proofs.YtonmpnghlopnoaaGreatDoor.Pure
end
