import Derived.Test.YtfhllanhldbkkaaGreatDoorPxlawFnExactLifetime
import Derived.Lib.CountLaws
import Derived.Lib.Index
import Derived.Lib.IndexBytes
import Derived.Lib.Split
import Derived.Lib.Join
import Derived.Lib.AtoiTie
import Derived.Lib.IndexMore
section
namespace Go.Proofs.YtfhllanhldbkkaaGreatDoor.P
open Go Go.RowKit
set_option linter.unusedVariables false
def fU.Pure : Prop:=∀(a0:af) (a1 a2:Int) (l3:List BX) (a4 a5:af) (a6:Int) (a7:af) (a8:Bool) (l9:List BX) (a10:af),a0.size<=140737488351232->(Lit.int .i64 a1).wf=true->(Lit.int .i64 a2).wf=true->l3.length*32<=140737488351232->l9.length*32<=140737488351232->∃ k:Nat,fU.f k a0 a1 a2 l3 a4 a5 a6 a7 a8 l9 a10=some true
end Go.Proofs.YtfhllanhldbkkaaGreatDoor.P
end

section
namespace Go.Proofs.YtfhllanhldbkkaaGreatDoor.P
open Go.RowKit Go.Proofs.YtfhllanhldbkkaaGreatDoorW.bf Go.Proofs.YtfhllanhldbkkaaGreatDoorW.iK Go.Proofs.YtfhllanhldbkkaaGreatDoorW.kG
set_option linter.unusedVariables false
set_option linter.unusedSimpArgs false
set_option maxHeartbeats 2000000
theorem aC {x:Int} (h:-9223372036854775808<=x) (h':x<=9223372036854775807):wrap64 x=x:=by unfold wrap64;omega
theorem size_extract (s:af) (a b:Nat):(s.extract a b).size=min b s.size-a:=ByteArray.size_extract
theorem mq (s:af) (a b:Nat) (i:Int) (h0:0<=i) (h1:i<(b:Int)-a) (h2:b<=s.size):bt (s.extract a b) i=bt s (a+i):=by
  obtain⟨n,rfl⟩:=Int.eq_ofNat_of_zero_le h0
  unfold bt
  have e:((a:Int)+(n:Int)).toNat=a+n:=by omega
  rw[e]
  have h3:n<(s.extract a b).size:=by rw[ByteArray.size_extract];omega
  rw[dif_pos (show((n:Int)).toNat<(s.extract a b).size by simpa using h3),dif_pos (show a+n<s.size by omega)]
  simp only[Int.toNat_natCast]
  rw[ByteArray.getElem_extract]

theorem toList_nil (s:af):s.toList=([]:aQ)↔s.size=0:=by
  rw[ByteArray.toList_eq]
  constructor
  · intro h
    have:=congrArg List.length h
    rw[jd] at this
    simpa using this
  · intro h
    apply List.eq_nil_of_length_eq_zero
    rw[jd];exact h
def ws (c:Int):Bool:=decide (c=32)||decide (c=9)
theorem Ha (c:Int):mr.f c=some (ws c):=by
  unfold mr.f ws
  by_cases h:c=32
  · rw[if_pos h];simp[h]
  · rw[if_neg h]
    by_cases h2:c=9 <;> simp[h,h2]
theorem YN (c:Int):nk.f c=some (ws c):=Ha c
def lead (s:af):Nat->Nat->Nat
  |0,i=>i
  |d+1,i=>if ws (bt s (i:Int))=true then lead s d (i+1) else i
def back (s:af):Nat->Nat->Nat
  |0,j=>j
  |d+1,j=>if ws (bt s ((j-1:Nat):Int))=true then back s d (j-1) else j
def trimS (s:af):ByteArray:=s.extract (lead s s.size 0) (back s (s.size-lead s s.size 0) s.size)
theorem sN (s:af):(trimS s).size<=s.size:=by
  unfold trimS
  rw[size_extract]
  omega
theorem JI (s:af) (hs:s.size<=140737488351232):∀(d k a j:Nat),a<=j->j<=s.size->j-a=d->d<k->cu.l1 k s (a:Int) (j:Int)=some (s.extract a (back s d j)):=by
  intro d
  induction d with
  |zero=>
    intro k a j h1 h2 hd hk
    obtain⟨k,rfl⟩:∃ m,k=m+1:=⟨k-1,by omega⟩
    simp only[cu.l1]
    rw[if_neg ae,if_pos ae,if_pos ae,if_pos ae]
    rfl
  |succ d ih=>
    intro k a j h1 h2 hd hk
    obtain⟨k,rfl⟩:∃ m,k=m+1:=⟨k-1,by omega⟩
    simp only[cu.l1]
    have hw:wrap64 ((j:Int)-1)=((j-1:Nat):Int):=by rw[aC ae ae];omega
    rw[if_pos ae,hw,if_pos ae,if_pos ae,YN,ax]
    simp only[back]
    by_cases hb:ws (bt s ((j-1:Nat):Int))=true
    · rw[if_pos hb,if_pos hb]
      exact ih k a (j-1) ae ae ae ae
    · rw[if_neg hb,if_neg hb,if_pos ae,if_pos ae,if_pos ae]
      rfl
theorem U0 (s:af) (hs:s.size<=140737488351232):∀(d k i:Nat),i<=s.size->s.size-i=d->d+s.size+3<k->cu.l0 k s (i:Int)=some (s.extract (lead s d i) (back s (s.size-lead s d i) s.size)):=by
  intro d
  induction d with
  |zero=>
    intro k i h1 hd hk
    obtain⟨k,rfl⟩:∃ m,k=m+2:=⟨k-2,by omega⟩
    simp only[cu.l0]
    rw[if_neg ae]
    simp only[cu.j1,lead]
    exact JI s hs _ k i s.size h1 (Nat.le_refl _) rfl ae
  |succ d ih=>
    intro k i h1 hd hk
    obtain⟨k,rfl⟩:∃ m,k=m+2:=⟨k-2,by omega⟩
    rw[cu.l0.eq_def]
    have hw:wrap64 ((i:Int)+1)=((i+1:Nat):Int):=by rw[aC ae ae];omega
    dsimp only
    rw[if_pos ae,if_pos ae,YN,ax]
    simp only[lead]
    by_cases hb:ws (bt s (i:Int))=true
    · rw[if_pos hb,if_pos hb,hw]
      exact ih (k+1) (i+1) ae ae ae
    · rw[if_neg hb,if_neg hb]
      simp only[cu.j1]
      exact JI s hs _ k i s.size h1 (Nat.le_refl _) rfl ae
theorem JJ (s:af) (hs:s.size<=140737488351232):∀(d k a j:Nat),a<=j->j<=s.size->j-a=d->d<k->ek.l1 k (s.extract a j)=some (s.extract a (back s d j)):=by
  intro d
  induction d with
  |zero=>
    intro k a j h1 h2 hd hk
    obtain⟨k,rfl⟩:∃ m,k=m+1:=⟨k-1,by omega⟩
    simp only[ek.l1]
    rw[if_pos ((toList_nil _).2 (by rw[size_extract];omega))]
    rfl
  |succ d ih=>
    intro k a j h1 h2 hd hk
    obtain⟨k,rfl⟩:∃ m,k=m+1:=⟨k-1,by omega⟩
    have hz:(s.extract a j).size=d+1:=by rw[size_extract];omega
    simp only[ek.l1]
    have hw:wrap64 (((s.extract a j).size:Int)-1)=((d:Nat):Int):=by rw[hz,aC ae ae];omega
    have hb0:bt (s.extract a j) ((d:Nat):Int)=bt s ((j-1:Nat):Int):=by
      rw[mq s a j _ ae ae h2]
      congr 1;omega
    rw[if_neg (fun h=>by have:=(toList_nil _).1 h;omega),hw,if_pos ae,if_pos ae,Ha,ax,Int.toNat_natCast,ByteArray.extract_extract,hb0]
    simp only[back]
    have he:s.extract (a+0) (min (a+d) j)=s.extract a (j-1):=by congr 1;omega
    by_cases hb:ws (bt s ((j-1:Nat):Int))=true
    · rw[if_pos hb,if_pos hb,if_pos ae,he]
      exact ih k a (j-1) ae ae ae ae
    · rw[if_neg hb,if_neg hb]
theorem U1 (s:af) (hs:s.size<=140737488351232):∀(d k i:Nat),i<=s.size->s.size-i=d->d+s.size+3<k->ek.l0 k (s.extract i s.size)=some (s.extract (lead s d i) (back s (s.size-lead s d i) s.size)):=by
  intro d
  induction d with
  |zero=>
    intro k i h1 hd hk
    obtain⟨k,rfl⟩:∃ m,k=m+2:=⟨k-2,by omega⟩
    rw[ek.l0.eq_def]
    dsimp only
    rw[if_pos ((toList_nil _).2 (by rw[size_extract];omega))]
    simp only[ek.j1,lead]
    exact JJ s hs _ k i s.size h1 (Nat.le_refl _) rfl ae
  |succ d ih=>
    intro k i h1 hd hk
    obtain⟨k,rfl⟩:∃ m,k=m+2:=⟨k-2,by omega⟩
    have hz:(s.extract i s.size).size=d+1:=by rw[size_extract];omega
    rw[ek.l0.eq_def]
    dsimp only
    have hb0:bt (s.extract i s.size) 0=bt s (i:Int):=by
      rw[mq s i s.size 0 ae ae (Nat.le_refl _)]
      congr 1
    have he:(s.extract i s.size).extract 1 (s.extract i s.size).size=s.extract (i+1) s.size:=by
      rw[ByteArray.extract_extract,hz];congr 1;omega
    rw[if_neg (fun h=>by have:=(toList_nil _).1 h;omega),if_pos ae,Ha,ax,hb0,he]
    simp only[lead]
    by_cases hb:ws (bt s (i:Int))=true
    · rw[if_pos hb,if_pos hb,if_pos ae]
      exact ih (k+1) (i+1) ae ae ae
    · rw[if_neg hb,if_neg hb]
      simp only[ek.j1]
      exact JJ s hs _ k i s.size h1 (Nat.le_refl _) rfl ae
theorem tK (s:af) (hs:s.size<=140737488351232) (k:Nat) (hk:2*s.size+3<k):cu.f k s=some (trimS s):=by
  unfold cu.f trimS
  exact U0 s hs s.size k 0 (Nat.zero_le _) ae ae
theorem rz (s:af) (hs:s.size<=140737488351232) (k:Nat) (hk:2*s.size+3<k):ek.f k s=some (trimS s):=by
  unfold ek.f trimS
  have h:=U1 s hs s.size k 0 (Nat.zero_le _) ae ae
  rw[ByteArray.extract_zero_size] at h
  exact h

def fin (s:af) (out:List ByteArray) (a:Nat):List ByteArray:=Ca out (trimS (s.extract a s.size))
def YW (s:af):Nat->List ByteArray->Nat->Bool->Nat->List ByteArray
  |0,out,a,_,_=>fin s out a
  |d+1,out,a,q,i=>
    if bt s (i:Int)=34 then YW s d out a (!q) (i+1)
    else if q=true/\bt s (i:Int)=92 then(match d with|0=>fin s out a|e+1=>YW s e out a q (i+2))
    else if q=false/\bt s (i:Int)=44 then YW s d (Ca out (trimS (s.extract a i))) (i+1) q (i+1)
    else YW s d out a q (i+1)
theorem D6 (s:af) (d:Nat) (out:List ByteArray) (a:Nat) (q:Bool) (i:Nat):YW s (d+1) out a q i =
    if bt s (i:Int)=34 then YW s d out a (!q) (i+1)
    else if q=true/\bt s (i:Int)=92 then(match d with|0=>fin s out a|e+1=>YW s e out a q (i+2))
    else if q=false/\bt s (i:Int)=44 then YW s d (Ca out (trimS (s.extract a i))) (i+1) q (i+1)
    else YW s d out a q (i+1):=by
  rw[YW.eq_def]
theorem vE (out:List ByteArray) (t:af):(Ca out t).length<=out.length+1:=by
  unfold Ca
  split
  · omega
  · simp
theorem EK (s:af) (hs:s.size<=4000) (k:Nat) (hk:2*s.size+3<k) (out:List ByteArray) (hl:out.length<=5000) (a:Nat) (ha:a<=s.size) (q:Bool) (i:Int) (hi:(s.size:Int)<=i) :
    fu.l0 (k+1) s out (a:Int) q i=some (fin s out a):=by
  have hz:(s.extract a s.size).size<=s.size:=by rw[size_extract];omega
  simp only[fu.l0]
  rw[if_neg ae,if_pos ae,if_pos ae,if_pos ae,Int.toNat_natCast,rz _ ae k ae]
  rfl
theorem anq (s:af) (hs:s.size<=4000):∀(n d:Nat),d<=n->∀(k:Nat) (out:List ByteArray) (a:Nat) (q:Bool) (i:Nat),i<=s.size->s.size-i=d->a<=i->out.length<=i->d+2*s.size+5<k->
    fu.l0 k s out (a:Int) q (i:Int)=some (YW s d out a q i):=by
  intro n
  induction n with
  |zero=>
    intro d hdn k out a q i hi hd ha hl hk
    obtain rfl:d=0:=by omega
    obtain⟨k,rfl⟩:∃ m,k=m+1:=⟨k-1,by omega⟩
    exact EK s hs k ae out ae a ae q i ae
  |succ n ih=>
    intro d hdn k out a q i hi hd ha hl hk
    obtain⟨k,rfl⟩:∃ m,k=m+1:=⟨k-1,by omega⟩
    cases d with
    |zero=>exact EK s hs k ae out ae a ae q i ae
    |succ d=>
      have hw:wrap64 ((i:Int)+1)=((i+1:Nat):Int):=by rw[aC ae ae];omega
      have hw2:wrap64 (((i+1:Nat):Int)+1)=((i+2:Nat):Int):=by rw[aC ae ae];omega
      simp only[fu.l0]
      rw[D6]
      rw[if_pos ae,if_pos ae,hw,hw2]
      by_cases c1:bt s (i:Int)=34
      · rw[if_pos c1,if_pos c1]
        exact ih d ae k out a (!q) (i+1) ae ae ae ae ae
      · rw[if_neg c1,if_neg c1]
        by_cases c2:q=true/\bt s (i:Int)=92
        · rw[if_pos c2,if_pos c2]
          cases d with
          |zero=>
            obtain⟨k,rfl⟩:∃ m,k=m+1:=⟨k-1,by omega⟩
            exact EK s hs k ae out ae a ae q _ ae
          |succ e=>exact ih e ae k out a q (i+2) ae ae ae ae ae
        · rw[if_neg c2,if_neg c2]
          by_cases c3:q=false/\bt s (i:Int)=44
          · have hz:(s.extract a i).size<=s.size:=by rw[size_extract];omega
            rw[if_pos c3,if_pos c3,if_pos ae,if_pos ae,if_pos ae,Int.toNat_natCast,Int.toNat_natCast,rz _ ae k ae,ax]
            exact ih d ae k _ (i+1) q (i+1) ae ae ae (by have:=vE out (trimS (s.extract a i));omega) ae
          · rw[if_neg c3,if_neg c3]
            exact ih d ae k out a q (i+1) ae ae ae ae ae
theorem YO (s:af) (k:Nat) (out:List ByteArray) (hl:out.length<=5000) (x:af) (hx:x.size<=4000) (hk:2*x.size+3<k) (g:List ByteArray->Option (List ByteArray)) :
    ((cu.f k x).bind fun t=>if(t.size:Int)>0 then(if out.length<8796093022208 then g (out ++ [t]) else none) else g out)=g (Ca out (trimS x)):=by
  rw[tK x ae k hk,ax]
  unfold Ca
  by_cases h:(trimS x).toList=([]:aQ)
  · have:=(toList_nil _).1 h
    rw[if_pos h,if_neg ae]
  · have:(trimS x).size≠0:=fun e=>h ((toList_nil _).2 e)
    rw[if_neg h,if_pos ae,if_pos ae]
theorem EL (s:af) (hs:s.size<=4000) (k:Nat) (hk:2*s.size+5<k) (out:List ByteArray) (hl:out.length<=5000) (a:Nat) (ha:a<=s.size) (q:Bool) :
    bC.l0 (k+2) s out (a:Int) q (s.size:Int)=some (fin s out a):=by
  have hz:(s.extract a s.size).size<=s.size:=by rw[size_extract];omega
  have hw:wrap64 ((s.size:Int)+1)=((s.size+1:Nat):Int):=by rw[aC ae ae];omega
  rw[bC.l0.eq_def]
  dsimp only
  rw[if_pos ae,if_pos rfl,bC.j1.eq_def]
  dsimp only
  rw[if_pos rfl,if_pos ae,if_pos ae,if_pos ae,Int.toNat_natCast,Int.toNat_natCast,hw]
  rw[YO s k out hl (s.extract a s.size) ae ae (fun o=>bC.l0 k s o ((s.size+1:Nat):Int) q ((s.size+1:Nat):Int))]
  obtain⟨k,rfl⟩:∃ m,k=m+1:=⟨k-1,by omega⟩
  rw[bC.l0.eq_def]
  dsimp only
  rw[if_neg ae]
  rfl
theorem anr (s:af) (hs:s.size<=4000):∀(n d:Nat),d<=n->∀(k:Nat) (out:List ByteArray) (a:Nat) (q:Bool) (i:Nat),i<=s.size->s.size-i=d->a<=i->out.length<=i->2*d+2*s.size+9<k->
    bC.l0 k s out (a:Int) q (i:Int)=some (YW s d out a q i):=by
  intro n
  induction n with
  |zero=>
    intro d hdn k out a q i hi hd ha hl hk
    obtain rfl:d=0:=by omega
    obtain⟨k,rfl⟩:∃ m,k=m+2:=⟨k-2,by omega⟩
    obtain rfl:i=s.size:=by omega
    exact EL s hs k ae out ae a ae q
  |succ n ih=>
    intro d hdn k out a q i hi hd ha hl hk
    obtain⟨k,rfl⟩:∃ m,k=m+2:=⟨k-2,by omega⟩
    cases d with
    |zero=>
      obtain rfl:i=s.size:=by omega
      exact EL s hs k ae out ae a ae q
    |succ d=>
      have hw:wrap64 ((i:Int)+1)=((i+1:Nat):Int):=by rw[aC ae ae];omega
      have hw2:wrap64 (((i+1:Nat):Int)+1)=((i+2:Nat):Int):=by rw[aC ae ae];omega
      have hno:∀(b:Bool),(q=true∨bt s (i:Int)≠44)->bC.j1 (k+1) s out (a:Int) q (i:Int) false=some (YW s (d+1) out a q i):=by
        intro b hq
        rw[bC.j1.eq_def]
        dsimp only
        rw[if_neg aA,if_pos ae,if_pos ae,hw,hw2]
        rw[D6]
        by_cases c1:bt s (i:Int)=34
        · rw[if_pos c1,if_pos c1]
          exact ih d ae k out a (!q) (i+1) ae ae ae ae ae
        · rw[if_neg c1,if_neg c1]
          by_cases c2:q=true
          · rw[if_pos c2]
            by_cases c3:bt s (i:Int)=92
            · rw[if_pos c3,if_pos (show q=true/\bt s (i:Int)=92 from⟨c2,c3⟩)]
              cases d with
              |zero=>
                rw[if_neg ae]
                obtain⟨k,rfl⟩:∃ m,k=m+2:=⟨k-2,by omega⟩
                have:((i+1:Nat):Int)=(s.size:Int):=by omega
                rw[this]
                exact EL s hs k ae out ae a ae q
              |succ e=>
                rw[if_pos ae]
                exact ih e ae k out a q (i+2) ae ae ae ae ae
            · rw[if_neg c3,if_neg (fun z=>c3 z.2),if_neg (fun z=>by rw[c2] at z;cases z.1)]
              exact ih d ae k out a q (i+1) ae ae ae ae ae
          · rw[if_neg c2,if_neg (fun z=>c2 z.1),if_neg (fun z=>by rcases hq with h|h;exact c2 h;exact h z.2)]
            exact ih d ae k out a q (i+1) ae ae ae ae ae
      rw[bC.l0.eq_def]
      dsimp only
      rw[if_pos ae,if_neg ae]
      by_cases c2:q=true
      · rw[if_pos c2]
        exact hno true (.inl c2)
      · rw[if_neg c2,if_pos ae,if_pos ae]
        by_cases c3:bt s (i:Int)=44
        · have hz:(s.extract a i).size<=s.size:=by rw[size_extract];omega
          rw[show((bt s (i:Int))==44)=true from beq_iff_eq.mpr c3,bC.j1.eq_def]
          dsimp only
          rw[if_pos rfl,if_pos ae,if_pos ae,if_pos ae,Int.toNat_natCast,Int.toNat_natCast,hw]
          rw[YO s k out ae (s.extract a i) ae ae (fun o=>bC.l0 k s o ((i+1:Nat):Int) q ((i+1:Nat):Int))]
          rw[D6,if_neg ae,if_neg (fun z=>c2 z.1),if_pos ⟨by simpa using c2,c3⟩]
          exact ih d ae k _ (i+1) q (i+1) ae ae ae (by have:=vE out (trimS (s.extract a i));omega) ae
        · rw[show((bt s (i:Int))==44)=false from beq_eq_false_iff_ne.mpr c3]
          exact hno true (.inr c3)
def qx (s:af):List ByteArray:=if(s.size:Int)>4000 then [] else YW s s.size [] 0 false 0
theorem Kt (s:af) (k:Nat) (hk:20000<k):fu.f k s=some (qx s):=by
  unfold fu.f qx
  by_cases h:(s.size:Int)>4000
  · rw[if_pos h,if_pos h]
  · rw[if_neg h,if_neg h]
    exact anq s ae s.size s.size (Nat.le_refl _) k [] 0 false 0 (Nat.zero_le _) ae (Nat.le_refl _) (Nat.le_refl _) ae
theorem Ku (s:af) (k:Nat) (hk:20000<k):bC.f k s=some (qx s):=by
  unfold bC.f qx
  by_cases h:(s.size:Int)>4000
  · rw[if_pos h,if_pos h]
  · rw[if_neg h,if_neg h]
    exact anr s ae s.size s.size (Nat.le_refl _) k [] 0 false 0 (Nat.zero_le _) ae (Nat.le_refl _) (Nat.le_refl _) ae
theorem aa3 (s:af):∀(n d:Nat),d<=n->∀(out:List ByteArray) (a:Nat) (q:Bool) (i:Nat),(YW s d out a q i).length<=out.length+d+1:=by
  intro n
  induction n with
  |zero=>
    intro d hdn out a q i
    obtain rfl:d=0:=by omega
    exact vE _ _
  |succ n ih=>
    intro d hdn out a q i
    cases d with
    |zero=>exact vE _ _
    |succ d=>
      rw[D6]
      split
      · have:=ih d ae out a (!q) (i+1);omega
      · split
        · cases d with
          |zero=>have:=vE out (trimS (s.extract a s.size));exact Nat.le_trans this ae
          |succ e=>have:=ih e ae out a q (i+2);exact Nat.le_trans this ae
        · split
          · have:=ih d ae (Ca out (trimS (s.extract a i))) (i+1) q (i+1)
            have:=vE out (trimS (s.extract a i))
            omega
          · have:=ih d ae out a q (i+1);omega
theorem JK (s:af):(qx s).length<=4001:=by
  unfold qx
  by_cases h:(s.size:Int)>4000
  · rw[if_pos h];exact Nat.zero_le _
  · rw[if_neg h]
    have:=aa3 s s.size s.size (Nat.le_refl _) [] 0 false 0
    simp at this
    omega

theorem iX (m:Nat) (h:m<=4611686018427387904):wrap64 ((m:Int)+1)=((m+1:Nat):Int):=by
  rw[aC ae ae];omega
theorem aes (m:Nat) (h:m<=4611686018427387904) (h1:1<=m):wrap64 ((m:Int)-1)=((m-1:Nat):Int):=by
  rw[aC ae ae];omega
theorem Kv (s:af):s.data.toList.length=s.size:=Array.length_toList
theorem bO {s:ByteArray} {n:Nat} {b:UInt8} (h:s.data.toList[n]? = some b):n<s.size/\bt s (n:Int)=(b.toNat:Int):=by
  obtain⟨h1,h2⟩:=List.getElem?_eq_some_iff.mp h
  have h3:n<s.size:=by rw[Kv] at h1;exact h1
  refine⟨h3,?_⟩
  unfold bt
  rw[dif_pos (show((n:Int)).toNat<s.size by simpa using h3)]
  simp only[Int.toNat_natCast]
  rw[<- h2]
  rfl
theorem ac6 {s:ByteArray} {n:Nat} (h:n<s.size):∃ b:UInt8,s.data.toList[n]? = some b/\bt s (n:Int)=(b.toNat:Int):=by
  have h1:n<s.data.toList.length:=by rw[Kv];exact h
  exact⟨s.data.toList[n],List.getElem?_eq_getElem h1,(bO (List.getElem?_eq_getElem h1)).2⟩
theorem Iq (s:af) (a b:Nat):(s.extract a b).data.toList=(s.data.toList.take b).drop a:=by
  rw[ByteArray.data_extract,Array.toList_extract,List.extract_eq_take_drop,List.take_drop]
  by_cases h:a<=b
  · rw[show a+(b-a)=b by omega]
  · rw[show a+(b-a)=a by omega,List.drop_of_length_le (by simp;omega),List.drop_of_length_le (by simp;omega)]
theorem Fe (s:af) (a b c d:Nat) (h:a+d<=b):(s.extract a b).extract c d=s.extract (a+c) (a+d):=by
  rw[ByteArray.extract_extract,Nat.min_eq_left h]
theorem dm (k:Nat) (h:0<k):∃ q,k=q+1:=⟨k-1,by omega⟩
def xB (p:Int->Bool):Nat->Int->Bool
  |0,_=>true
  |d+1,i=>p i&&xB p d (i+1)
theorem ajj (F:Nat->Int->Option Bool) (n:Nat) (p:Int->Bool) (K0:Nat) (stop:∀ k (i:Int),(n:Int)<=i->F (k+1) i=some true)
    (step:∀ k (i:Int),0<=i->i<n->K0<=k->F (k+1) i=if p i=true then F k (i+1) else some false) :
    ∀(d k:Nat) (i:Int),0<=i->(n:Int)-i=d->d+K0<k->F k i=some (xB p d i):=by
  intro d
  induction d with
  |zero=>
    intro k i h0 hd hk
    obtain⟨k,rfl⟩:∃ m,k=m+1:=⟨k-1,by omega⟩
    rw[stop k i ae]
    rfl
  |succ d ih=>
    intro k i h0 hd hk
    obtain⟨k,rfl⟩:∃ m,k=m+1:=⟨k-1,by omega⟩
    rw[step k i h0 ae ae,ih k (i+1) ae ae ae]
    simp only[xB]
    cases p i <;> simp
theorem wM (F:Nat->Int->Option Bool) (n:Nat) (p:Int->Bool) (K0:Nat) (stop:∀ k (i:Int),(n:Int)<=i->F (k+1) i=some true)
    (step:∀ k (i:Int),0<=i->i<n->K0<=k->F (k+1) i=if p i=true then F k (i+1) else some false) (k:Nat) (hk:n+K0<k):F k 0=some (xB p n 0):=
  ajj F n p K0 stop step n k 0 ae ae hk

def tN (c:Int):Int:=(eT.f 3 c).getD (-1)
theorem U2 : ∀ n:Fin 256,(eT.f 3 (n.val:Int)==some (tN (n.val:Int))&&decide (-1<=tN (n.val:Int))&&decide (tN (n.val:Int)<=15))=true:=by decide +kernel
theorem wN (c:Int) (h0:0<=c) (h1:c<=255) (k:Nat) (hk:3<=k):eT.f k c=some (tN c)/\-1<=tN c/\tN c<=15:=by
  obtain⟨n,rfl⟩:=Int.eq_ofNat_of_zero_le h0
  have h:=U2 ⟨n,by omega⟩
  simp only[Bool.and_eq_true,decide_eq_true_eq,beq_iff_eq] at h
  exact⟨ES (g:=fun k=>eT.f k (n:Int)) (fun k=>eT.mono (n:Int) k) hk h.1.1,h.1.2,h.2⟩
def ant (x4 c:Int) (f:Int->Option (Int×Bool)):Option (Int×Bool):=
  (jk.f c).bind fun t=>(bD.f t).bind fun d=>if d=true then f (wrap64 ((wrap64 (x4*16))+((t-48)%256))) else if t>=97 then(if t<=102 then f (wrap64 ((wrap64 ((wrap64 (x4*16))+((t-97)%256)))+10)) else some (0,false)) else some (0,false)
def axu (c:Int):Int:=match jk.f c with
  |some t=>match bD.f t with
    |some true=>(t-48)%256
    |some false=>if t>=97 then(if t<=102 then(t-97)%256+10 else -1) else -1
    |none=>-2
  |none=>-2
theorem U3 : ∀ n:Fin 256,(axu (n.val:Int)==tN (n.val:Int))=true:=by decide +kernel
theorem ac7 (c:Int) (h0:0<=c) (h1:c<=255) (x4:Int) (hx:0<=x4) (hx2:x4<=268435456) (f:Int->Option (Int×Bool)) :
    ant x4 c f=if tN c<0 then some (0,false) else f (16*x4+tN c):=by
  obtain⟨n,rfl⟩:=Int.eq_ofNat_of_zero_le h0
  have h:=beq_iff_eq.1 (U3 ⟨n,by omega⟩)
  have hr:=wN (n:Int) h0 h1 3 (Nat.le_refl _)
  simp only at h
  unfold ant
  unfold axu at h
  have hw16:wrap64 (x4*16)=x4*16:=aC ae ae
  cases hl:jk.f (n:Int) with
  |none=>rw[hl] at h;simp only at h;omega
  |some t=>
    rw[hl] at h
    simp only at h
    rw[ax]
    cases hd:bD.f t with
    |none=>rw[hd] at h;simp only at h;omega
    |some d=>
      rw[hd] at h
      rw[ax,hw16]
      cases d with
      |true=>
        simp only at h
        rw[if_pos rfl,if_neg ae,aC ae ae]
        congr 1;omega
      |false=>
        simp only at h
        rw[if_neg aA]
        by_cases h97:t>=97
        · rw[if_pos h97] at h ⊢
          by_cases axv:t<=102
          · rw[if_pos axv] at h ⊢
            rw[if_neg ae,aC (x:=x4*16+(t-97)%256) ae ae,aC ae ae]
            congr 1;omega
          · rw[if_neg axv] at h ⊢
            rw[if_pos ae]
        · rw[if_neg h97] at h ⊢
          rw[if_pos ae]
theorem je (s:af) (i:Int):0<=bt s i/\bt s i<=255:=by
  unfold bt
  split
  · rename_i h
    have:=(s[i.toNat]).toNat_lt
    omega
  · omega
theorem xh (a b c:Int):bG.f a b c=some (decide (b<=a/\a<=c)):=by
  unfold bG.f
  by_cases h:b<=a
  · rw[if_pos h];simp[h]
  · rw[if_neg h];simp[h]

def aa4 (c:Int):Bool:=(gQ.f c).getD false
theorem U4 : ∀ n:Fin 256,gQ.f (n.val:Int)=some (aa4 (n.val:Int)):=by decide +kernel
theorem U5 : ∀ n:Fin 256,gH.f 20 (n.val:Int)=some (aa4 (n.val:Int)):=by decide +kernel
theorem P9 (c:Int) (h0:0<=c) (h1:c<=255):gQ.f c=some (aa4 c):=by
  obtain⟨n,rfl⟩:=Int.eq_ofNat_of_zero_le h0
  exact U4 ⟨n,by omega⟩
theorem ajk (c:Int) (h0:0<=c) (h1:c<=255) (k:Nat) (hk:20<=k):gH.f k c=some (aa4 c):=by
  obtain⟨n,rfl⟩:=Int.eq_ofNat_of_zero_le h0
  exact ES (g:=fun k=>gH.f k (n:Int)) (fun k=>gH.mono (n:Int) k) hk (U5 ⟨n,by omega⟩)
def Qu (s:af):Bool:=decide (1<=s.size/\s.size<=4000)&&xB (fun i=>aa4 (bt s i)) s.size 0
theorem FC (s:af) (k:Nat) (hk:5000<k):lU.f k s=some (Qu s):=by
  unfold lU.f Qu
  rw[xh,ax]
  by_cases h:1<=s.size/\s.size<=4000
  · rw[if_pos (bK ae),bK h,Bool.true_and]
    unfold bT.f
    rw[wM (fun k i=>bT.l0 k s i) s.size (fun i=>aa4 (bt s i)) 0 (fun k i hi=>by simp only[bT.l0];rw[if_neg ae])
      (fun k i h0 h1 _=>by
        have hb:=je s i
        simp only[bT.l0]
        rw[if_pos h1,if_pos h0,P9 _ hb.1 hb.2,ax,aC ae ae]) k ae]
    rfl
  · rw[if_neg (by simp;omega),bQ h,Bool.false_and]
theorem Fz (s:af) (k:Nat) (hk:5000<k):eU.f k s=some (Qu s):=by
  obtain⟨k,rfl⟩:∃ m,k=m+1:=⟨k-1,by omega⟩
  unfold eU.f Qu
  by_cases h0:(s.size:Int)=0
  · rw[if_pos h0,bQ ae,Bool.false_and]
    simp[eU.j0]
  · rw[if_neg h0]
    simp only[eU.j0]
    by_cases h:1<=s.size/\s.size<=4000
    · rw[if_neg (by simp;omega),bK h,Bool.true_and]
      exact wM (fun k i=>eU.l0 k s i) s.size (fun i=>aa4 (bt s i)) 20 (fun k i hi=>by simp only[eU.l0];rw[if_neg ae])
        (fun k i h0 h1 hk=>by
          have hb:=je s i
          simp only[eU.l0]
          rw[if_pos h1,if_pos h0,ajk _ hb.1 hb.2 k hk,ax,aC ae ae]) k ae
    · rw[if_pos (by simp;omega),bQ h,Bool.false_and]
def plB (c:Int):Bool:=decide (c=9)||(decide (32<=c)&&decide (c≠127))
theorem Ct (c:Int):kC.f c=some (plB c):=by
  unfold kC.f plB
  by_cases h:c=9
  · rw[if_pos h];simp[h]
  · rw[if_neg h]
    by_cases h2:c>=32
    · rw[if_pos h2]
      by_cases h3:c=127 <;> simp[h,h2,h3]
    · rw[if_neg h2];simp[h,h2]
theorem Gy (c:Int):lh.f c=some (plB c):=Ct c
def AR (s:af):Bool:=xB (fun i=>plB (bt s i)) s.size 0
theorem FB (s:af) (hs:s.size<=140737488351232) (k:Nat) (hk:s.size<k):bS.f k s=some (AR s):=by
  unfold bS.f AR
  exact wM (fun k i=>bS.l0 k s i) s.size (fun i=>plB (bt s i)) 0 (fun k i hi=>by simp only[bS.l0];rw[if_neg ae])
    (fun k i h0 h1 _=>by
      simp only[bS.l0]
      rw[if_pos h1,if_pos h0,Ct,ax,aC ae ae]) k ae
theorem Fy (s:af) (hs:s.size<=140737488351232) (k:Nat) (hk:s.size<k):fF.f k s=some (AR s):=by
  unfold fF.f AR
  exact wM (fun k i=>fF.l0 k s i) s.size (fun i=>plB (bt s i)) 0 (fun k i hi=>by simp only[fF.l0];rw[if_neg ae])
    (fun k i h0 h1 _=>by
      simp only[fF.l0]
      rw[if_pos h1,if_pos h0,Gy,ax,aC ae ae]) k ae

def uj (n v:af):Bool:=decide (n.size<=40)&&(Qu n&&(decide (v.size<=190)&&(AR v&&((trimS v).toList==v.toList))))
theorem MJ (n v:af) (k:Nat) (hk:5000<k):fE.f k n v=some (uj n v):=by
  unfold fE.f uj
  rw[FC n k hk,ax]
  by_cases h1:Qu n=true
  · rw[if_pos h1,h1,Bool.true_and]
    by_cases h2:n.size<=40
    · rw[if_pos ae,bK h2,Bool.true_and]
      by_cases h3:v.size<=190
      · rw[if_pos ae,bK h3,Bool.true_and,FB v ae k ae,ax]
        by_cases h4:AR v=true
        · rw[if_pos h4,h4,Bool.true_and,rz v ae k ae];rfl
        · rw[if_neg h4];simp[h4]
      · rw[if_neg ae,bQ h3,Bool.false_and]
    · rw[if_neg ae,bQ h2,Bool.false_and]
  · rw[if_neg h1];simp[h1]
theorem Da (n v:af) (k:Nat) (hk:5000<k):jm.f k n v=some (uj n v):=by
  unfold jm.f uj
  by_cases h2:n.size<=40
  · rw[if_pos ae,bK h2,Bool.true_and,Fz n k hk,ax]
    by_cases h1:Qu n=true
    · rw[if_pos h1,h1,Bool.true_and]
      by_cases h3:v.size<=190
      · rw[if_pos ae,bK h3,Bool.true_and,Fy v ae k ae,ax]
        by_cases h4:AR v=true
        · rw[if_pos h4,h4,Bool.true_and,tK v ae k ae];rfl
        · rw[if_neg h4];simp[h4]
      · rw[if_neg ae,bQ h3,Bool.false_and]
    · rw[if_neg h1];simp[h1]
  · rw[if_neg ae,bQ h2,Bool.false_and]
abbrev dC := lq
def gP (l:List dC):Bool:=decide (l.length<=20)&&xB (fun i=>uj (aV l i).f0 (aV l i).f1) l.length 0
theorem tF (l:List dC) (k:Nat) (hk:6000<k):eQ.f k l=some (gP l):=by
  unfold eQ.f gP
  by_cases h:l.length<=20
  · rw[if_neg ae,bK h,Bool.true_and]
    exact wM (fun k i=>eQ.l0 k l (l.length:Int) i) l.length _ 5001 (fun k i hi=>by simp only[eQ.l0];rw[if_neg ae])
      (fun k i h0 h1 hk=>by
        simp only[eQ.l0]
        rw[if_pos h1,if_pos h0,if_pos h1,MJ _ _ k ae,ax,aC ae ae]) k ae
  · rw[if_pos ae,bQ h,Bool.false_and]
theorem xg (l:List dC) (k:Nat) (hk:6000<k):fe.f k l=some (gP l):=by
  unfold fe.f gP
  by_cases h:l.length<=20
  · rw[if_neg ae,bK h,Bool.true_and]
    exact wM (fun k i=>fe.l0 k l i) l.length _ 5001 (fun k i hi=>by simp only[fe.l0];rw[if_neg ae])
      (fun k i h0 h1 hk=>by
        simp only[fe.l0]
        rw[if_pos h1,if_pos h0,Da _ _ k ae,ax,aC ae ae]) k ae
  · rw[if_pos ae,bQ h,Bool.false_and]
theorem jD {l:List dC} (h:gP l=true):l.length<=20:=by
  unfold gP at h
  have:=(Bool.and_eq_true_iff.1 h).1
  exact ay this
theorem ac8 {p:Int->Bool}:∀(d:Nat) (i:Int),xB p d i=true->∀ j:Nat,j<d->p (i+j)=true:=by
  intro d
  induction d with
  |zero=>intro i _ j hj;omega
  |succ d ih=>
    intro i h j hj
    simp only[xB,Bool.and_eq_true] at h
    cases j with
    |zero=>simpa using h.1
    |succ j=>
      have:=ih (i+1) h.2 j ae
      rw[show i+((j+1:Nat):Int)=i+1+(j:Int) by omega]
      exact this
theorem xG {l:List dC} (h:gP l=true) (j:Nat) (hj:j<l.length):(aV l (j:Int)).f0.size<=40/\(aV l (j:Int)).f1.size<=190:=by
  unfold gP at h
  have h2:=ac8 _ _ (Bool.and_eq_true_iff.1 h).2 j hj
  rw[Int.zero_add] at h2
  unfold uj at h2
  simp only[Bool.and_eq_true] at h2
  exact⟨ay h2.1,ay h2.2.2.1⟩
def qF (a b:af):Bool:=(lG a).toList==(lG b).toList
theorem Kw (a b:af) (ha:a.size<=9223372036854775807) (hb:b.size<=9223372036854775807):om.f a b=some (qF a b):=by
  unfold om.f jF.f qF
  rw[if_pos ha,ax,if_pos hb,ax]
theorem Ky (a b:af) (ha:a.size<=9223372036854775807) (hb:b.size<=9223372036854775807):oo.f a b=some (qF a b):=by
  unfold oo.f il.f qF
  rw[if_pos ha,ax,if_pos hb,ax]

theorem BP (s:af) (n:Nat) (c:UInt8) (h1:n<s.size) (h2:bt s (n:Int)=(c.toNat:Int)) (h3:∀ m:Nat,m<n->bt s (m:Int)≠(c.toNat:Int)) :
    Lib.indexByte s.data.toList c=(n:Int):=by
  obtain⟨b,hb,hbt⟩:=ac6 h1
  rw[<- Lib.indexAny_one]
  refine Lib.indexAny_hit (x:=b) (fun j y hj hy=>?_) hb ?_
  · have:=h3 j hj
    rw[(bO hy).2] at this
    have hn:y≠c:=fun e=>this (by rw[e])
    simp[hn]
  · have:b=c:=UInt8.toNat_inj.1 ae
    simp[this]
theorem AP (s:af) (c:UInt8) (h3:∀ m:Nat,m<s.size->bt s (m:Int)≠(c.toNat:Int)) :
    Lib.indexByte s.data.toList c = -1:=by
  rw[<- Lib.indexAny_one]
  refine Lib.indexAny_none (fun j y hj hy=>?_)
  have hq:=bO hy
  have:=h3 j hq.1
  rw[hq.2] at this
  have hn:y≠c:=fun e=>this (by rw[e])
  simp[hn]
def dg (u:UInt8):Bool:=decide (48<=u.toNat/\u.toNat<=57)
def dd (a:Fin 10):UInt8:=UInt8.ofNat (48+a.val)
theorem QV (u:UInt8):bD.f (u.toNat:Int)=some (dg u):=by
  unfold bD.f dg
  split
  · congr 1;apply decide_eq_decide.2;omega
  · congr 1;exact(bQ ae).symm
theorem extract_all (s:af):s.extract 0 s.size=s:=by
  apply ByteArray.ext
  rw[ByteArray.data_extract]
  exact Array.extract_eq_self_of_le (Nat.le_refl _)
def yf (s:af):Bool:=xB (fun i=>decide (33<=bt s i/\bt s i<=126)) s.size 0
theorem uJ (s:af) (hs:s.size<=1048576) (k:Nat) (hk:s.size+1<k):aK.f k s=some (yf s):=by
  refine wM (fun k i=>aK.l0 k s i) s.size _ 1 (fun k i hi=>by simp only[aK.l0];rw[if_neg ae]) (fun k i h0 h1 hk=>?_) k ae
  simp only[aK.l0,oN.f]
  rw[if_pos h1,if_pos h0,aC ae ae]
  by_cases h:bt s i>=33
  · rw[if_pos h,ax]
    by_cases h2:bt s i<=126
    · rw[if_pos (bK h2),if_pos (bK ⟨h,h2⟩)]
    · rw[if_neg (by rw[bQ h2];decide),if_neg (by rw[bQ (fun x=>h2 x.2)];decide)]
  · rw[if_neg h,ax,if_neg aA,if_neg (by rw[bQ (fun x=>h x.1)];decide)]
theorem uI (s:af) (hs:s.size<=1048576) (k:Nat) (hk:s.size+1<k):df.f k s=some (decide (0<s.size)&&yf s):=by
  by_cases h0:0<s.size
  · rw[bK h0,Bool.true_and]
    refine wM (fun k i=>df.l0 k s i) s.size _ 1 (fun k i hi=>by simp only[df.l0];rw[if_neg ae,bK ae]) (fun k i h0 h1 hk=>?_) k ae
    simp only[df.l0]
    rw[if_pos h1,if_pos h0,aC ae ae]
    by_cases h:bt s i<33
    · rw[if_pos h,if_neg (by rw[bQ (fun x=>by omega)];decide)]
    · rw[if_neg h]
      by_cases h2:bt s i>126
      · rw[if_pos h2,if_neg (by rw[bQ (fun x=>by omega)];decide)]
      · rw[if_neg h2,if_pos (bK ae)]
  · obtain⟨k,rfl⟩:=dm k ae
    unfold df.f
    simp only[df.l0]
    rw[if_neg ae,bQ h0,Bool.false_and,bQ ae]
def ajV (a b:af):Bool:=decide (a.size<=20)&&(Qu a&&(decide (b.size<=200)&&(decide (0<b.size)&&yf b)))
def pieces (s:af) (c:Int):Nat->Nat->Nat->List ByteArray
  |0,a,_=>[s.extract a s.size]
  |d+1,a,i=>if bt s (i:Int)=c then s.extract a i::pieces s c d (i+1) (i+1) else pieces s c d a (i+1)
def jq (s:af) (c:Int):List ByteArray:=pieces s c s.size 0 0
theorem anu (s:af) (c:UInt8) (p n:Nat) (hp:p<=n) (h1:n<s.size) (h2:bt s (n:Int)=(c.toNat:Int)) (h3:∀ m:Nat,p<=m->m<n->bt s (m:Int)≠(c.toNat:Int)) :
    Lib.indexB (s.extract p s.size) (⟨#[c]⟩:af)=((n-p:Nat):Int):=by
  have hsz:(s.extract p s.size).size=s.size-p:=by rw[size_extract];omega
  show Lib.index (s.extract p s.size).data.toList [c]=_
  rw[Lib.index_one]
  apply BP
  · omega
  · rw[mq _ _ _ _ ae ae ae,show(p:Int)+((n-p:Nat):Int)=(n:Int) by omega];exact h2
  · intro m hm
    rw[mq _ _ _ _ ae ae ae]
    exact h3 (p+m) ae ae
theorem ajl (s:af) (c:UInt8) (p:Nat) (h3:∀ m:Nat,p<=m->m<s.size->bt s (m:Int)≠(c.toNat:Int)) :
    Lib.indexB (s.extract p s.size) (⟨#[c]⟩:af) = -1:=by
  have hsz:(s.extract p s.size).size=s.size-p:=by rw[size_extract];omega
  show Lib.index (s.extract p s.size).data.toList [c]=_
  rw[Lib.index_one]
  apply AP
  intro m hm
  rw[mq _ _ _ _ ae ae ae]
  exact h3 (p+m) ae ae
def EM (s:af) (c:UInt8) (p:Nat):List ByteArray:=Lib.splitB (⟨#[c]⟩:af) 0 (Lib.countB (s.extract p s.size) (⟨#[c]⟩:af)) (s.extract p s.size)
theorem YP (s:af) (c:UInt8) (p:Nat) (h3:∀ m:Nat,p<=m->m<s.size->bt s (m:Int)≠(c.toNat:Int)):EM s c p = [s.extract p s.size]:=by
  unfold EM
  exact Lib.splitB_miss _ _ _ _ (ajl s c p h3)
theorem aa5 (s:af) (c:UInt8) (p n:Nat) (hp:p<=n) (h1:n<s.size) (h2:bt s (n:Int)=(c.toNat:Int)) (h3:∀ m:Nat,p<=m->m<n->bt s (m:Int)≠(c.toNat:Int)) :
    EM s c p=s.extract p n::EM s c (n+1):=by
  have hix:=anu s c p n hp h1 h2 h3
  have hsz:(s.extract p s.size).size=s.size-p:=by rw[size_extract];omega
  have h1s:(⟨#[c]⟩:af).size=1:=rfl
  have hr:(s.extract p s.size).extract (n-p+1) (s.extract p s.size).size=s.extract (n+1) s.size:=by
    rw[hsz,Fe _ _ _ _ _ ae,show p+(n-p+1)=n+1 by omega,show p+(s.size-p)=s.size by omega]
  unfold EM
  rw[Lib.countB_hit _ _ _ (Nat.le_of_eq h1s.symm) hix,h1s,hr,Nat.add_comm 1,Lib.splitB_hit _ _ _ _ _ hix,h1s,hr,Fe _ _ _ _ _ ae,show p+0=p by omega,show p+(n-p+0)=n by omega]
theorem QW (s:af) (c:UInt8):∀(d a i:Nat),i+d=s.size->a<=i->(∀ m:Nat,a<=m->m<i->bt s (m:Int)≠(c.toNat:Int))->EM s c a=pieces s (c.toNat:Int) d a i:=by
  intro d
  induction d with
  |zero=>exact fun a i h1 h2 h3=>YP s c a (fun m q1 q2=>h3 m q1 ae)
  |succ d ih=>
    intro a i h1 h2 h3
    unfold pieces
    by_cases h:bt s (i:Int)=(c.toNat:Int)
    · rw[if_pos h,aa5 s c a i h2 ae h h3,ih (i+1) (i+1) ae (Nat.le_refl _) (fun m q1 q2=>absurd q1 ae)]
    · rw[if_neg h]
      refine ih a (i+1) ae ae (fun m q1 q2=>?_)
      by_cases q:m=i
      · rw[q];exact h
      · exact h3 m q1 ae
theorem YQ (s:af) (c:UInt8) (hs:s.size<4294967281):strings_Split.f s (⟨#[c]⟩:af)=some (jq s (c.toNat:Int)):=by
  have h:strings_Split.f s (⟨#[c]⟩:af)=some (EM s c 0):=by
    unfold strings_Split.f EM
    simp only
    rw[if_pos hs,extract_all]
  rw[h,QW s c s.size 0 0 ae (Nat.le_refl _) (fun m q1 q2=>absurd q2 ae)]
  rfl
theorem Ga (s:af) (c:Int):∀(d a i:Nat),(pieces s c d a i).length<=d+1/\0<(pieces s c d a i).length:=by
  intro d
  induction d with
  |zero=>exact fun a i=>⟨Nat.le_refl 1,Nat.one_pos⟩
  |succ d ih=>
    intro a i
    unfold pieces
    split
    · have:=ih (i+1) (i+1)
      simp only[List.length_cons]
      omega
    · have:=ih a (i+1)
      omega
theorem CV (s:af) (c:Int):∀(d a i:Nat),∀ x∈pieces s c d a i,x.size<=s.size:=by
  intro d
  induction d with
  |zero=>
    intro a i x hx
    obtain rfl:=List.mem_singleton.mp hx
    rw[size_extract];omega
  |succ d ih=>
    intro a i x hx
    unfold pieces at hx
    split at hx
    · rcases List.mem_cons.mp hx with rfl|hx
      · rw[size_extract];omega
      · exact ih _ _ x hx
    · exact ih _ _ x hx

def Kz (s:af) (c:Int):Nat->Nat->Nat
  |0,i=>i
  |d+1,i=>if bt s (i:Int)=c then i else Kz s c d (i+1)
theorem Hd (s:af) (c:Int):∀(d i:Nat),i<=Kz s c d i/\Kz s c d i<=i+d/\(∀ m:Nat,i<=m->m<Kz s c d i->bt s (m:Int)≠c)/\(Kz s c d i<i+d->bt s (Kz s c d i:Int)=c):=by
  intro d
  induction d with
  |zero=>intro i;exact⟨Nat.le_refl _,Nat.le_refl _,fun m a b=>absurd b (by simp[Kz];omega),fun h=>absurd h (by simp[Kz])⟩
  |succ d ih=>
    intro i
    unfold Kz
    by_cases h:bt s (i:Int)=c
    · rw[if_pos h]
      exact⟨Nat.le_refl _,by omega,fun m a b=>absurd b ae,fun _=>h⟩
    · rw[if_neg h]
      obtain⟨a,b,e,f⟩:=ih (i+1)
      refine⟨by omega,by omega,fun m h1 h2=>?_,fun h1=>f ae⟩
      by_cases q:m=i
      · rw[q];exact h
      · exact e m ae h2
def bV (s:af) (c:Int):Nat:=Kz s c s.size 0
theorem mK (s:af) (c:Int):bV s c<=s.size:=by have:=(Hd s c s.size 0).2.1;unfold bV;omega
theorem Am (s:af) (c:Int) (m:Nat) (h:m<bV s c):bt s (m:Int)≠c:=(Hd s c s.size 0).2.2.1 m (Nat.zero_le _) h
theorem BQ (s:af) (c:Int) (h:bV s c<s.size):bt s (bV s c:Int)=c:=(Hd s c s.size 0).2.2.2 (by unfold bV at h;omega)
theorem xH (s:af) (c:Int) (n:Nat) (h1:n<=s.size) (h2:∀ m:Nat,m<n->bt s (m:Int)≠c) (h3:n<s.size->bt s (n:Int)=c):bV s c=n:=by
  by_cases a:bV s c<n
  · exact absurd (BQ s c ae) (h2 _ a)
  · by_cases b:n<bV s c
    · exact absurd (h3 (by have:=mK s c;omega)) (Am s c n b)
    · omega
def bz (s:af) (c:Int):ByteArray:=s.extract 0 (bV s c)
theorem rW (s:af) (c:Int):(bz s c).size=bV s c:=by unfold bz;rw[size_extract];have:=mK s c;omega
theorem Qa (s:af) (hs:s.size<=1048576) (c:Int):∀(d i k:Nat),i+d=s.size->d<k->dS.l0 k s c (i:Int)=some (s.extract 0 (Kz s c d i)):=by
  intro d
  induction d with
  |zero=>
    intro i k h hk
    obtain⟨k,rfl⟩:=dm k ae
    simp only[dS.l0,Kz]
    rw[if_neg ae,show i=s.size by omega,extract_all]
  |succ d ih=>
    intro i k h hk
    obtain⟨k,rfl⟩:=dm k ae
    simp only[dS.l0,Kz]
    rw[if_pos ae,if_pos ae]
    by_cases e:bt s (i:Int)=c
    · rw[if_pos e,if_pos e,if_pos ae];rfl
    · rw[if_neg e,if_neg e,iX i ae]
      exact ih (i+1) k ae ae
theorem Ad (s:af) (hs:s.size<=1048576) (c:Int) (k:Nat) (hk:s.size<k):dS.f k s c=some (bz s c):=Qa s hs c s.size 0 k ae hk
theorem Gt (s:af) (c:UInt8):Lib.indexByte s.data.toList c=if bV s (c.toNat:Int)<s.size then(bV s (c.toNat:Int):Int) else -1:=by
  by_cases h:bV s (c.toNat:Int)<s.size
  · rw[if_pos h]
    exact BP s _ c h (BQ _ _ h) (fun m hm=>Am _ _ m hm)
  · rw[if_neg h]
    exact AP s c (fun m hm=>Am _ _ m (by have:=mK s (c.toNat:Int);omega))
theorem U6 (s:af) (c:UInt8):strings_Index.f s (⟨#[c]⟩:af)=some (if bV s (c.toNat:Int)<s.size then(bV s (c.toNat:Int):Int) else -1):=by
  rw[<- Gt]
  rfl
theorem Dx (s:af) (c:UInt8):strings_Contains.f s (⟨#[c]⟩:af)=some (decide (bV s (c.toNat:Int)<s.size)):=by
  unfold strings_Contains.f
  rw[U6,ax]
  congr 1
  by_cases h:bV s (c.toNat:Int)<s.size
  · rw[if_pos h,bK h,bK ae]
  · rw[if_neg h,bQ h,bQ ae]
theorem Qb (s:af) (hs:s.size<=1048576) (c:UInt8):strings_Cut.f s (⟨#[c]⟩:af)=some (if bV s (c.toNat:Int)<s.size then(s.extract 0 (bV s (c.toNat:Int)),s.extract (bV s (c.toNat:Int)+1) s.size,true) else(s,(⟨#[]⟩:af),false)):=by
  have hi:stringslite_Index.f s (⟨#[c]⟩:af)=some (if bV s (c.toNat:Int)<s.size then(bV s (c.toNat:Int):Int) else -1):=by
    rw[<- Gt];rfl
  have h1:(⟨#[c]⟩:af).size=1:=rfl
  unfold strings_Cut.f stringslite_Cut.f
  rw[hi,ax,h1]
  by_cases h:bV s (c.toNat:Int)<s.size
  · rw[if_pos h,if_pos h,if_pos ae,if_pos ae,if_pos ae,show((1:Nat):Int)=1 from rfl,iX _ ae,if_pos ae,if_pos ae]
    rfl
  · rw[if_neg h,if_neg h,if_neg ae];rfl
theorem MK (s:af) (hs:s.size<=1048576) (c:Int):∀(d a i k:Nat) (out:List ByteArray),i+d=s.size->a<=i->out.length<=i->d+2<k->gJ.l0 k s c out (a:Int) (i:Int)=some (out++pieces s c d a i):=by
  intro d
  induction d with
  |zero=>
    intro a i k out h ha ho hk
    obtain⟨k,rfl⟩:∃ q,k=q+2:=⟨k-2,by omega⟩
    obtain rfl:i=s.size:=by omega
    simp only[gJ.l0,pieces]
    rw[if_pos (Int.le_refl _),if_pos trivial,if_pos ae,if_pos ae,if_pos ae,iX _ ae,if_neg ae]
    rfl
  |succ d ih=>
    intro a i k out h ha ho hk
    obtain⟨k,rfl⟩:=dm k ae
    simp only[gJ.l0,pieces]
    rw[if_pos ae,if_neg ae,if_pos ae,if_pos ae,iX _ ae]
    by_cases e:bt s (i:Int)=c
    · rw[if_pos e,if_pos e,if_pos ae,if_pos ae,if_pos ae,ih (i+1) (i+1) k _ ae (Nat.le_refl _) (by rw[List.length_append,List.length_singleton];omega) ae]
      simp
    · rw[if_neg e,if_neg e]
      exact ih a (i+1) k out ae ae ae ae
theorem Gb (s:af) (hs:s.size<=1048576) (c:Int) (k:Nat) (hk:s.size+2<k):gJ.f k s c=some (jq s c):=by
  have:=MK s hs c s.size 0 0 k [] ae (Nat.le_refl _) (Nat.le_refl _) hk
  simpa [gJ.f,jq] using this

def Qc (c:Int):Bool:=(jW.f c).getD false
theorem YR : ∀ n:Fin 256,jW.f (n.val:Int)=some (Qc (n.val:Int)):=by decide +kernel
theorem YS : ∀ n:Fin 256,iZ.f 20 (n.val:Int)=some (Qc (n.val:Int)):=by decide +kernel
theorem U7 (c:Int) (h0:0<=c) (h1:c<=255):jW.f c=some (Qc c):=by
  obtain⟨n,rfl⟩:=Int.eq_ofNat_of_zero_le h0
  exact YR ⟨n,by omega⟩
theorem U8 (c:Int) (h0:0<=c) (h1:c<=255) (k:Nat) (hk:20<=k):iZ.f k c=some (Qc c):=by
  obtain⟨n,rfl⟩:=Int.eq_ofNat_of_zero_le h0
  exact ES (g:=fun k=>iZ.f k (n:Int)) (fun k=>iZ.mono (n:Int) k) hk (YS ⟨n,by omega⟩)
def anv : ByteArray:=⟨#[48,49,50,51,52,53,54,55,56,57,65,66,67,68,69,70]⟩
theorem ajm : ∀ n:Fin 256,(decide (tN (n.val:Int)<0)||(nX.f (n.val:Int)==some (bt anv (tN (n.val:Int)))))=true:=by decide +kernel
theorem apr (c:Int) (h0:0<=c) (h1:c<=255) (h:0<=tN c):nX.f c=some (bt anv (tN c)):=by
  obtain⟨n,rfl⟩:=Int.eq_ofNat_of_zero_le h0
  have:=ajm ⟨n,by omega⟩
  rw[Bool.or_eq_true,decide_eq_true_eq,beq_iff_eq] at this
  rcases this with h2|h2
  · simp only at h2;omega
  · exact h2
theorem aBF (a b:Int) (ha:0<=a/\a<=15) (hb:0<=b/\b<=15):Go.bits .and .u8 (16*a+b) 15=b:=by
  obtain⟨n,rfl⟩:=Int.eq_ofNat_of_zero_le ha.1
  obtain⟨m,rfl⟩:=Int.eq_ofNat_of_zero_le hb.1
  have key:∀ x y:Fin 16,Go.bits .and .u8 (16*(x.val:Int)+(y.val:Int)) 15=(y.val:Int):=by decide +kernel
  exact key ⟨n,by omega⟩ ⟨m,by omega⟩
def DK (s:af) (i:Nat):Bool:=decide (bt s (i:Int)=37)&&(decide (i+2<s.size)&&(decide (0<=tN (bt s ((i+1:Nat):Int)))&&decide (0<=tN (bt s ((i+2:Nat):Int)))))
def CW (s:af) (i:Nat):Int:=16*tN (bt s ((i+1:Nat):Int))+tN (bt s ((i+2:Nat):Int))
def QX (s:af) (i:Nat):List Int:=if Qc (CW s i)=true then [CW s i] else [37,bt anv (tN (bt s ((i+1:Nat):Int))),bt anv (tN (bt s ((i+2:Nat):Int)))]
def Nt (s:af):Nat->List Int->Nat->List Int
  |0,out,_=>out
  |d+1,out,i=>if i<s.size then(if DK s i=true then Nt s d (out++QX s i) (i+3) else Nt s d (out ++ [bt s (i:Int)]) (i+1)) else out
def nK (s:af):ByteArray:=strOfNums (Nt s s.size [] 0)
theorem ajn (s:af) (i:Nat):(QX s i).length<=3:=by unfold QX;split <;> simp
theorem anw (s:af):∀(d:Nat) (out:List Int) (i:Nat),out.length<=i->i<=s.size->(Nt s d out i).length<=s.size:=by
  intro d
  induction d with
  |zero=>intro out i h1 h2;simp only[Nt];omega
  |succ d ih=>
    intro out i h1 h2
    unfold Nt
    split
    · split
      · rename_i h
        unfold DK at h
        simp only[Bool.and_eq_true,decide_eq_true_eq] at h
        have:=ajn s i
        exact ih _ _ (by rw[List.length_append];omega) ae
      · exact ih _ _ (by rw[List.length_append,List.length_singleton];omega) ae
    · omega
theorem He (s:af):(nK s).size<=s.size:=by
  unfold nK
  rw[strOfNums_size]
  exact anw s _ _ _ (Nat.le_refl _) (Nat.zero_le _)
theorem aet {s:ByteArray} {i:Nat} (h:DK s i=true):bt s (i:Int)=37/\i+2<s.size/\0<=tN (bt s ((i+1:Nat):Int))/\0<=tN (bt s ((i+2:Nat):Int)):=by
  unfold DK at h
  simp only[Bool.and_eq_true,decide_eq_true_eq] at h
  exact h
theorem ajo (s:af) (hs:s.size<=100000):∀(d k i:Nat) (out:List Int),i<=s.size->s.size-i<=d->out.length<=i->2*d+10<k->aG.l0 k s out (i:Int)=some (strOfNums (Nt s d out i)):=by
  intro d
  induction d with
  |zero=>
    intro k i out h1 h2 h3 hk
    obtain⟨k,rfl⟩:=dm k ae
    simp only[aG.l0,Nt]
    rw[if_neg ae]
  |succ d ih=>
    intro k i out h1 h2 h3 hk
    obtain⟨k,rfl⟩:∃ q,k=q+2:=⟨k-2,by omega⟩
    by_cases hi:i<s.size
    case neg=>
      simp only[aG.l0,Nt]
      rw[if_neg ae,if_neg hi]
    have w1:wrap64 ((i:Int)+1)=((i+1:Nat):Int):=iX i ae
    have w2:wrap64 ((i:Int)+2)=((i+2:Nat):Int):=by rw[aC ae ae];rfl
    have w3:wrap64 (((i+2:Nat):Int)+1)=((i+3:Nat):Int):=iX _ ae
    have plain:DK s i=false->aG.j1 (k+1) s out (i:Int) true=some (strOfNums (Nt s (d+1) out i)):=by
      intro he
      simp only[aG.j1,Nt]
      rw[if_pos trivial,if_pos ae,if_pos ae,if_pos ae,w1,if_pos hi,he,if_neg aA]
      exact ih k (i+1) _ ae ae (by rw[List.length_append,List.length_singleton];omega) ae
    simp only[aG.l0]
    rw[if_pos ae,if_pos ae]
    by_cases c1:bt s (i:Int)=37
    case neg=>rw[if_neg c1];exact plain (by unfold DK;rw[bQ c1,Bool.false_and])
    rw[if_pos c1,w2]
    by_cases c2:i+2<s.size
    case neg=>rw[if_pos ae];exact plain (by unfold DK;rw[bQ c2,Bool.false_and,Bool.and_false])
    obtain⟨a1,a2,a3⟩:=wN (bt s ((i+1:Nat):Int)) (je _ _).1 (je _ _).2 (k+1) ae
    obtain⟨b1,b2,b3⟩:=wN (bt s ((i+2:Nat):Int)) (je _ _).1 (je _ _).2 (k+1) ae
    rw[if_neg ae,w1,if_pos ae,if_pos ae,a1,ax]
    by_cases c3:0<=tN (bt s ((i+1:Nat):Int))
    case neg=>rw[if_pos ae];exact plain (by unfold DK;rw[bQ c3,Bool.false_and,Bool.and_false,Bool.and_false])
    rw[if_neg ae,if_pos ae,if_pos ae,b1,ax]
    by_cases c4:0<=tN (bt s ((i+2:Nat):Int))
    case neg=>rw[bK ae];exact plain (by unfold DK;rw[bQ c4,Bool.and_false,Bool.and_false,Bool.and_false])
    rw[bQ ae]
    have he:DK s i=true:=by unfold DK;rw[bK c1,bK c2,bK c3,bK c4];rfl
    obtain⟨a1',-,-⟩:=wN (bt s ((i+1:Nat):Int)) (je _ _).1 (je _ _).2 k ae
    obtain⟨b1',-,-⟩:=wN (bt s ((i+2:Nat):Int)) (je _ _).1 (je _ _).2 k ae
    have ev:(wrap64 ((wrap64 (16*tN (bt s ((i+1:Nat):Int))))+tN (bt s ((i+2:Nat):Int))))%256=CW s i:=by
      unfold CW
      rw[aC (x:=16*_) ae ae,aC ae ae]
      omega
    have er:0<=CW s i/\CW s i<=255:=by unfold CW;omega
    simp only[aG.j1,Nt]
    rw[if_neg aA,w1,w2,if_pos ae,if_pos ae,a1',ax,if_pos ae,if_pos ae,b1',ax,ev,w3,U7 _ er.1 er.2,ax,if_pos hi,he,if_pos rfl]
    have rest:=fun out' (h:out'.length<=i+3)=>ih k (i+3) out' ae ae h ae
    unfold QX
    by_cases c5:Qc (CW s i)=true
    · rw[if_pos c5,if_pos c5,if_pos ae]
      exact rest _ (by rw[List.length_append,List.length_singleton];omega)
    · have hd:CW s i / 16=tN (bt s ((i+1:Nat):Int)):=by unfold CW;omega
      have hl:Go.bits .and .u8 (CW s i) 15=tN (bt s ((i+2:Nat):Int)):=aBF _ _ ⟨c3,a3⟩ ⟨c4,b3⟩
      rw[if_neg c5,if_neg c5,hd,hl,if_pos c3,if_pos ae,if_pos c4,if_pos ae,ax]
      rw[if_pos (by simp only[List.length_cons,List.length_nil];omega)]
      exact rest _ (by rw[List.length_append];simp only[List.length_cons,List.length_nil];omega)
theorem QY (s:af) (hs:s.size<=100000) (k:Nat) (hk:2*s.size+10<k):aG.f k s=some (nK s):=
  ajo s hs s.size k 0 [] (Nat.zero_le _) (Nat.le_refl _) (Nat.le_refl _) hk
theorem aeu (s:af) (i:Nat) (h:i+2<s.size) (k:Nat) (hk:10<k):dN.f k (s.extract (i+1) (i+3))=some (if tN (bt s ((i+1:Nat):Int))<0∨tN (bt s ((i+2:Nat):Int))<0 then(0,false) else(CW s i,true)):=by
  obtain⟨k,rfl⟩:∃ q,k=q+6:=⟨k-6,by omega⟩
  have hz:(s.extract (i+1) (i+3)).size=2:=by rw[size_extract];omega
  have e0:bt (s.extract (i+1) (i+3)) 0=bt s ((i+1:Nat):Int):=by rw[mq _ _ _ _ ae ae ae];congr 1
  have e1:bt (s.extract (i+1) (i+3)) 1=bt s ((i+2:Nat):Int):=by rw[mq _ _ _ _ ae ae ae];congr 1
  have hs1:=ac7 (bt s ((i+1:Nat):Int)) (je _ _).1 (je _ _).2 0 ae ae (fun x=>dN.l0 (k+4) (s.extract (i+1) (i+3)) x 1)
  obtain⟨-,a2,a3⟩:=wN (bt s ((i+1:Nat):Int)) (je _ _).1 (je _ _).2 3 ae
  obtain⟨-,b2,b3⟩:=wN (bt s ((i+2:Nat):Int)) (je _ _).1 (je _ _).2 3 ae
  unfold dN.f
  rw[hz,if_neg aA,bQ aA]
  simp only[dN.j0]
  rw[if_neg aA,dN.l0,hz,if_pos aA,if_pos aA,e0]
  have w01:wrap64 (0+1)=1:=by rw[aC ae ae];rfl
  rw[w01]
  unfold ant at hs1
  rw[hs1]
  by_cases c:tN (bt s ((i+1:Nat):Int))<0
  · rw[if_pos c,if_pos (Or.inl c)]
  · have hs2:=ac7 (bt s ((i+2:Nat):Int)) (je _ _).1 (je _ _).2 (16*0+tN (bt s ((i+1:Nat):Int))) ae ae (fun x=>dN.l0 (k+3) (s.extract (i+1) (i+3)) x 2)
    have DF:wrap64 (1+1)=2:=by rw[aC ae ae];rfl
    rw[if_neg c,dN.l0,hz,if_pos aA,if_pos aA,e1,DF]
    unfold ant at hs2
    rw[hs2]
    by_cases c2:tN (bt s ((i+2:Nat):Int))<0
    · rw[if_pos c2,if_pos (Or.inr c2)]
    · rw[if_neg c2,if_neg ae,dN.l0,hz,if_neg aA]
      unfold CW
      congr 2
      omega
theorem ajp (s:af) (hs:s.size<=100000):∀(d k i:Nat) (out:List Int),i<=s.size->s.size-i<=d->out.length<=i->2*d+40<k->aW.l0 k s out (i:Int)=some (strOfNums (Nt s d out i)):=by
  intro d
  induction d with
  |zero=>
    intro k i out h1 h2 h3 hk
    obtain⟨k,rfl⟩:=dm k ae
    simp only[aW.l0,Nt]
    rw[if_neg ae]
  |succ d ih=>
    intro k i out h1 h2 h3 hk
    obtain⟨k,rfl⟩:∃ q,k=q+2:=⟨k-2,by omega⟩
    by_cases hi:i<s.size
    case neg=>
      simp only[aW.l0,Nt]
      rw[if_neg ae,if_neg hi]
    have w1:wrap64 ((i:Int)+1)=((i+1:Nat):Int):=iX i ae
    have w2:wrap64 ((i:Int)+2)=((i+2:Nat):Int):=by rw[aC ae ae];rfl
    have w3:wrap64 (((i+2:Nat):Int)+1)=((i+3:Nat):Int):=iX _ ae
    have w4:wrap64 ((i:Int)+3)=((i+3:Nat):Int):=by rw[aC ae ae];rfl
    have step:∀ out':List Int,out'.length<=i+1->aW.l0 k s out' ((i+1:Nat):Int)=some (strOfNums (Nt s d out' (i+1))):=fun out' h=>ih k (i+1) out' ae ae h ae
    have plain:DK s i=false->aW.j1 (k+1) s out (i:Int) true=some (strOfNums (Nt s (d+1) out i)):=by
      intro he
      simp only[aW.j1,Nt]
      rw[if_pos trivial,if_pos ae,if_pos ae,if_pos ae,w1,if_pos hi,he,if_neg aA]
      exact step _ (by rw[List.length_append,List.length_singleton];omega)
    simp only[aW.l0]
    rw[if_pos ae,if_pos ae]
    by_cases c1:bt s (i:Int)=37
    case neg=>rw[if_neg c1];exact plain (by unfold DK;rw[bQ c1,Bool.false_and])
    rw[if_pos c1,w2]
    by_cases c2:i+2<s.size
    case neg=>rw[bK ae];exact plain (by unfold DK;rw[bQ c2,Bool.false_and,Bool.and_false])
    rw[bQ ae]
    simp only[aW.j1]
    rw[if_neg aA,w1,w2,w3,w4,if_pos ae,if_pos ae,if_pos ae,Int.toNat_natCast,Int.toNat_natCast,aeu s i c2 k ae,ax]
    obtain⟨-,a2,a3⟩:=wN (bt s ((i+1:Nat):Int)) (je _ _).1 (je _ _).2 3 ae
    obtain⟨-,b2,b3⟩:=wN (bt s ((i+2:Nat):Int)) (je _ _).1 (je _ _).2 3 ae
    by_cases c3:tN (bt s ((i+1:Nat):Int))<0∨tN (bt s ((i+2:Nat):Int))<0
    · have he:DK s i=false:=by
        cases hq:DK s i with
        |false=>rfl
        |true=>have:=aet hq;omega
      rw[if_pos c3]
      dsimp only
      rw[if_neg aA,if_pos ae,if_pos ae,if_pos ae,Nt,if_pos hi,he,if_neg aA]
      exact step _ (by rw[List.length_append,List.length_singleton];omega)
    · have he:DK s i=true:=by unfold DK;rw[bK c1,bK c2,bK ae,bK ae];rfl
      have er:0<=CW s i/\CW s i<=255:=by unfold CW;omega
      have em:CW s i%256=CW s i:=by omega
      have rest:=fun out' (h:out'.length<=i+3)=>ih k (i+3) out' ae ae h ae
      rw[if_neg c3]
      dsimp only
      rw[if_pos rfl,em,U8 _ er.1 er.2 k ae,ax,Nt,if_pos hi,he,if_pos rfl]
      unfold QX
      by_cases c5:Qc (CW s i)=true
      · rw[if_pos c5,if_pos c5,if_pos ae]
        exact rest _ (by rw[List.length_append,List.length_singleton];omega)
      · rw[if_neg c5,if_neg c5,if_pos ae,apr _ (je _ _).1 (je _ _).2 ae,ax,if_pos ae,if_pos ae,apr _ (je _ _).1 (je _ _).2 ae,ax,ax]
        rw[if_pos (by simp only[List.length_cons,List.length_nil];omega)]
        exact rest _ (by rw[List.length_append];simp only[List.length_cons,List.length_nil];omega)
theorem QZ (s:af) (hs:s.size<=100000) (k:Nat) (hk:2*s.size+40<k):aW.f k s=some (nK s):=
  ajp s hs s.size k 0 [] (Nat.zero_le _) (Nat.le_refl _) (Nat.le_refl _) hk

def Fu (x:af):Bool:=decide (x.toList=([46]:aQ))
def Y1 (x:af):Bool:=decide (x.toList=([46,46]:aQ))
def BR (out:List ByteArray) (x:af):List ByteArray:=if Fu x=true then out else if Y1 x=true then out.take (out.length-1) else out ++ [x]
def JL (l:List ByteArray):Bool:=match l.getLast? with
  |some x=>Fu x||Y1 x
  |none=>false
def sD (l:List ByteArray):List ByteArray:=l.foldl BR []++(if JL l=true then [(⟨#[]⟩:af)] else [])
def uL (l:List ByteArray):ByteArray:=(⟨#[47]⟩:af)++En l (⟨#[47]⟩:af)
theorem KA : ∀(l out:List ByteArray),(l.foldl BR out).length<=out.length+l.length:=by
  intro l
  induction l with
  |nil=>intro out;exact Nat.le_refl _
  |cons x r ih=>
    intro out
    have h1:=ih (BR out x)
    have h2:(BR out x).length<=out.length+1:=by
      unfold BR
      split
      · omega
      · split
        · rw[List.length_take];omega
        · rw[List.length_append,List.length_singleton];omega
    simp only[List.foldl_cons,List.length_cons]
    omega
theorem aev (P:ByteArray->Prop):∀(l out:List ByteArray),(∀ x∈out,P x)->(∀ x∈l,P x)->∀ x∈l.foldl BR out,P x:=by
  intro l
  induction l with
  |nil=>intro out h _;exact h
  |cons x r ih=>
    intro out h1 h2
    rw[List.foldl_cons]
    refine ih _ (fun y hy=>?_) (fun y hy=>h2 y (List.mem_cons_of_mem _ hy))
    unfold BR at hy
    split at hy
    · exact h1 y hy
    · split at hy
      · exact h1 y (List.mem_of_mem_take hy)
      · rcases List.mem_append.1 hy with h|h
        · exact h1 y h
        · obtain rfl:=List.mem_singleton.1 h;exact h2 _ (List.mem_cons_self ..)
theorem Ff (l:List ByteArray):(sD l).length<=l.length+1:=by
  unfold sD
  have:=KA l []
  rw[List.length_append]
  split <;> simp only[List.length_cons,List.length_nil] at * <;> omega
theorem KC (P:ByteArray->Prop) (l:List ByteArray) (h0:P (⟨#[]⟩:af)) (h:∀ x∈l,P x):∀ x∈sD l,P x:=by
  intro x hx
  unfold sD at hx
  rcases List.mem_append.1 hx with h1|h1
  · exact aev P l [] (fun y hy=>by cases hy) h x h1
  · split at h1
    · obtain rfl:=List.mem_singleton.1 h1;exact h0
    · cases h1
theorem U9 (sep:List UInt8) (M:Nat):∀ l:List (List UInt8),(∀ x∈l,x.length<=M)->(Go.Lib.joinTail sep l).length<=l.length*(M+sep.length):=by
  intro l
  induction l with
  |nil=>intro _;simp[Go.Lib.joinTail]
  |cons x r ih=>
    intro h
    have h1:=ih (fun y hy=>h y (List.mem_cons_of_mem _ hy))
    have h2:=h x (List.mem_cons_self ..)
    have e:Go.Lib.joinTail sep (x::r)=sep++x++Go.Lib.joinTail sep r:=by simp[Go.Lib.joinTail]
    rw[e,List.length_append,List.length_append,List.length_cons,Nat.add_mul]
    omega
theorem Qd (l:List ByteArray) (s:af) (M:Nat) (h:∀ x∈l,x.size<=M):(En l s).size<=l.length*(M+s.size)+M:=by
  have e:(En l s).size=(Go.Lib.join (l.map fun x=>x.data.toList) s.data.toList).length:=by simp[En,ByteArray.size]
  rw[e]
  cases l with
  |nil=>simp[Go.Lib.join]
  |cons x r=>
    rw[List.map_cons,Go.Lib.join_cons,List.length_append]
    have h1:=U9 s.data.toList M (r.map fun x=>x.data.toList) (fun y hy=>by
      obtain⟨z,hz,rfl⟩:=List.mem_map.1 hy
      rw[jd];exact h z (List.mem_cons_of_mem _ hz))
    rw[List.length_map,jd] at h1
    have h2:=h x (List.mem_cons_self ..)
    rw[jd,List.length_cons,Nat.add_mul]
    omega
theorem ac9 (l:List ByteArray) (h1:l.length<=1000000) (h2:∀ x∈l,x.size<=100000):strings_Join.f l (⟨#[47]⟩:af)=some (En l (⟨#[47]⟩:af))/\(En l (⟨#[47]⟩:af)).size<=200000000000:=by
  have hz:=Qd l (⟨#[47]⟩:af) 100000 h2
  have h1s:(⟨#[47]⟩:af).size=1:=rfl
  rw[h1s] at hz
  have hm:l.length*(100000+1)<=1000000*(100000+1):=Nat.mul_le_mul_right _ h1
  unfold strings_Join.f
  rw[if_pos ⟨by omega,by omega⟩]
  exact⟨rfl,by omega⟩
theorem Gc (l:List ByteArray) (i:Nat) (x:af) (h:l[i]? = some x):dh ByteArray.empty l (i:Int)=x:=by
  unfold dh
  simp only[Int.toNat_natCast,List.getD_eq_getElem?_getD,h,Option.getD_some]
theorem drop_cons {l r:List ByteArray} {i:Nat} {x:ByteArray} (h:l.drop i=x::r):l[i]? = some x/\i<l.length/\l.drop (i+1)=r/\(i+1=l.length↔r = []):=by
  have hi:i<l.length:=by
    by_cases q:i<l.length
    · exact q
    · rw[List.drop_eq_nil_iff.mpr ae] at h;cases h
  rw[List.drop_eq_getElem_cons hi] at h
  injection h with h1 h2
  refine⟨by rw[List.getElem?_eq_getElem hi,h1],hi,h2,?_⟩
  rw[<- h2,List.drop_eq_nil_iff]
  omega
theorem LV (l:List ByteArray) (x:af) (n:Nat) (hn:n+1=l.length) (h:l[n]? = some x):JL l=(Fu x||Y1 x):=by
  unfold JL
  rw[List.getLast?_eq_getElem?,<- hn,Nat.add_sub_cancel,h]
theorem aa6 {α:Type} (x:af) (a b:α):(if x.toList=([46]:aQ) then a else b)=if Fu x=true then a else b:=by
  unfold Fu
  by_cases h:x.toList=([46]:aQ)
  · rw[if_pos h,bK h,if_pos rfl]
  · rw[if_neg h,bQ h,if_neg aA]
theorem ajq {α:Type} (x:af) (a b:α):(if x.toList=([46,46]:aQ) then a else b)=if Y1 x=true then a else b:=by
  unfold Y1
  by_cases h:x.toList=([46,46]:aQ)
  · rw[if_pos h,bK h,if_pos rfl]
  · rw[if_neg h,bQ h,if_neg aA]
theorem Q0 (L:List ByteArray) (hL:L.length<=1000) (hne:L≠[]) (hm:∀ x∈L,x.size<=100000):∀(r out:List ByteArray) (i k:Nat),L.drop i=r->out.length<=i->(∀ x∈out,x.size<=100000)->r.foldl BR out=L.foldl BR []->r.length<k->
    aY.l0 k out L L (L.length:Int) (i:Int)=some (uL (sD L)):=by
  intro r
  induction r with
  |nil=>
    intro out i k h1 h2 h3 h4 hk
    obtain⟨k,rfl⟩:=dm k ae
    have hi:=List.drop_eq_nil_iff.1 h1
    obtain⟨n,hn⟩:∃ n,n+1=L.length:=⟨L.length-1,by have:=List.length_pos_iff.2 hne;omega⟩
    have hx:L[n]? = some L[n]:=List.getElem?_eq_getElem ae
    rw[List.foldl_nil] at h4
    have hj:=ac9 (sD L) (by have:=Ff L;omega) (KC _ L (Nat.zero_le _) hm)
    have hj1:=ac9 out (by rw[h4];have:=KA L [];simp only[List.length_nil] at this;omega) h3
    have hol:out.length<=1000:=by rw[h4];have:=KA L [];simp only[List.length_nil] at this;omega
    simp only[aY.l0]
    rw[if_neg ae,aes _ ae ae,if_pos ae,if_pos ae,show L.length-1=n by omega,Gc L n _ hx]
    have hld:=LV L _ n hn hx
    rw[aa6,ajq]
    by_cases c1:Fu L[n]=true
    · have hk':out ++ [(⟨#[]⟩:af)]=sD L:=by unfold sD;rw[h4,hld,c1];rfl
      rw[if_pos c1,if_pos ae,hk',hj.1,ax,if_pos ae]
      rfl
    · rw[if_neg c1]
      by_cases c2:Y1 L[n]=true
      · have hk':out ++ [(⟨#[]⟩:af)]=sD L:=by unfold sD;rw[h4,hld,c2,Bool.or_true];rfl
        rw[if_pos c2,if_pos ae,hk',hj.1,ax,if_pos ae]
        rfl
      · have c1':Fu L[n]=false:=by simpa using c1
        have c2':Y1 L[n]=false:=by simpa using c2
        have hk':out=sD L:=by unfold sD;rw[h4,hld,c1',c2',if_neg aA,List.append_nil]
        rw[if_neg c2,hj1.1,ax,if_pos ae,hk']
        rfl
  |cons x r ih=>
    intro out i k h1 h2 h3 h4 hk
    obtain⟨k,rfl⟩:=dm k ae
    obtain⟨hx,hi,hd,-⟩:=drop_cons h1
    simp only[List.length_cons] at hk
    rw[List.foldl_cons] at h4
    have hxm:=hm x (List.mem_of_getElem? hx)
    simp only[aY.l0]
    rw[if_pos ae,if_pos ae,if_pos ae,Gc L i x hx,iX i ae,aa6,ajq]
    unfold BR at h4
    by_cases c1:Fu x=true
    · rw[if_pos c1] at h4 ⊢
      exact ih out (i+1) k hd ae h3 h4 ae
    · rw[if_neg c1] at h4 ⊢
      by_cases c2:Y1 x=true
      · rw[if_pos c2] at h4 ⊢
        have hmx:mx 0 (wrap64 ((out.length:Int)-1))=((out.length-1:Nat):Int):=by
          rw[aC ae ae]
          unfold mx
          split <;> omega
        rw[hmx,if_pos ae,if_pos ae,Int.toNat_natCast]
        exact ih _ (i+1) k hd (by rw[List.length_take];omega) (fun y hy=>h3 y (List.mem_of_mem_take hy)) h4 ae
      · rw[if_neg c2] at h4 ⊢
        rw[if_pos ae]
        exact ih _ (i+1) k hd (by rw[List.length_append,List.length_singleton];omega) (fun y hy=>by
          rcases List.mem_append.1 hy with h|h
          · exact h3 y h
          · obtain rfl:=List.mem_singleton.1 h;exact hxm) h4 ae
def uM (s:af) (l:List ByteArray):ByteArray:=l.foldl (fun s x=>(s++(⟨#[47]⟩:af))++x) s
theorem Va : ∀(l:List ByteArray) (s:af),(uM s l).data.toList=s.data.toList++Go.Lib.joinTail [47] (l.map fun x=>x.data.toList):=by
  intro l
  induction l with
  |nil=>intro s;simp[uM,Go.Lib.joinTail]
  |cons x r ih=>
    intro s
    have:=ih ((s++(⟨#[47]⟩:af))++x)
    unfold uM at this ⊢
    rw[List.foldl_cons,this]
    simp[Go.Lib.joinTail]
theorem ajr (l:List ByteArray):(if(uM (⟨#[]⟩:af) l).toList=([]:aQ) then(⟨#[47]⟩:af) else uM (⟨#[]⟩:af) l)=uL l:=by
  cases l with
  |nil=>
    have e:uM (⟨#[]⟩:af) []=⟨#[]⟩:=rfl
    rw[e,if_pos (by decide +kernel)]
    decide +kernel
  |cons x r=>
    have h1:=Va (x::r) (⟨#[]⟩:af)
    have h2:(uL (x::r)).data.toList=(uM (⟨#[]⟩:af) (x::r)).data.toList:=by
      rw[h1]
      unfold uL En
      rw[List.map_cons,Go.Lib.join_cons]
      simp[Go.Lib.joinTail]
    have h3:(uM (⟨#[]⟩:af) (x::r)).toList≠([]:aQ):=by
      rw[ByteArray.toList_eq,h1]
      simp[Go.Lib.joinTail]
    rw[if_neg h3]
    apply ByteArray.ext
    rw[<- Array.toArray_toList (xs:=(uM _ _).data),<- h2,Array.toArray_toList]
theorem ML (L:List ByteArray) (hL:L.length<=2000) (hm:∀ x∈L,x.size<=100000):∀(r:List ByteArray) (s:af) (i k:Nat),L.drop i=r->s.size<=i*100001->r.length<k->
    av.l2 k L s (i:Int)=some (if(uM s r).toList=([]:aQ) then(⟨#[47]⟩:af) else uM s r):=by
  intro r
  induction r with
  |nil=>
    intro s i k h1 h2 hk
    obtain⟨k,rfl⟩:=dm k ae
    have hi:=List.drop_eq_nil_iff.1 h1
    have e:uM s []=s:=rfl
    simp only[av.l2]
    rw[if_neg ae,e]
    split <;> rfl
  |cons x r ih=>
    intro s i k h1 h2 hk
    obtain⟨k,rfl⟩:=dm k ae
    obtain⟨hx,hi,hd,-⟩:=drop_cons h1
    simp only[List.length_cons] at hk
    have hxm:=hm x (List.mem_of_getElem? hx)
    have hb:i*100001<=2000*100001:=Nat.mul_le_mul_right _ ae
    have h1s:(s++(⟨#[47]⟩:af)).size=s.size+1:=by rw[ByteArray.size_append];rfl
    have h2s:((s++(⟨#[47]⟩:af))++x).size=s.size+1+x.size:=by rw[ByteArray.size_append,h1s]
    simp only[av.l2]
    rw[if_pos ae,if_pos ae,if_pos ae,Gc L i x hx,if_pos ae,iX i ae,ih _ (i+1) k hd (by rw[h2s,Nat.add_mul];omega) ae]
    rfl
theorem Q3 (L:List ByteArray) (hL:L.length<=1000) (hne:L≠[]) (hm:∀ x∈L,x.size<=100000):∀(r out:List ByteArray) (i k:Nat),L.drop i=r->out.length<=i->r≠[]->r.foldl BR out=L.foldl BR []->4*r.length+1100<k->
    av.l1 k L out (i:Int)=some (uL (sD L)):=by
  intro r
  induction r with
  |nil=>intro out i k _ _ h;exact absurd rfl h
  |cons x r ih=>
    intro out i k h1 h2 _ h4 hk
    obtain⟨k,rfl⟩:∃ q,k=q+4:=⟨k-4,by omega⟩
    obtain⟨hx,hi,hd,hend⟩:=drop_cons h1
    simp only[List.length_cons] at hk
    rw[List.foldl_cons] at h4
    have fin:∀ out',out'=sD L->av.l1 k L out' ((i+1:Nat):Int)=some (uL (sD L))∨r≠[]:=by
      intro out' h
      by_cases hr:r = []
      · left
        obtain⟨k',rfl⟩:∃ q,k=q+1:=⟨k-1,by omega⟩
        have he:=hend.2 hr
        have hl:=ML (sD L) (by have:=Ff L;omega) (KC _ L (Nat.zero_le _) hm) (sD L) (⟨#[]⟩:af) 0 k' rfl (Nat.zero_le _) (by have:=Ff L;omega)
        rw[ajr] at hl
        simp only[av.l1]
        rw[if_neg ae,h]
        exact hl
      · exact Or.inr hr
    have go:∀ out',out'.length<=i+1->r≠[]->r.foldl BR out'=L.foldl BR []->av.l1 k L out' ((i+1:Nat):Int)=some (uL (sD L)):=fun out' a b c=>ih out' (i+1) k hd a b c ae
    have hlast:r = []->JL L=(Fu x||Y1 x):=fun hr=>LV L x i (hend.2 hr) hx
    have hred:r = []->BR out x=L.foldl BR []:=fun hr=>by rw[hr] at h4;exact h4
    have wl:wrap64 ((out.length:Int)-1)=((out.length:Int)-1):=aC ae ae
    have j5:∀(out':List ByteArray) (b:Bool),b=(Fu x||Y1 x)->out'.length<=i->BR out x=(if b=true then out' else out' ++ [x])->av.j5 (k+1) L out' (i:Int) b=some (uL (sD L)):=by
      intro out' b hb ho hs
      simp only[av.j5]
      rw[iX i ae,Gc L i x hx]
      cases b with
      |true=>
        rw[if_pos rfl] at hs ⊢
        by_cases hr:r = []
        · rw[if_pos (by have:=hend.2 hr;omega),if_pos ae]
          rcases fin (out' ++ [(⟨#[]⟩:af)]) (by unfold sD;rw[<- hred hr,hs,hlast hr,<- hb,if_pos rfl]) with h|h
          · exact h
          · exact absurd hr h
        · rw[if_neg (by have q:¬ i+1=L.length:=fun e=>hr (hend.1 e);omega)]
          exact go out' ae hr (by rw[<- hs];exact h4)
      |false=>
        rw[if_neg aA] at hs ⊢
        rw[if_pos ae,if_pos ae,if_pos ae]
        by_cases hr:r = []
        · rcases fin (out' ++ [x]) (by unfold sD;rw[<- hred hr,hs,hlast hr,<- hb,if_neg aA,List.append_nil]) with h|h
          · exact h
          · exact absurd hr h
        · exact go _ (by rw[List.length_append,List.length_singleton];omega) hr (by rw[<- hs];exact h4)
    have j3:∀ b:Bool,b=(Fu x||Y1 x)->av.j3 (k+3) L out (i:Int) b=some (uL (sD L)):=by
      intro b hb
      simp only[av.j3]
      rw[if_pos ae,if_pos ae,Gc L i x hx,ajq]
      have hnd:Y1 x=true->Fu x=false:=by
        intro h
        unfold Y1 at h
        unfold Fu
        rw[ay h]
        decide
      by_cases c2:Y1 x=true
      · have c1:=hnd c2
        have hb':b=true:=by rw[hb,c1,c2];rfl
        have hs:BR out x=out.take (out.length-1):=by unfold BR;rw[c1,if_neg aA,if_pos c2]
        rw[if_pos c2]
        simp only[av.j4]
        by_cases c3:out.length=0
        · rw[bQ ae,if_neg aA]
          refine j5 out b hb h2 ?_
          rw[hs,hb',if_pos rfl,List.length_eq_zero_iff.1 c3]
          rfl
        · rw[bK ae,if_pos rfl,wl,if_pos ae,if_pos ae,show((out.length:Int)-1).toNat=out.length-1 by omega]
          refine j5 _ b hb (by rw[List.length_take];omega) ?_
          rw[hs,hb',if_pos rfl]
      · rw[if_neg c2]
        simp only[av.j4]
        rw[if_neg aA]
        refine j5 out b hb h2 ?_
        unfold BR
        have c2':Y1 x=false:=by simpa using c2
        rw[hb,c2',Bool.or_false]
        cases c1:Fu x with
        |true=>rfl
        |false=>rfl
    simp only[av.l1]
    rw[if_pos ae,if_pos ae,Gc L i x hx,aa6]
    by_cases c1:Fu x=true
    · rw[if_pos c1]
      exact j3 true (by rw[c1];rfl)
    · have c1':Fu x=false:=by simpa using c1
      rw[if_neg c1]
      refine j3 _ ?_
      rw[c1',Bool.false_or]
      unfold Y1
      by_cases h:x.toList=([46,46]:aQ)
      · rw[bK h,h];rfl
      · rw[bQ h,beq_eq_false_iff_ne.2 h]
def uh (p:af):ByteArray:=
  if 0<p.size/\p.size<=200/\bt p 0=47/\yf p=true/\¬ bV p 35<p.size/\¬ bV p 63<p.size then uL (sD (jq ((nK p).extract 1 (nK p).size) 47)) else(⟨#[]⟩:af)

theorem KD (s:af) (c:Int):jq s c≠[]:=by
  have:=(Ga s c s.size 0 0).2
  intro h
  unfold jq at h
  rw[h] at this
  exact absurd this aA
theorem wO (s:af) (c:Int):(jq s c).length<=s.size+1:=(Ga s c s.size 0 0).1
theorem aa7 (u:af) (hu:u.size<=200):strings_Split.f (u.extract 1 u.size) (⟨#[47]⟩:af)=some (jq (u.extract 1 u.size) 47):=YQ _ 47 (by rw[size_extract];omega)
theorem qD (u:af) (a b:Nat) (hu:u.size<=200):(u.extract a b).size<=200:=by rw[size_extract];omega
theorem MM (p:af) (hp:p.size<=200) (hu:1<=(nK p).size):∀(d i k:Nat),i+d=p.size->(∀ m:Nat,m<i->bt p (m:Int)≠35/\bt p (m:Int)≠63)->d+4000<k->
    av.l0 k p (i:Int)=some (if ¬ bV p 35<p.size/\¬ bV p 63<p.size then uL (sD (jq ((nK p).extract 1 (nK p).size) 47)) else(⟨#[]⟩:af)):=by
  intro d
  induction d with
  |zero=>
    intro i k h hno hk
    obtain⟨k,rfl⟩:=dm k ae
    have e1:bV p 35=p.size:=xH _ _ _ (Nat.le_refl _) (fun m hm=>(hno m ae).1) (fun q=>absurd q ae)
    have e2:bV p 63=p.size:=xH _ _ _ (Nat.le_refl _) (fun m hm=>(hno m ae).2) (fun q=>absurd q ae)
    have hz:=He p
    have hz2:=qD (nK p) 1 (nK p).size ae
    have hlen:=wO ((nK p).extract 1 (nK p).size) 47
    simp only[av.l0]
    rw[if_neg ae,if_pos ⟨by omega,by omega⟩,QZ p ae k ae,ax,if_pos ae,Gb _ ae 47 k ae,ax]
    exact Q3 (jq ((nK p).extract 1 (nK p).size) 47) ae (KD _ _) (fun x hx=>by have:=CV _ _ _ _ _ x hx;omega) (jq ((nK p).extract 1 (nK p).size) 47) [] 0 k rfl (Nat.le_refl _) (KD _ _) rfl ae
  |succ d ih=>
    intro i k h hno hk
    obtain⟨k,rfl⟩:=dm k ae
    simp only[av.l0]
    rw[if_pos ae,if_pos ae,iX i ae]
    by_cases c1:bt p (i:Int)=35
    · have e1:bV p 35=i:=xH _ _ _ ae (fun m hm=>(hno m hm).1) (fun _=>c1)
      rw[if_pos c1,if_neg (fun q=>q.1 ae)]
    · rw[if_neg c1]
      by_cases c2:bt p (i:Int)=63
      · have e1:bV p 63=i:=xH _ _ _ ae (fun m hm=>(hno m hm).2) (fun _=>c2)
        rw[if_pos c2,if_neg (fun q=>q.2 ae)]
      · rw[if_neg c2]
        refine ih (i+1) k ae (fun m hm=>?_) ae
        by_cases q:m=i
        · rw[q];exact⟨c1,c2⟩
        · exact hno m ae
theorem Tj (s:af):∀(d:Nat) (out:List Int) (i:Nat),∃ r,Nt s d out i=out++r:=by
  intro d
  induction d with
  |zero=>intro out i;exact⟨[],by simp[Nt]⟩
  |succ d ih=>
    intro out i
    unfold Nt
    split
    · split
      · obtain⟨r,h⟩:=ih (out++QX s i) (i+3);exact⟨QX s i++r,by rw[h,List.append_assoc]⟩
      · obtain⟨r,h⟩:=ih (out ++ [bt s (i:Int)]) (i+1);exact⟨[bt s (i:Int)]++r,by rw[h,List.append_assoc]⟩
    · exact⟨[],by simp⟩
theorem Tk (p:af) (h:0<p.size):1<=(nK p).size:=by
  unfold nK
  rw[strOfNums_size]
  obtain⟨d,hd⟩:∃ d,p.size=d+1:=⟨p.size-1,by omega⟩
  rw[hd,Nt,if_pos h]
  split
  · obtain⟨r,hr⟩:=Tj p d ([]++QX p 0) (0+3)
    rw[hr,List.length_append]
    have:1<=([]++QX p 0).length:=by
      unfold QX
      split <;> simp
    omega
  · obtain⟨r,hr⟩:=Tj p d ([] ++ [bt p ((0:Nat):Int)]) (0+1)
    rw[hr,List.length_append]
    simp
theorem Gd (p:af) (hp:p.size<=1048576) (k:Nat) (hk:1060000<k):av.f k p=some (uh p):=by
  have no:av.j0 k p true=some (⟨#[]⟩:af):=by
    obtain⟨k,rfl⟩:=dm k ae
    simp only[av.j0];rfl
  unfold av.f uh
  by_cases c1:0<p.size
  case neg=>rw[if_pos ae,no,if_neg (fun q=>c1 q.1)]
  rw[if_neg ae]
  by_cases c2:p.size<=200
  case neg=>rw[if_pos ae,no,if_neg (fun q=>c2 q.2.1)]
  rw[if_neg ae,if_pos ae]
  by_cases c3:bt p 0=47
  case neg=>rw[if_neg c3,no,if_neg (fun q=>c3 q.2.2.1)]
  rw[if_pos c3,uI p hp k ae,ax,bK c1,Bool.true_and]
  cases c4:yf p with
  |false=>
    rw[if_neg (fun q=>by cases q.2.2.2.1)]
    exact no
  |true=>
    obtain⟨k,rfl⟩:=dm k ae
    simp only[av.j0]
    have hs:=MM p c2 (Tk p c1) p.size 0 k ae (fun m hm=>absurd hm ae) ae
    rw[show((0:Nat):Int)=0 from rfl] at hs
    rw[if_neg aA,hs]
    congr 1
    by_cases c5:¬ bV p 35<p.size/\¬ bV p 63<p.size
    · rw[if_pos c5,if_pos ⟨c1,c2,c3,trivial,c5.1,c5.2⟩]
    · rw[if_neg c5,if_neg (fun q=>c5 ⟨q.2.2.2.2.1,q.2.2.2.2.2⟩)]
theorem ajs (p:Int->Bool) (n:Nat):∀(d i:Nat),i+d=n->xB p d (i:Int)=true->∀ m:Nat,i<=m->m<n->p (m:Int)=true:=by
  intro d
  induction d with
  |zero=>intro i h _ m h1 h2;omega
  |succ d ih=>
    intro i h hb m h1 h2
    unfold xB at hb
    rw[Bool.and_eq_true] at hb
    by_cases e:m=i
    · rw[e];exact hb.1
    · exact ih (i+1) ae hb.2 m ae h2
theorem ajt {s:ByteArray} (h:yf s=true) (m:Nat) (hm:m<s.size):33<=bt s (m:Int)/\bt s (m:Int)<=126:=by
  unfold yf at h
  have:=ajs _ s.size s.size 0 ae h m (Nat.zero_le _) hm
  exact ay this
theorem Tm {s:ByteArray} (h:yf s=true):s.data.toList.all (fun b=>decide (b.toNat<128))=true:=by
  rw[List.all_eq_true]
  intro b hb
  obtain⟨n,hn⟩:=List.mem_iff_getElem?.1 hb
  obtain⟨h1,h2⟩:=bO hn
  have:=ajt h n h1
  exact bK ae
theorem JM (s:af) (c d:UInt8):Lib.indexAny s.data.toList [c,d]=if min (bV s (c.toNat:Int)) (bV s (d.toNat:Int))<s.size then((min (bV s (c.toNat:Int)) (bV s (d.toNat:Int)):Nat):Int) else -1:=by
  have hc:=mK s (c.toNat:Int)
  have hd:=mK s (d.toNat:Int)
  have no:∀ m:Nat,m<min (bV s (c.toNat:Int)) (bV s (d.toNat:Int))->bt s (m:Int)≠(c.toNat:Int)/\bt s (m:Int)≠(d.toNat:Int):=fun m hm=>⟨Am _ _ m ae,Am _ _ m ae⟩
  have nany:∀ i:Nat,i<=min (bV s (c.toNat:Int)) (bV s (d.toNat:Int))->Lib.NoAny s.data.toList [c,d] i:=by
    intro i
    induction i with
    |zero=>intro _;exact Lib.NoAny.zero _ _
    |succ i ih=>
      intro hi
      obtain⟨b,hb1,hb2⟩:=ac6 (s:=s) (n:=i) ae
      refine(ih ae).succ hb1 ?_
      have:=no i ae
      rw[hb2] at this
      simp only[List.contains_cons,List.contains_nil,Bool.or_false,Bool.or_eq_false_iff,beq_eq_false_iff_ne,ne_eq]
      exact⟨fun e=>this.1 (by rw[e]),fun e=>this.2 (by rw[e])⟩
  by_cases h:min (bV s (c.toNat:Int)) (bV s (d.toNat:Int))<s.size
  · rw[if_pos h]
    obtain⟨b,hb1,hb2⟩:=ac6 h
    refine Lib.indexAny_hit (nany _ (Nat.le_refl _)) hb1 ?_
    simp only[List.contains_cons,List.contains_nil,Bool.or_false,Bool.or_eq_true,beq_iff_eq]
    by_cases q:bV s (c.toNat:Int)<=bV s (d.toNat:Int)
    · left
      rw[Nat.min_eq_left q] at h hb2
      have:=BQ _ _ h
      exact UInt8.toNat_inj.1 ae
    · right
      rw[Nat.min_eq_right ae] at h hb2
      have:=BQ _ _ h
      exact UInt8.toNat_inj.1 ae
  · rw[if_neg h]
    exact Lib.indexAny_none (by rw[jd];have:=nany _ (Nat.le_refl _);rwa [show min (bV s (c.toNat:Int)) (bV s (d.toNat:Int))=s.size by omega] at this)
theorem Gf (p:af) (hp:p.size<=1048576) (k:Nat) (hk:1060000<k):aY.f k p=some (uh p):=by
  have no:aY.j0 k p true=some (⟨#[]⟩:af):=by
    obtain⟨k,rfl⟩:=dm k ae
    simp only[aY.j0];rfl
  have h1s:(⟨#[47]⟩:af).size=1:=rfl
  have hpre:strings_HasPrefix.f p (⟨#[47]⟩:af)=some (decide (0<p.size/\bt p 0=47)):=by
    unfold strings_HasPrefix.f stringslite_HasPrefix.f
    rw[h1s]
    by_cases c1:0<p.size
    · rw[if_pos ae,if_pos ae,if_pos ae,ax]
      congr 1
      have e:(p.extract 0 (((1:Nat):Int)).toNat).toList = [p[0]'c1]:=by
        rw[ByteArray.toList_eq,Iq]
        have h3:0<p.data.toList.length:=by rw[jd];exact c1
        match hd:p.data.toList,h3 with
        |a::r,_=>
          have:p[0]'c1=a:=by
            have h4:p.data.toList[0]? = some a:=by rw[hd];rfl
            obtain⟨h5,h6⟩:=List.getElem?_eq_some_iff.1 h4
            rw[<- h6];rfl
          rw[this];rfl
      rw[e]
      have hb:bt p 0=((p[0]'c1).toNat:Int):=by
        unfold bt
        rw[dif_pos (show((0:Int)).toNat<p.size from c1)]
        rfl
      have hl:(⟨#[47]⟩:af).toList = [47]:=by decide +kernel
      rw[hl,hb]
      by_cases q:p[0]'c1=47
      · rw[q,bK ⟨c1,by decide⟩];rfl
      · rw[bQ (fun z=>q (UInt8.toNat_inj.1 (by have:=z.2;show _=47;omega)))]
        exact beq_eq_false_iff_ne.2 (fun z=>q (List.head_eq_of_cons_eq z))
    · rw[if_neg ae,ax,bQ (fun q=>c1 q.1)]
  unfold aY.f uh
  rw[hpre,ax]
  by_cases c1:0<p.size/\bt p 0=47
  case neg=>rw[bQ c1,if_neg aA,no,if_neg (fun q=>c1 ⟨q.1,q.2.2.1⟩)]
  rw[bK c1,if_pos rfl]
  by_cases c2:p.size<=200
  case neg=>rw[if_pos ae,no,if_neg (fun q=>c2 q.2.1)]
  rw[if_neg ae,uJ p hp k ae,ax]
  cases c4:yf p with
  |false=>rw[if_neg aA,no,if_neg (fun q=>by cases q.2.2.2.1)]
  |true=>
    have hany:strings_ContainsAny.f p (⟨#[35,63]⟩:af)=some (decide (bV p 35<p.size∨bV p 63<p.size)):=by
      unfold strings_ContainsAny.f strings_IndexAny.f
      have hl:(⟨#[35,63]⟩:af).data.toList = [35,63]:=rfl
      rw[hl,if_neg (fun q=>absurd q.1 aA),if_pos ⟨Or.inr rfl,Tm c4,by omega⟩,ax,JM p 35 63]
      congr 1
      have a:=mK p 35
      have b:=mK p 63
      show decide ((if min (bV p 35) (bV p 63)<p.size then((min (bV p 35) (bV p 63):Nat):Int) else -1)>=0)=_
      by_cases h:min (bV p 35) (bV p 63)<p.size
      · rw[if_pos h,bK ae,bK ae]
      · rw[if_neg h,bQ ae,bQ ae]
    rw[if_pos rfl,hany,ax]
    by_cases c5:bV p 35<p.size∨bV p 63<p.size
    · rw[bK c5,no,if_neg (fun q=>c5.elim q.2.2.2.2.1 q.2.2.2.2.2)]
    · obtain⟨k,rfl⟩:=dm k ae
      have hz:=He p
      have hz1:=Tk p c1.1
      have hz2:=qD (nK p) 1 (nK p).size ae
      have hlen:=wO ((nK p).extract 1 (nK p).size) 47
      rw[bQ c5,if_pos ⟨c1.1,c2,c1.2,rfl,fun q=>c5 (Or.inl q),fun q=>c5 (Or.inr q)⟩]
      simp only[aY.j0]
      rw[if_neg aA,QY p ae k ae,ax,if_pos ae,aa7 _ ae,ax]
      exact Q0 (jq ((nK p).extract 1 (nK p).size) 47) ae (KD _ _) (fun x hx=>by have:=CV _ _ _ _ _ x hx;omega) (jq ((nK p).extract 1 (nK p).size) 47) [] 0 k rfl (Nat.le_refl _) (fun x hx=>by cases hx) rfl ae

def Vj (c:Int):Bool:=decide (97<=c/\c<=122)||(decide (48<=c/\c<=57)||decide (c=45))
theorem KE (c:Int):j6.f c=some (Vj c||decide (c=46)):=by
  unfold j6.f kZ.f eH.f Vj
  by_cases a:c>=97
  · rw[if_pos a,ax]
    by_cases b:c<=122
    · rw[bK b,if_pos rfl,bK ⟨a,b⟩];rfl
    · rw[bQ b,if_neg aA,if_pos ae,ax,bQ ae,if_neg aA,if_neg ae]
      rw[bQ (fun q:97<=c/\c<=122=>b q.2),bQ (fun q:48<=c/\c<=57=>by omega),bQ (by omega:¬ c=45),bQ (by omega:¬ c=46),beq_eq_false_iff_ne.2 ae];rfl
  · rw[if_neg a,ax,if_neg aA,bQ (fun q:97<=c/\c<=122=>a q.1),Bool.false_or]
    by_cases d:c>=48
    · rw[if_pos d,ax]
      by_cases e:c<=57
      · rw[bK e,if_pos rfl,bK ⟨d,e⟩];rfl
      · rw[bQ e,if_neg aA,if_neg ae,bQ (fun q:48<=c/\c<=57=>e q.2),bQ (by omega:¬ c=45),bQ (by omega:¬ c=46),beq_eq_false_iff_ne.2 ae];rfl
    · rw[if_neg d,ax,if_neg aA,bQ (fun q:48<=c/\c<=57=>d q.1),Bool.false_or]
      by_cases f:c=45
      · rw[if_pos f,bK f];rfl
      · rw[if_neg f,bQ f,Bool.false_or]
        by_cases g:c=46
        · rw[bK g,g];rfl
        · rw[bQ g,beq_eq_false_iff_ne.2 g]
theorem MN (s:af) (hs:s.size<=1048576) (k:Nat) (hk:s.size+1<k):dz.f k s=some (xB (fun i=>Vj (bt s i)||decide (bt s i=46)) s.size 0):=by
  refine wM (fun k i=>dz.l0 k s i) s.size _ 1 (fun k i hi=>by simp only[dz.l0];rw[if_neg ae]) (fun k i h0 h1 hk=>?_) k ae
  simp only[dz.l0]
  rw[if_pos h1,if_pos h0,KE,ax,aC ae ae]
def wP (x:af):Bool:=!decide (x.size=0)&&xB (fun i=>Vj (bt x i)) x.size 0
theorem oU (x:af):x.toList=([]:aQ)↔x.size=0:=toList_nil x
theorem Qe (L:List ByteArray) (i:Nat) (x:af) (hx:L[i]? = some x) (hxs:x.size<=1048576) (hi:i<L.length) (hl:L.length<=1048576):∀(d j k:Nat),j+d=x.size->d<k->
    bA.l1 (k+1) L (i:Int) (j:Int)=if xB (fun q=>Vj (bt x q)) d (j:Int)=true then bA.l0 (k-d) L ((i+1:Nat):Int) else some false:=by
  intro d
  induction d with
  |zero=>
    intro j k h hk
    simp only[bA.l1,xB]
    rw[if_pos ae,if_pos ae,Gc L i x hx,if_neg ae,iX i ae]
    rfl
  |succ d ih=>
    intro j k h hk
    obtain⟨k,rfl⟩:=dm k ae
    have hw:wrap64 ((j:Int)+1)=((j+1:Nat):Int):=iX j ae
    have nx:=ih (j+1) k ae ae
    rw[show k+1-(d+1)=k-d by omega]
    have e:∀ b:Bool,xB (fun q=>Vj (bt x q)) (d+1) (j:Int)=(Vj (bt x (j:Int))&&xB (fun q=>Vj (bt x q)) d ((j:Int)+1)):=fun _=>rfl
    have e2:((j:Int)+1)=((j+1:Nat):Int):=by omega
    rw[e true,e2]
    rw[bA.l1]
    rw[if_pos ae,if_pos ae,Gc L i x hx,if_pos ae,if_pos ae,hw,nx]
    generalize hc:bt x (j:Int)=c
    unfold Vj bD.f
    by_cases a:c>=97
    · rw[if_pos a]
      by_cases b:c<=122
      · rw[if_pos b,bK ⟨a,b⟩,Bool.true_or,Bool.true_and]
      · rw[if_neg b,if_pos ae,ax,bQ ae,if_neg aA,if_neg ae,bQ (fun q:97<=c/\c<=122=>b q.2),bQ (fun q:48<=c/\c<=57=>by omega),bQ (by omega:¬ c=45)]
        rfl
    · rw[if_neg a,bQ (fun q:97<=c/\c<=122=>a q.1),Bool.false_or]
      by_cases d':c>=48
      · rw[if_pos d',ax]
        by_cases e':c<=57
        · rw[bK e',if_pos rfl,bK ⟨d',e'⟩,Bool.true_or,Bool.true_and]
        · rw[bQ e',if_neg aA,if_neg ae,bQ (fun q:48<=c/\c<=57=>e' q.2),bQ (by omega:¬ c=45)]
          rfl
      · rw[if_neg d',ax,if_neg aA,bQ (fun q:48<=c/\c<=57=>d' q.1),Bool.false_or]
        by_cases f:c=45
        · rw[if_pos f,bK f,Bool.true_and]
        · rw[if_neg f,bQ f,Bool.false_and]
          rfl
theorem Qf (L:List ByteArray) (hL:L.length<=1048576) (hm:∀ x∈L,x.size<=1048576):∀(r:List ByteArray) (i k:Nat),L.drop i=r->r.length*1048600<k->bA.l0 k L (i:Int)=some (r.all wP):=by
  intro r
  induction r with
  |nil=>
    intro i k h hk
    obtain⟨k,rfl⟩:=dm k ae
    have hi:=List.drop_eq_nil_iff.1 h
    simp only[bA.l0]
    rw[if_neg ae];rfl
  |cons x r ih=>
    intro i k h hk
    obtain⟨hx,hi,hd,-⟩:=drop_cons h
    have hxm:=hm x (List.mem_of_getElem? hx)
    rw[List.length_cons,Nat.add_mul,Nat.one_mul] at hk
    obtain⟨z,hz⟩:∃ z,z=r.length*1048600:=⟨_,rfl⟩
    rw[<- hz] at hk
    obtain⟨k,rfl⟩:∃ q,k=q+2:=⟨k-2,by omega⟩
    rw[bA.l0,if_pos ae,if_pos ae,Gc L i x hx]
    rw[List.all_cons]
    unfold wP
    by_cases c:x.size=0
    · rw[if_pos ((oU x).2 c),bK c];rfl
    · rw[if_neg (fun q=>c ((oU x).1 q)),bQ c]
      have hb:=Qe L i x hx hxm hi hL x.size 0 k ae ae
      rw[show((0:Nat):Int)=0 from rfl] at hb
      rw[hb]
      cases hq:xB (fun q=>Vj (bt x q)) x.size 0 with
      |false=>rw[if_neg aA];rfl
      |true=>
        rw[if_pos rfl,ih (i+1) (k-x.size) hd (by rw[<- hz];omega)]
        rfl
theorem EN (p:Int->Bool) (n:Nat):xB p n 0=true↔∀ m:Nat,m<n->p (m:Int)=true:=by
  constructor
  · intro h m hm
    exact ajs p n n 0 ae h m (Nat.zero_le _) hm
  · intro h
    have key:∀ d i:Nat,i+d=n->xB p d (i:Int)=true:=by
      intro d
      induction d with
      |zero=>intro i _;rfl
      |succ d ih=>
        intro i hi
        unfold xB
        rw[h i ae,Bool.true_and]
        exact ih (i+1) ae
    exact key n 0 ae
theorem YT (s:af):∀(d a i:Nat),i+d=s.size->a<=i->(∀ m:Nat,a<=m->m<i->Vj (bt s (m:Int))=true)->
    ((pieces s 46 d a i).all wP=true↔((pieces s 46 d a i).all (fun x=>!decide (x.size=0))=true/\∀ m:Nat,i<=m->m<s.size->(Vj (bt s (m:Int))||decide (bt s (m:Int)=46))=true)):=by
  have ext:∀(a b:Nat),a<=b->b<=s.size->(∀ m:Nat,a<=m->m<b->Vj (bt s (m:Int))=true)->(wP (s.extract a b)=true↔(!decide ((s.extract a b).size=0))=true):=by
    intro a b h1 h2 h3
    have hz:(s.extract a b).size=b-a:=by rw[size_extract];omega
    have:xB (fun i=>Vj (bt (s.extract a b) i)) (s.extract a b).size 0=true:=by
      rw[EN]
      intro m hm
      rw[mq _ _ _ _ ae ae ae,show((a:Int)+(m:Int))=((a+m:Nat):Int) by omega]
      exact h3 (a+m) ae ae
    unfold wP
    rw[this,Bool.and_true]
  intro d
  induction d with
  |zero=>
    intro a i h1 h2 h3
    simp only[pieces,List.all_cons,List.all_nil,Bool.and_true]
    rw[ext a s.size ae (Nat.le_refl _) (fun m q1 q2=>h3 m q1 ae)]
    constructor
    · intro h;exact⟨h,fun m q1 q2=>by omega⟩
    · intro h;exact h.1
  |succ d ih=>
    intro a i h1 h2 h3
    unfold pieces
    by_cases c:bt s (i:Int)=46
    · rw[if_pos c]
      simp only[List.all_cons,Bool.and_eq_true]
      rw[ext a i h2 ae h3,ih (i+1) (i+1) ae (Nat.le_refl _) (fun m q1 q2=>by omega)]
      constructor
      · rintro⟨x,y,z⟩
        refine⟨⟨x,y⟩,fun m q1 q2=>?_⟩
        by_cases e:m=i
        · rw[e,c];rfl
        · exact z m ae q2
      · rintro⟨⟨x,y⟩,z⟩
        exact⟨x,y,fun m q1 q2=>z m ae q2⟩
    · rw[if_neg c]
      by_cases e:Vj (bt s (i:Int))=true
      · rw[ih a (i+1) ae ae (fun m q1 q2=>by
          by_cases z:m=i
          · rw[z];exact e
          · exact h3 m q1 ae)]
        constructor
        · rintro⟨x,y⟩
          refine⟨x,fun m q1 q2=>?_⟩
          by_cases z:m=i
          · rw[z,e];rfl
          · exact y m ae q2
        · rintro⟨x,y⟩
          exact⟨x,fun m q1 q2=>y m ae q2⟩
      · have bad:∀(d a j:Nat),j+d=s.size->a<=i->i<j->(∀ m:Nat,a<=m->m<j->bt s (m:Int)≠46)->(pieces s 46 d a j).all wP=false:=by
          intro d
          induction d with
          |zero=>
            intro a j q1 q2 q3 q4
            simp only[pieces,List.all_cons,List.all_nil,Bool.and_true]
            cases hp:wP (s.extract a s.size) with
            |false=>rfl
            |true=>
              exfalso
              unfold wP at hp
              rw[Bool.and_eq_true,EN] at hp
              have hz:(s.extract a s.size).size=s.size-a:=by rw[size_extract];omega
              have:=hp.2 (i-a) ae
              rw[mq _ _ _ _ ae ae ae,show((a:Int)+((i-a:Nat):Int))=(i:Int) by omega] at this
              exact e this
          |succ d ih2=>
            intro a j q1 q2 q3 q4
            unfold pieces
            by_cases c2:bt s (j:Int)=46
            · rw[if_pos c2,List.all_cons]
              cases hp:wP (s.extract a j) with
              |false=>rfl
              |true=>
                exfalso
                unfold wP at hp
                rw[Bool.and_eq_true,EN] at hp
                have hz:(s.extract a j).size=j-a:=by rw[size_extract];omega
                have:=hp.2 (i-a) ae
                rw[mq _ _ _ _ ae ae ae,show((a:Int)+((i-a:Nat):Int))=(i:Int) by omega] at this
                exact e this
            · rw[if_neg c2]
              refine ih2 a (j+1) ae q2 ae (fun m z1 z2=>?_)
              by_cases z:m=j
              · rw[z];exact c2
              · exact q4 m z1 ae
        rw[bad d a (i+1) ae h2 ae (fun m z1 z2 hm=>by
          by_cases z:m=i
          · rw[z] at hm;exact c hm
          · have:=h3 m z1 ae;rw[hm] at this;exact absurd this aA)]
        constructor
        · intro h;cases h
        · rintro⟨_,y⟩
          have:=y i (Nat.le_refl _) ae
          rw[bQ c,Bool.or_false] at this
          exact absurd this e
def Qg (s:af):Bool:=decide (1<=s.size/\s.size<=60)&&(jq s 46).all wP
theorem Vb (s:af) (hs:s.size<=1048576) (k:Nat) (hk:70000000<k):bA.f k s=some (Qg s):=by
  obtain⟨k,rfl⟩:=dm k ae
  unfold bA.f Qg
  by_cases c1:s.size=0
  · rw[if_pos ae,bQ ae]
    simp only[bA.j0];rfl
  · rw[if_neg ae]
    by_cases c2:s.size<=60
    · rw[bQ ae,bK ae,Bool.true_and]
      have hl:=wO s 46
      simp only[bA.j0]
      rw[if_neg aA,Gb s hs 46 k ae,ax]
      exact Qf (jq s 46) ae (fun x hx=>by have:=CV _ _ _ _ _ x hx;omega) (jq s 46) 0 k rfl (by
        have:(jq s 46).length*1048600<=61*1048600:=Nat.mul_le_mul_right _ ae
        omega)
    · rw[bK ae,bQ ae]
      simp only[bA.j0];rfl
theorem aa8 (L:List ByteArray) (hL:L.length<=1048576):∀(r:List ByteArray) (i k:Nat),L.drop i=r->r.length<k->∃ v:Int,bU.l0 k L (⟨#[]⟩:af) (L.length:Int) (i:Int)=some v/\(decide (v>=0) = !(r.all fun x=>!decide (x.size=0))):=by
  intro r
  induction r with
  |nil=>
    intro i k h hk
    obtain⟨k,rfl⟩:=dm k ae
    have hi:=List.drop_eq_nil_iff.1 h
    simp only[bU.l0]
    rw[if_neg ae]
    exact⟨-1,rfl,by rfl⟩
  |cons x r ih=>
    intro i k h hk
    obtain⟨k,rfl⟩:=dm k ae
    obtain⟨hx,hi,hd,-⟩:=drop_cons h
    rw[List.length_cons] at hk
    have he:(⟨#[]⟩:af).toList=([]:aQ):=by decide +kernel
    simp only[bU.l0]
    rw[if_pos ae,if_pos ae,if_pos ae,Gc L i x hx,he,iX i ae,List.all_cons]
    by_cases c:x.size=0
    · rw[if_pos ((oU x).2 c).symm]
      refine⟨(i:Int),rfl,?_⟩
      rw[bK c,bK ae];rfl
    · rw[if_neg (fun q=>c ((oU x).1 q.symm)),bQ c,Bool.not_false,Bool.true_and]
      exact ih (i+1) k hd ae
theorem Vd (s:af) (hs:s.size<=1048576) (k:Nat) (hk:1060000<k):jB.f k s=some (Qg s):=by
  obtain⟨k,rfl⟩:=dm k ae
  have no:jB.j0 (k+1) s true=some false:=by simp only[jB.j0];rfl
  unfold jB.f Qg
  rw[xh,ax]
  by_cases c1:1<=s.size/\s.size<=60
  case neg=>rw[if_neg (by rw[bQ ae];decide),no,bQ c1,Bool.false_and]
  rw[if_pos (bK ae),MN s hs (k+1) ae,ax,bK c1,Bool.true_and]
  have hp:=YT s s.size 0 0 ae (Nat.le_refl _) (fun m a b=>by omega)
  have hall:(xB (fun i=>Vj (bt s i)||decide (bt s i=46)) s.size 0=true)↔∀ m:Nat,0<=m->m<s.size->(Vj (bt s (m:Int))||decide (bt s (m:Int)=46))=true:=by
    rw[EN]
    exact⟨fun h m _ b=>h m b,fun h m b=>h m (Nat.zero_le _) b⟩
  have hl:=wO s 46
  cases hq:xB (fun i=>Vj (bt s i)||decide (bt s i=46)) s.size 0 with
  |false=>
    have:(jq s 46).all wP=false:=by
      cases hz:(jq s 46).all wP with
      |false=>rfl
      |true=>
        have:=hall.2 (hp.1 hz).2
        rw[hq] at this;cases this
    rw[this]
    exact no
  |true=>
    simp only[jB.j0]
    obtain⟨v,hv1,hv2⟩:=aa8 (jq s 46) ae (jq s 46) 0 k rfl ae
    have hcon:gZ.f k (jq s 46) (⟨#[]⟩:af)=some (!((jq s 46).all fun x=>!decide (x.size=0))):=by
      unfold gZ.f bU.f
      rw[show((0:Nat):Int)=0 from rfl] at hv1
      rw[hv1,ax,hv2]
    have hsp:strings_Split.f s (⟨#[46]⟩:af)=some (jq s 46):=YQ s 46 ae
    rw[if_neg aA,hsp,ax,hcon,ax,Bool.not_not]
    congr 1
    have hq':=hall.1 hq
    cases hz:(jq s 46).all wP with
    |true=>exact(hp.1 hz).1
    |false=>
      cases hy:(jq s 46).all (fun x=>!decide (x.size=0)) with
      |false=>rfl
      |true=>
        have:=hp.2 ⟨hy,hq'⟩
        unfold jq at hz
        rw[hz] at this;cases this

theorem KF (x:Nat) (hx:x<10):strOfNums [(wrap64 (48+(x:Int)))%256]=(⟨#[UInt8.ofNat (48+x)]⟩:af):=by
  rw[aC ae ae]
  unfold strOfNums
  have e:((48+(x:Int))%256).toNat=48+x:=by omega
  simp[e]
theorem aju : ∀(d u:Nat),u<10 ^ (d+1)->u<=999999999999999->d<=20->∀ k,2*d+2<=k->bI.f k (u:Int)=some ⟨(Lib.decDigits u).toArray⟩:=by
  intro d
  induction d with
  |zero=>
    intro u hu hu2 hd k hk
    obtain⟨k,rfl⟩:∃ m,k=m+2:=⟨k-2,by omega⟩
    have h10:u<10:=by simpa using hu
    rw[bI.f.eq_def]
    dsimp only
    rw[if_neg ae,bQ ae,bI.j0.eq_def]
    dsimp only
    rw[if_neg aA,if_pos ae,KF u h10,Lib.decDigits_one h10]
  |succ d ih=>
    intro u hu hu2 hd k hk
    obtain⟨k,rfl⟩:∃ m,k=m+2:=⟨k-2,by omega⟩
    rw[bI.f.eq_def]
    dsimp only
    rw[if_neg ae,bQ ae,bI.j0.eq_def]
    dsimp only
    rw[if_neg aA]
    by_cases h10:u<10
    · rw[if_pos ae,KF u h10,Lib.decDigits_one h10]
    · have e1:wrap64 (Int.tdiv (u:Int) 10)=((u / 10:Nat):Int):=by
        have:Int.tdiv (u:Int) 10=((u / 10:Nat):Int):=rfl
        rw[this,aC ae ae]
      have e2:Int.tmod (u:Int) 10=((u%10:Nat):Int):=rfl
      have hq:u / 10<10 ^ (d+1):=by
        rw[Nat.pow_succ] at hu
        omega
      rw[if_neg ae,e1,ih (u / 10) hq ae ae k ae,ax,ax,e2,KF (u%10) ae]
      have hl:(Lib.decDigits (u / 10)).length<=21:=by
        have h1:=Lib.itoa_length_le ((u / 10:Nat):Int) ae ae
        unfold Lib.itoa at h1
        rw[if_neg ae,Int.toNat_natCast] at h1
        exact h1
      have hs1:(⟨(Lib.decDigits (u / 10)).toArray⟩:af).size<=21:=by simpa [ByteArray.size] using hl
      have hs2:(⟨#[UInt8.ofNat (48+u%10)]⟩:af).size=1:=rfl
      have e3:Lib.decDigits u=Lib.decDigits (u / 10) ++ [UInt8.ofNat (48+u%10)]:=by rw[Lib.decDigits,dif_neg h10]
      rw[if_pos ae,e3]
      congr 1
theorem nO (n:Int) (h0:0<=n) (h1:n<=999999999999999) (k:Nat) (hk:100<=k):bI.f k n=some (jg n):=by
  obtain⟨u,rfl⟩:=Int.eq_ofNat_of_zero_le h0
  rw[aju 15 u ae ae aA k ae]
  unfold jg Lib.itoa
  rw[if_neg ae,Int.toNat_natCast]

theorem Tn : ∀(l r:List UInt8) (acc m:Nat),Lib.parseUint10 acc l = .ok m->Lib.parseUint10 acc (l++r)=Lib.parseUint10 m r
  |[],r,acc,m,h=>by
    simp only[Lib.parseUint10] at h
    injection h with h
    rw[h];rfl
  |c::l,r,acc,m,h=>by
    simp only[Lib.parseUint10,List.cons_append] at h ⊢
    split at h
    · rename_i h1
      rw[if_pos h1]
      split at h
      · cases h
      · rename_i h2
        rw[if_neg h2]
        split at h
        · cases h
        · rename_i h3
          rw[if_neg h3]
          exact Tn l r _ m h
    · cases h
theorem EO (acc d:Nat) (hd:d<10) (ha:acc<=999999999999999):Lib.parseUint10 acc [UInt8.ofNat (48+d)] = .ok (acc*10+d):=by
  have e:(UInt8.ofNat (48+d)).toNat=48+d:=by
    rw[UInt8.toNat_ofNat']
    omega
  simp only[Lib.parseUint10,e]
  rw[if_pos ae,if_neg ae,if_neg ae]
  congr 1;omega
theorem aew : ∀(d u:Nat),u<10 ^ (d+1)->u<=999999999999999->Lib.parseUint10 0 (Lib.decDigits u) = .ok u/\(Lib.decDigits u).length<=d+1/\Lib.decDigits u≠[]:=by
  intro d
  induction d with
  |zero=>
    intro u hu h15
    have h10:u<10:=by simpa using hu
    rw[Lib.decDigits_one h10]
    exact⟨by rw[EO 0 u h10 ae];congr 1;omega,by simp,by simp⟩
  |succ d ih=>
    intro u hu h15
    by_cases h10:u<10
    · rw[Lib.decDigits_one h10]
      exact⟨by rw[EO 0 u h10 ae];congr 1;omega,by simp,by simp⟩
    · have e3:Lib.decDigits u=Lib.decDigits (u / 10) ++ [UInt8.ofNat (48+u%10)]:=by rw[Lib.decDigits,dif_neg h10]
      obtain⟨h1,h2,h3⟩:=ih (u / 10) (by rw[Nat.pow_succ] at hu;omega) ae
      rw[e3]
      refine⟨?_,by simp;omega,by simp⟩
      rw[Tn _ _ _ _ h1,EO (u / 10) (u%10) ae ae]
      congr 1;omega
theorem YU {c:UInt8} {r:List UInt8} {acc m:Nat} (h:Lib.parseUint10 acc (c::r) = .ok m):48<=c.toNat/\c.toNat<=57:=by
  simp only[Lib.parseUint10] at h
  split at h
  · assumption
  · cases h
theorem KG {l:List UInt8} {u:Nat} (hl:l≠[]) (h:Lib.parseUint10 0 l = .ok u) (hu:u<=999999999999999):Lib.atoiAll l = .ok (u:Int):=by
  cases l with
  |nil=>exact absurd rfl hl
  |cons c r=>
    have hc:=YU h
    unfold Lib.atoiAll Lib.parseMag
    simp only
    rw[if_neg (show ¬ (c.toNat=43∨c.toNat=45) by omega),if_neg (show ¬ (c::r = []) by simp),h]
    simp only
    rw[if_neg ae,if_neg ae,if_neg ae]
theorem aa9 (v:Int) (h0:0<=v):(jg v).toList=Lib.decDigits v.toNat:=by
  rw[ByteArray.toList_eq]
  unfold jg Lib.itoa
  rw[if_neg ae]
theorem ajv (s:af) (h:(rY s).2=true):rY s=((rY s).1,true)/\0<=(rY s).1/\(rY s).1<=999999999999999/\s.data.toList=Lib.decDigits (rY s).1.toNat:=by
  unfold rY at h ⊢
  rcases hA:Lib.atoiAll s.data.toList with v|_|_
  · rw[hA] at h
    simp only at h ⊢
    by_cases hc:0<=v/\v<=999999999999999/\(jg v).toList=s.toList
    · rw[if_pos hc]
      exact⟨rfl,hc.1,hc.2.1,by rw[<- ByteArray.toList_eq,<- hc.2.2,aa9 v hc.1]⟩
    · rw[if_neg hc] at h;cases h
  · rw[hA] at h;cases h
  · rw[hA] at h;cases h
theorem Hf (s:af) (h:(rY s).2=false):rY s=(0,false):=by
  unfold rY at h ⊢
  rcases hA:Lib.atoiAll s.data.toList with v|_|_
  · rw[hA] at h
    simp only at h ⊢
    split
    · rename_i hc;rw[if_pos hc] at h;cases h
    · rfl
  · rfl
  · rfl
def ajw (s:af):Lib.NumEnd Nat->Int×Bool
  |.ok n=>if(jg (n:Int)).toList=s.toList then((n:Int),true) else(0,false)
  |_=>(0,false)
theorem KH (acc i m:Nat) (ha:acc<10 ^ i) (hi:i<=m):acc<10 ^ m:=Nat.lt_of_lt_of_le ha (Nat.pow_le_pow_right aA hi)
theorem aso : (10:Nat) ^ 14=100000000000000:=by decide
theorem ajx : (10:Nat) ^ 15=1000000000000000:=by decide
theorem ajy (acc x i:Nat) (ha:acc<10 ^ i) (hx:x<=9):acc*10+x<10 ^ (i+1):=by
  rw[Nat.pow_succ]
  have h:(acc+1)*10<=10 ^ i*10:=Nat.mul_le_mul_right 10 ha
  omega
theorem ajz (s:af) (hs:s.size<=15):∀(d:Nat) (acc i:Nat),i<=s.size->s.size-i=d->aa (acc<10 ^ i)->∀ k,d+120<k->
    dY.l0 k s (acc:Int) (i:Int)=some (ajw s (Lib.parseUint10 acc (s.data.toList.drop i)))/\(∀ n,Lib.parseUint10 acc (s.data.toList.drop i) = .ok n->n<10 ^ s.size):=by
  intro d
  induction d with
  |zero=>
    intro acc i h0 hd ha k hk
    have hi:i=s.size:=by omega
    have hp2:acc<=999999999999999:=by
      have h1:=KH acc i 15 ha.out ae
      rw[ajx] at h1
      omega
    rw[List.drop_of_length_le (by rw[Kv];omega)]
    obtain⟨k,rfl⟩:=dm k ae
    refine⟨?_,fun n hn=>?_⟩
    · simp only[dY.l0,Lib.parseUint10,ajw]
      rw[if_neg ae,nO (acc:Int) ae ae k ae,ax]
      split <;> rfl
    · simp only[Lib.parseUint10] at hn
      injection hn with hn
      rw[<- hn,<- hi];exact ha.out
  |succ d ih=>
    intro acc i h0 hd ha k hk
    obtain⟨k,rfl⟩:=dm k ae
    obtain⟨b,hb1,hb2⟩:=ac6 (s:=s) (n:=i) ae
    obtain⟨hb3,hb4⟩:=List.getElem?_eq_some_iff.mp hb1
    have hp:acc<=99999999999999:=by
      have h1:=KH acc i 14 ha.out ae
      rw[aso] at h1
      omega
    have hwi:=iX i ae
    rw[List.drop_eq_getElem_cons hb3,hb4]
    clear hb1 hb3 hb4
    simp only[dY.l0,Lib.parseUint10]
    rw[if_pos ae,if_pos ae,hb2,QV,ax,hwi]
    clear hwi hb2
    by_cases hd2:48<=b.toNat/\b.toNat<=57
    · have hdg:dg b=true:=bK hd2
      have hwv:wrap64 (wrap64 ((acc:Int)*10)+((b.toNat:Int)-48)%256)=((acc*10+(b.toNat-48):Nat):Int):=by
        rw[aC (x:=(acc:Int)*10) ae ae,aC ae ae]
        omega
      rw[if_pos hdg,if_pos hd2,if_neg ae,if_neg ae,hwv]
      exact ih (acc*10+(b.toNat-48)) (i+1) ae ae ⟨ajy acc (b.toNat-48) i ha.out ae⟩ k ae
    · have hdg:dg b=false:=bQ hd2
      rw[hdg,if_neg aA,if_neg hd2]
      exact⟨rfl,fun n hn=>by cases hn⟩
theorem MO (s:af) (k:Nat) (hk:200<k):dY.f k s=some (rY s):=by
  have inv:(rY s).2=true->1<=s.size/\s.size<=15/\Lib.parseUint10 0 s.data.toList = .ok (rY s).1.toNat:=by
    intro h
    obtain⟨_,h1,h2,h3⟩:=ajv s h
    obtain⟨p1,p2,p3⟩:=aew 14 (rY s).1.toNat (by
      have e:10 ^ (14+1)=1000000000000000:=by decide
      omega) ae
    rw[<- h3] at p1 p2 p3
    rw[Kv] at p2
    refine⟨?_,by omega,p1⟩
    rcases Nat.eq_zero_or_pos s.size with h0|h0
    · exact absurd (List.eq_nil_of_length_eq_zero (by rw[Kv];exact h0)) p3
    · exact h0
  obtain⟨k,rfl⟩:=dm k ae
  unfold dY.f
  have no:(rY s).2=false->some ((0:Int),false)=some (rY s):=fun h=>by rw[Hf s h]
  by_cases h0:s.size=0
  · rw[if_pos ae]
    simp only[dY.j0]
    exact no (by cases hb:(rY s).2 with|false=>rfl|true=>have:=inv hb;omega)
  · rw[if_neg ae]
    by_cases h15:s.size>15
    · rw[bK ae]
      simp only[dY.j0]
      exact no (by cases hb:(rY s).2 with|false=>rfl|true=>have:=inv hb;omega)
    · rw[bQ ae]
      simp only[dY.j0]
      rw[if_neg aA]
      have hl:=ajz s ae s.size 0 0 (Nat.zero_le _) ae ⟨by decide⟩ k ae
      rw[List.drop_zero] at hl
      refine hl.1.trans ?_
      congr 1
      rcases hP:Lib.parseUint10 0 s.data.toList with n|_|_
      · have hn:=hl.2 n hP
        have aBG:n<=999999999999999:=by
          have h1:=KH n s.size 15 hn ae
          rw[ajx] at h1
          clear hn hP hl
          omega
        clear hn
        have hne:s.data.toList≠[]:=fun e=>h0 (by rw[<- Kv,e];rfl)
        unfold rY
        rw[KG hne hP aBG]
        simp only[ajw]
        by_cases he:(jg (n:Int)).toList=s.toList
        · rw[if_pos he,if_pos ⟨by omega,by omega,he⟩]
        · rw[if_neg he,if_neg (fun x=>he x.2.2)]
      · have hb:(rY s).2=false:=by cases hb:(rY s).2 with|false=>rfl|true=>have:=(inv hb).2.2;rw[hP] at this;cases this
        rw[Hf s hb];rfl
      · have hb:(rY s).2=false:=by cases hb:(rY s).2 with|false=>rfl|true=>have:=(inv hb).2.2;rw[hP] at this;cases this
        rw[Hf s hb];rfl

def BS (p:Int):ByteArray:=if p=80 then(⟨#[]⟩:af) else(⟨#[58]⟩:af)++jg p
def EP (q:af) (hq:Bool):ByteArray:=if hq=true then(⟨#[63]⟩:af)++q else(⟨#[]⟩:af)
def Qh (h:af) (p:Int) (path q:af) (hq:Bool):ByteArray:=((((⟨#[104,116,116,112,58,47,47]⟩:af)++h)++BS p)++path)++EP q hq
theorem CX (p:Int) (h0:0<=p) (h1:p<=999999999999999):(BS p).size<=22:=by
  unfold BS
  split
  · exact Nat.zero_le _
  · have h:=Lib.itoa_length_le p ae ae
    have e:(jg p).size=(Lib.itoa p).length:=by simp[jg,ByteArray.size]
    have e2:(⟨#[58]⟩:af).size=1:=rfl
    rw[ByteArray.size_append,e2]
    omega
theorem YV (q:af) (hq:Bool):(EP q hq).size<=1+q.size:=by
  unfold EP
  split
  · rw[ByteArray.size_append];exact Nat.le_refl _
  · exact Nat.zero_le _
theorem Ve (h:af) (p:Int) (path q:af) (hq:Bool) (h0:0<=p) (h1:p<=999999999999999) (k:Nat) (hk:100<=k):oq.f k h p path q hq=some (BS p):=by
  have hz:=CX p h0 h1
  unfold oq.f
  unfold BS at hz ⊢
  by_cases e:p=80
  · rw[if_pos e,if_pos e]
  · rw[if_neg e] at hz
    rw[if_neg e,if_neg e,nO p h0 h1 k hk,ax,if_pos (by rw[ByteArray.size_append] at hz;omega)]
theorem Vf (h:af) (p:Int) (path q:af) (hq:Bool) (h0:0<=p) (h1:p<=999999999999999):mg.f h p path q hq=some (BS p):=by
  have hz:=CX p h0 h1
  unfold mg.f
  unfold BS at hz ⊢
  by_cases e:p=80
  · rw[if_pos e,if_pos e]
  · rw[if_neg e] at hz
    have hi:fT.f p=some (jg p):=if_pos ⟨by omega,by omega⟩
    rw[if_neg e,if_neg e,hi,ax,if_pos (by rw[ByteArray.size_append] at hz;omega)]
theorem aps : (⟨#[104,116,116,112,58,47,47]⟩:af).size=7:=rfl
theorem JN (h:af) (p:Int) (path q:af) (hq:Bool) (h0:0<=p) (h1:p<=999999999999999) (hh:h.size<=1048576) (hp:path.size<=1048576) (hqs:q.size<=1048576) (k:Nat) (hk:100<=k) :
    ja.f k h p path q hq=some (Qh h p path q hq):=by
  have z1:=CX p h0 h1
  have s1:((⟨#[104,116,116,112,58,47,47]⟩:af)++h).size=7+h.size:=by rw[ByteArray.size_append,aps]
  have s2:(((⟨#[104,116,116,112,58,47,47]⟩:af)++h)++BS p).size=7+h.size+(BS p).size:=by rw[ByteArray.size_append,s1]
  have s3:((((⟨#[104,116,116,112,58,47,47]⟩:af)++h)++BS p)++path).size=7+h.size+(BS p).size+path.size:=by rw[ByteArray.size_append,s2]
  have hq1:nu.f h p path q hq=some (EP q hq):=by
    unfold nu.f EP
    cases hq with
    |true=>rw[if_pos rfl,if_pos rfl,if_pos ae]
    |false=>rfl
  have z2:=YV q hq
  unfold ja.f
  rw[if_pos ae,Ve h p path q hq h0 h1 k hk,ax,if_pos ae,if_pos ae,hq1,ax,if_pos ae]
  rfl
theorem JO (h:af) (p:Int) (path q:af) (hq:Bool) (h0:0<=p) (h1:p<=999999999999999) (hh:h.size<=1048576) (hp:path.size<=1048576) (hqs:q.size<=1048576) :
    iC.f h p path q hq=some (Qh h p path q hq):=by
  have z1:=CX p h0 h1
  have s1:((⟨#[104,116,116,112,58,47,47]⟩:af)++h).size=7+h.size:=by rw[ByteArray.size_append,aps]
  have s2:(((⟨#[104,116,116,112,58,47,47]⟩:af)++h)++BS p).size=7+h.size+(BS p).size:=by rw[ByteArray.size_append,s1]
  have qs:(⟨#[63]⟩:af).size=1:=rfl
  unfold iC.f
  rw[if_pos ae,Vf h p path q hq h0 h1,ax,if_pos ae]
  unfold ni.f Qh EP
  cases hq with
  |true=>
    have s3:(path++(⟨#[63]⟩:af)).size=path.size+1:=by rw[ByteArray.size_append,qs]
    have s4:((path++(⟨#[63]⟩:af))++q).size=path.size+1+q.size:=by rw[ByteArray.size_append,s3]
    rw[if_pos rfl,if_pos rfl,if_pos ae,if_pos ae,ax,if_pos ae]
    congr 1
    apply ByteArray.ext
    simp[Array.append_assoc]
  |false=>
    rw[if_neg aA,if_neg aA,ax,if_pos ae]
    congr 1
    apply ByteArray.ext
    simp
def Q4 (h:af) (p:Int) (path q:af) (hq:Bool):Bool:=
  Qg h&&(decide (1<=p/\p<=65535)&&(!decide (path.size=0)&&(decide (uh path=path)&&((hq||decide (q.size=0))&&(yf q&&(decide (bV q 35=q.size)&&decide ((Qh h p path q hq).size<=200)))))))
theorem fM (a b:af):a.toList=b.toList↔a=b:=by
  constructor
  · intro h
    rw[ByteArray.toList_eq,ByteArray.toList_eq] at h
    apply ByteArray.ext
    rw[<- Array.toArray_toList (xs:=a.data),h,Array.toArray_toList]
  · intro h;rw[h]
theorem anx (q:af) (h:q.size=0):yf q=true:=by unfold yf;rw[h];rfl
theorem BV (q:af) (c:Int):bz q c=q↔bV q c=q.size:=by
  constructor
  · intro h
    have:=rW q c
    rw[h] at this
    exact this.symm
  · intro h
    unfold bz
    rw[h]
    exact extract_all q
theorem Bc (h:af) (p:Int) (path q:af) (hq:Bool) (hh:h.size<=1048576) (hp:path.size<=1048576) (hqs:q.size<=200) (k:Nat) (hk:80000000<k):aM.f k h p path q hq=some (Q4 h p path q hq):=by
  obtain⟨k,rfl⟩:=dm k ae
  have no:aM.j0 (k+1) true h p path q hq=some false:=by simp only[aM.j0];rfl
  unfold aM.f Q4
  rw[Vb h hh (k+1) ae,ax]
  cases c1:Qg h with
  |false=>rw[if_neg aA,no];rfl
  |true=>
    rw[if_pos rfl,Bool.true_and]
    by_cases c2:p<1
    · rw[if_pos c2,no,bQ ae];rfl
    rw[if_neg c2]
    by_cases c3:p>65535
    · rw[if_pos c3,no,bQ ae];rfl
    rw[if_neg c3,bK ae,Bool.true_and]
    by_cases c4:path.size=0
    · rw[if_pos ((oU path).2 c4),no,bK c4];rfl
    rw[if_neg (fun z=>c4 ((oU path).1 z)),bQ c4,Bool.not_false,Bool.true_and,Gd path hp (k+1) ae,ax]
    by_cases c5:uh path=path
    case neg=>rw[if_neg (fun z=>c5 ((fM _ _).1 z)),no,bQ c5];rfl
    rw[if_pos ((fM _ _).2 c5),bK c5,Bool.true_and]
    have tail:(hq||decide (q.size=0))=true->aM.j0 (k+1) false h p path q hq=some (yf q&&(decide (bV q 35=q.size)&&decide ((Qh h p path q hq).size<=200))):=by
      intro _
      simp only[aM.j0]
      rw[if_neg aA,if_neg ae,JN h p path q hq ae ae hh hp ae k ae,Ad q ae 35 k ae,ax,ax]
      have mid:(if(bz q 35).toList=q.toList then some (decide (((Qh h p path q hq).size:Int)<=200)) else some false)=some (decide (bV q 35=q.size)&&decide ((Qh h p path q hq).size<=200)):=by
        by_cases e:bV q 35=q.size
        · rw[if_pos ((fM _ _).2 ((BV q 35).2 e)),bK e,Bool.true_and]
          exact congrArg some (decide_eq_decide.2 ae)
        · rw[if_neg (fun z=>e ((BV q 35).1 ((fM _ _).1 z))),bQ e,Bool.false_and]
      by_cases z:q.size=0
      · rw[if_pos ((oU q).2 z),anx q z,Bool.true_and]
        exact mid
      · rw[if_neg (fun y=>z ((oU q).1 y)),uI q ae k ae,ax,bK (by omega:0<q.size),Bool.true_and]
        cases hv:yf q with
        |false=>rfl
        |true=>rw[if_pos rfl,Bool.true_and];exact mid
    cases hq with
    |true=>rw[if_pos rfl,tail rfl];rfl
    |false=>
      rw[if_neg aA]
      by_cases z:q.size=0
      · have:(q.toList != ([]:aQ))=false:=bne_eq_false_iff_eq.2 ((oU q).2 z)
        rw[this,tail (by rw[bK z];rfl),bK z];rfl
      · have:(q.toList != ([]:aQ))=true:=bne_iff_ne.2 (fun y=>z ((oU q).1 y))
        rw[this,no,bQ z];rfl
theorem Q5 (h:af) (p:Int) (path q:af) (hq:Bool) (hh:h.size<=1048576) (hp:path.size<=1048576) (hqs:q.size<=200) (k:Nat) (hk:80000000<k):dG.f k h p path q hq=some (Q4 h p path q hq):=by
  obtain⟨k,rfl⟩:=dm k ae
  have no:dG.j0 (k+1) true h p path q hq=some false:=by simp only[dG.j0];rfl
  unfold dG.f Q4
  rw[Vd h hh (k+1) ae,ax,xh,ax]
  cases c1:Qg h with
  |false=>rw[if_neg aA,no];rfl
  |true=>
    rw[if_pos rfl,Bool.true_and]
    by_cases c2:1<=p/\p<=65535
    case neg=>rw[bQ c2,if_neg aA,no];rfl
    rw[bK c2,if_pos rfl,Bool.true_and]
    by_cases c4:path.size=0
    · rw[if_pos ((oU path).2 c4),no,bK c4];rfl
    rw[if_neg (fun z=>c4 ((oU path).1 z)),bQ c4,Bool.not_false,Bool.true_and,Gf path hp (k+1) ae,ax]
    by_cases c5:uh path=path
    case neg=>
      have:((uh path).toList != path.toList)=true:=bne_iff_ne.2 (fun z=>c5 ((fM _ _).1 z))
      rw[this,no,bQ c5];rfl
    have e5:((uh path).toList != path.toList)=false:=bne_eq_false_iff_eq.2 ((fM _ _).2 c5)
    rw[e5,bK c5,Bool.true_and]
    simp only[dG.j0]
    have hc:=Dx q 35
    have h35:((35:UInt8).toNat:Int)=35:=rfl
    rw[h35] at hc
    have hle:=mK q 35
    rw[if_neg aA,uJ q ae k ae,ax,hc,ax,JO h p path q hq ae ae hh hp ae,ax]
    have hd:decide (((Qh h p path q hq).size:Int)<=200)=decide ((Qh h p path q hq).size<=200):=decide_eq_decide.2 ae
    rw[hd]
    cases hv:yf q with
    |false=>rw[if_neg aA,Bool.false_and,Bool.and_false]
    |true=>
      rw[if_pos rfl,Bool.true_and]
      by_cases e:bV q 35<q.size
      · rw[bK e,if_pos rfl,show decide (bV q 35=q.size)=false from bQ ae,Bool.false_and,Bool.and_false]
      · rw[bQ e,if_neg aA,show decide (bV q 35=q.size)=true from bK ae,Bool.true_and]
        cases hq with
        |true=>rw[if_pos rfl];rfl
        |false=>
          rw[if_neg aA]
          by_cases z:q.size=0
          · rw[if_pos ((oU q).2 z),bK z];rfl
          · rw[if_neg (fun y=>z ((oU q).1 y)),bQ z];rfl

abbrev anz := ByteArray×Int×ByteArray×ByteArray×Bool×Bool
def Tp : anz:=((⟨#[]⟩:af),0,(⟨#[]⟩:af),(⟨#[]⟩:af),false,false)
def Hg (h:af) (p:Int) (path q:af) (hq:Bool):anz:=if Q4 h p path q hq=true then(h,p,path,q,hq,true) else Tp
def Tq (f:af) (n:Nat):ByteArray:=if n<f.size then uh (f.extract n f.size) else(⟨#[47]⟩:af)
def LW (r:af):anz:=
  if bV (bz (bz r 63) 47) 58<(bz (bz r 63) 47).size then
    (if(rY ((bz (bz r 63) 47).extract (bV (bz (bz r 63) 47) 58+1) (bz (bz r 63) 47).size)).2=true then
      Hg (lG (bz (bz (bz r 63) 47) 58)) (rY ((bz (bz r 63) 47).extract (bV (bz (bz r 63) 47) 58+1) (bz (bz r 63) 47).size)).1 (Tq (bz r 63) (bz (bz r 63) 47).size) (if bV r 63<r.size then r.extract (bV r 63+1) r.size else(⟨#[]⟩:af)) (decide (bV r 63<r.size))
    else Tp)
  else Hg (lG (bz (bz (bz r 63) 47) 58)) 80 (Tq (bz r 63) (bz (bz r 63) 47).size) (if bV r 63<r.size then r.extract (bV r 63+1) r.size else(⟨#[]⟩:af)) (decide (bV r 63<r.size))
theorem Hl (s:af):(lG s).size=s.size:=by unfold lG;rw[strOfNums_size,List.length_map,bytesOf_length]
theorem extract_congr (s:af) {a b c d:Nat} (h1:a=c) (h2:b=d):s.extract a b=s.extract c d:=by rw[h1,h2]
theorem aba : uh (⟨#[47]⟩:af)=(⟨#[47]⟩:af):=by decide +kernel
theorem Qi (p:af):(uh p).size<=1048576:=by
  unfold uh
  split
  · rename_i h
    have hz:=He p
    have hl:=wO ((nK p).extract 1 (nK p).size) 47
    have hk:=Ff (jq ((nK p).extract 1 (nK p).size) 47)
    have he:=qD (nK p) 1 (nK p).size ae
    have hm:=KC (fun x=>x.size<=200) (jq ((nK p).extract 1 (nK p).size) 47) (Nat.zero_le _) (fun x hx=>by have:=CV _ _ _ _ _ x hx;omega)
    have hj:=Qd _ (⟨#[47]⟩:af) 200 hm
    have h1:(⟨#[47]⟩:af).size=1:=rfl
    unfold uL
    rw[ByteArray.size_append,h1]
    rw[h1] at hj
    omega
  · exact Nat.zero_le _
theorem ada (r f:af) (h:af) (p:Int) (path:af) (hr:r.size<=200) (hf:f.size=bV r 63) (hh:h.size<=200) (hp:path.size<=1048576) (k:Nat) (hk:80000000<k) :
    bn.j2 (k+1) r f h p path (⟨#[]⟩:af) false=some (Hg h p path (if bV r 63<r.size then r.extract (bV r 63+1) r.size else(⟨#[]⟩:af)) (decide (bV r 63<r.size))):=by
  have hle:=mK r 63
  simp only[bn.j2]
  unfold Hg
  by_cases c:bV r 63<r.size
  · have he:(r.extract (bV r 63+1) r.size).size<=200:=qD _ _ _ hr
    rw[if_pos ae,hf,iX _ ae,if_pos ae,if_pos ae,Int.toNat_natCast,Bc _ _ _ _ _ ae hp he k hk,ax,if_pos c,bK c]
    split <;> rfl
  · rw[if_neg ae,Bc h p path (⟨#[]⟩:af) false ae hp (Nat.zero_le _) k hk,ax,if_neg c,bQ c]
    split <;> rfl
theorem adb (r:af) (h:af) (p:Int) (hr:r.size<=200) (hh:h.size<=200) (k:Nat) (hk:80000000<k) :
    bn.j1 (k+2) r (bz r 63) (bz (bz r 63) 47) h p (⟨#[47]⟩:af) (⟨#[]⟩:af) false =
      some (Hg h p (Tq (bz r 63) (bz (bz r 63) 47).size) (if bV r 63<r.size then r.extract (bV r 63+1) r.size else(⟨#[]⟩:af)) (decide (bV r 63<r.size))):=by
  have h1:=rW r 63
  have h2:=rW (bz r 63) 47
  have h3:=mK r 63
  have h4:=mK (bz r 63) 47
  simp only[bn.j1]
  unfold Tq
  by_cases c:(bz (bz r 63) 47).size<(bz r 63).size
  · rw[if_pos ae,if_pos ae,if_pos ae,Int.toNat_natCast,Gd _ (by rw[size_extract];omega) (k+1) ae,ax,if_pos c]
    exact ada r _ h p _ hr h1 hh (Qi _) k hk
  · rw[if_neg ae,if_neg c]
    exact ada r _ h p _ hr h1 hh aA k hk
theorem aex (s:af) (hs:s.size<=200) (h7:7<=s.size) (k:Nat) (hk:80000000<k):bn.j0 (k+3) s false=some (LW (s.extract 7 s.size)):=by
  have hr:=qD s 7 s.size hs
  have hz:(s.extract 7 s.size).size<=200:=hr
  generalize hg:s.extract 7 s.size=r at hr hz
  have h1:=rW r 63
  have h2:=rW (bz r 63) 47
  have h3:=rW (bz (bz r 63) 47) 58
  have a1:=mK r 63
  have a2:=mK (bz r 63) 47
  have a3:=mK (bz (bz r 63) 47) 58
  simp only[bn.j0]
  rw[if_neg aA,if_pos ae,hg,Ad r ae 63 (k+2) ae,ax,Ad _ ae 47 (k+2) ae,ax,Ad _ ae 58 (k+2) ae,ax]
  have hf:il.f (bz (bz (bz r 63) 47) 58)=some (lG (bz (bz (bz r 63) 47) 58)):=if_pos ae
  have hfs:=Hl (bz (bz (bz r 63) 47) 58)
  rw[hf,ax]
  unfold LW
  by_cases c:bV (bz (bz r 63) 47) 58<(bz (bz r 63) 47).size
  · rw[if_pos ae,if_pos c,h3,iX _ ae,if_pos ae,if_pos ae,Int.toNat_natCast,MO _ (k+2) ae,ax]
    cases hd:(rY ((bz (bz r 63) 47).extract (bV (bz (bz r 63) 47) 58+1) (bz (bz r 63) 47).size)).2 with
    |true=>
      rw[if_pos rfl,if_pos rfl]
      exact adb r _ _ hr ae k hk
    |false=>
      rw[if_neg aA,if_neg aA];rfl
  · rw[if_neg ae,if_neg c]
    exact adb r _ _ hr ae k hk
def ade : List UInt8:=[104,116,116,112,58,47,47]
def mG (s:af):anz:=if s.size<=200/\7<=s.size/\yf s=true/\bV s 35=s.size/\(lG (s.extract 0 7)).toList=ade then LW (s.extract 7 s.size) else Tp
theorem abb : LW (⟨#[]⟩:af)=Tp:=by decide +kernel
theorem MP (s:af) (hs:s.size<=1048576) (k:Nat) (hk:80000010<k):bn.f k s=some (mG s):=by
  obtain⟨k,rfl⟩:∃ q,k=q+3:=⟨k-3,by omega⟩
  have no:bn.j0 (k+3) s true=some Tp:=by simp only[bn.j0];rfl
  unfold bn.f mG
  by_cases c1:s.size<=200
  case neg=>rw[if_pos ae,no,if_neg (fun q=>c1 q.1)]
  rw[if_neg ae]
  by_cases c2:s.size<8
  · rw[if_pos ae,no]
    by_cases c3:s.size<=200/\7<=s.size/\yf s=true/\bV s 35=s.size/\(lG (s.extract 0 7)).toList=ade
    · rw[if_pos c3]
      have:s.extract 7 s.size=(⟨#[]⟩:af):=by
        have hz:(s.extract 7 s.size).size=0:=by rw[size_extract];omega
        exact(fM _ _).1 (((oU _).2 hz).trans ((oU _).2 rfl).symm)
      rw[this,abb]
    · rw[if_neg c3]
  rw[if_neg ae,uI s hs (k+3) ae,ax,bK (by omega:0<s.size),Bool.true_and]
  cases c3:yf s with
  |false=>rw[if_neg aA,no,if_neg (fun q=>by cases q.2.2.1)]
  |true=>
    rw[if_pos rfl,Ad s hs 35 (k+3) ae,ax]
    by_cases c4:bV s 35=s.size
    case neg=>rw[if_neg (fun z=>c4 ((BV s 35).1 ((fM _ _).1 z))),no,if_neg (fun q=>c4 q.2.2.2.1)]
    have hf:il.f (s.extract 0 7)=some (lG (s.extract 0 7)):=if_pos (by rw[size_extract];omega)
    rw[if_pos ((fM _ _).2 ((BV s 35).2 c4)),if_pos aA,if_pos ae,hf,ax]
    by_cases c5:(lG (s.extract 0 7)).toList=ade
    · have:((lG (s.extract 0 7)).toList != ([104,116,116,112,58,47,47]:aQ))=false:=bne_eq_false_iff_eq.2 c5
      rw[this,if_pos ⟨c1,by omega,rfl,c4,c5⟩]
      exact aex s c1 ae k ae
    · have:((lG (s.extract 0 7)).toList != ([104,116,116,112,58,47,47]:aQ))=true:=bne_iff_ne.2 c5
      rw[this,no,if_neg (fun q=>c5 q.2.2.2.2)]
theorem ajA (r:af) (c d:Int):bV (bz r d) c=min (bV r c) (bV r d):=by
  have h1:=rW r d
  have a:=mK r d
  have b:=mK r c
  have e:∀ m:Nat,m<bV r d->bt (bz r d) (m:Int)=bt r (m:Int):=by
    intro m hm
    unfold bz
    rw[mq _ _ _ _ ae ae a]
    congr 1
    omega
  apply xH
  · omega
  · intro m hm
    rw[e m ae]
    exact Am r c m ae
  · intro h
    rw[e _ ae]
    have hm:min (bV r c) (bV r d)=bV r c:=by omega
    rw[hm]
    exact BQ r c ae
theorem adf (h:af) (p:Int) (path q:af) (hq:Bool) (hh:h.size<=200) (hp:path.size<=1048576) (hqs:q.size<=200) (k:Nat) (hk:80000000<k):aU.j3 (k+1) h p path q hq=some (Hg h p (uh path) q hq):=by
  simp only[aU.j3]
  rw[Gf path hp k ae,ax,Q5 h p _ q hq ae (Qi _) hqs k hk,ax]
  unfold Hg
  split <;> rfl
theorem adg (h:af) (p:Int) (path q:af) (hq:Bool) (hh:h.size<=200) (hp:path.size<=1048576) (hqs:q.size<=200) (k:Nat) (hk:80000000<k):aU.j2 (k+2) h p path q hq=some (Hg h p (if path.size=0 then(⟨#[47]⟩:af) else uh path) q hq):=by
  simp only[aU.j2]
  by_cases c:path.size=0
  · rw[if_pos ((oU path).2 c),if_pos c,adf h p _ q hq hh aA hqs k hk,aba]
  · rw[if_neg (fun z=>c ((oU path).1 z)),if_neg c]
    exact adf h p path q hq hh hp hqs k hk
theorem aey (s:af) (hs:s.size<=200) (h7:7<=s.size) (hv:yf s=true) (k:Nat) (hk:80000000<k):aU.j0 (k+4) s false=some (LW (s.extract 7 s.size)):=by
  have hr:=qD s 7 s.size hs
  have hvis:yf (s.extract 7 s.size)=true:=by
    unfold yf
    rw[EN]
    intro m hm
    rw[size_extract] at hm
    rw[mq _ _ _ _ ae ae ae,show(((7:Nat):Int)+(m:Int))=((7+m:Nat):Int) by omega]
    exact bK (ajt hv (7+m) ae)
  generalize hg:s.extract 7 s.size=r at hr hvis
  have h1:=rW r 63
  have h2:=rW (bz r 63) 47
  have h3:=rW (bz (bz r 63) 47) 58
  have a1:=mK r 63
  have a2:=mK (bz r 63) 47
  have a3:=mK (bz (bz r 63) 47) 58
  have b1:=mK r 47
  have hmin:=ajA r 47 63
  have hauth:bz (bz r 63) 47=r.extract 0 (min (bV r 47) (bV r 63)):=by
    show(bz r 63).extract 0 (bV (bz r 63) 47)=_
    rw[hmin]
    unfold bz
    rw[Fe _ _ _ _ _ ae]
    simp only[Nat.zero_add]
  have hany:strings_IndexAny.f r (⟨#[47,63]⟩:af)=some (if min (bV r 47) (bV r 63)<r.size then((min (bV r 47) (bV r 63):Nat):Int) else -1):=by
    unfold strings_IndexAny.f
    have hl:(⟨#[47,63]⟩:af).data.toList = [47,63]:=rfl
    rw[hl,if_neg (fun q=>absurd q.1 aA),if_pos ⟨Or.inl rfl,Tm hvis,by omega⟩,JM r 47 63]
    rfl
  have hmid:aU.j1 (k+3) r ((min (bV r 47) (bV r 63):Nat):Int)=some (LW r):=by
    simp only[aU.j1]
    rw[if_pos ae,if_pos ae,Int.toNat_natCast,<- hauth]
    have hc:=Qb (bz (bz r 63) 47) ae 58
    have h58:((58:UInt8).toNat:Int)=58:=rfl
    rw[h58] at hc
    rw[hc,ax]
    have hbz:(r.extract (min (bV r 47) (bV r 63)) r.size).size=r.size-min (bV r 47) (bV r 63):=by rw[size_extract];omega
    have hp:=Qb (r.extract (min (bV r 47) (bV r 63)) r.size) ae 63
    have h63:((63:UInt8).toNat:Int)=63:=rfl
    rw[h63] at hp
    have hpos:bV (r.extract (min (bV r 47) (bV r 63)) r.size) 63=bV r 63-min (bV r 47) (bV r 63):=by
      have e:∀ m:Nat,m<r.size-min (bV r 47) (bV r 63)->bt (r.extract (min (bV r 47) (bV r 63)) r.size) (m:Int)=bt r ((min (bV r 47) (bV r 63)+m:Nat):Int):=by
        intro m hm
        rw[mq _ _ _ _ ae ae (Nat.le_refl _)]
        congr 1
      apply xH
      · omega
      · intro m hm
        rw[e m ae]
        exact Am r 63 _ ae
      · intro h
        rw[e _ ae,show min (bV r 47) (bV r 63)+(bV r 63-min (bV r 47) (bV r 63))=bV r 63 by omega]
        exact BQ r 63 ae
    have hpath:(bz r 63).extract (bz (bz r 63) 47).size (bz r 63).size=(r.extract (min (bV r 47) (bV r 63)) r.size).extract 0 (bV r 63-min (bV r 47) (bV r 63)):=by
      rw[h2,h1,hmin]
      unfold bz
      rw[Fe _ _ _ _ _ ae,Fe _ _ _ _ _ ae]
      exact extract_congr r ae ae
    have hread:qB.f (r.extract (min (bV r 47) (bV r 63)) r.size)=some ((⟨#[]⟩:af),0,(bz r 63).extract (bz (bz r 63) 47).size (bz r 63).size,(if bV r 63<r.size then r.extract (bV r 63+1) r.size else(⟨#[]⟩:af)),decide (bV r 63<r.size)):=by
      unfold qB.f
      rw[hp,ax,hpos]
      by_cases c:bV r 63<r.size
      · rw[if_pos ae,if_pos c,bK c,hpath]
        dsimp only
        have he:(r.extract (min (bV r 47) (bV r 63)) r.size).extract (bV r 63-min (bV r 47) (bV r 63)+1) (r.extract (min (bV r 47) (bV r 63)) r.size).size=r.extract (bV r 63+1) r.size:=by
          rw[hbz,Fe _ _ _ _ _ ae]
          exact extract_congr r ae ae
        rw[he]
      · rw[if_neg ae,if_neg c,bQ c,hpath]
        dsimp only
        have he:(r.extract (min (bV r 47) (bV r 63)) r.size).extract 0 (bV r 63-min (bV r 47) (bV r 63))=r.extract (min (bV r 47) (bV r 63)) r.size:=by
          rw[show bV r 63-min (bV r 47) (bV r 63)=(r.extract (min (bV r 47) (bV r 63)) r.size).size by omega]
          exact extract_all _
        rw[he]
    have hpv:(if((bz r 63).extract (bz (bz r 63) 47).size (bz r 63).size).size=0 then(⟨#[47]⟩:af) else uh ((bz r 63).extract (bz (bz r 63) 47).size (bz r 63).size))=Tq (bz r 63) (bz (bz r 63) 47).size:=by
      unfold Tq
      by_cases c:(bz (bz r 63) 47).size<(bz r 63).size
      · rw[if_pos c,if_neg (by rw[size_extract];omega)]
      · rw[if_neg c,if_pos (by rw[size_extract];omega)]
    have hqz:(if bV r 63<r.size then r.extract (bV r 63+1) r.size else(⟨#[]⟩:af)).size<=200:=by
      split
      · exact qD _ _ _ hr
      · exact Nat.zero_le _
    have hpz:((bz r 63).extract (bz (bz r 63) 47).size (bz r 63).size).size<=1048576:=by rw[size_extract];omega
    rw[hread,ax]
    unfold LW
    by_cases c:bV (bz (bz r 63) 47) 58<(bz (bz r 63) 47).size
    · have hf:jF.f ((bz (bz r 63) 47).extract 0 (bV (bz (bz r 63) 47) 58))=some (lG (bz (bz (bz r 63) 47) 58)):=if_pos (by rw[size_extract];omega)
      have hfs:=Hl (bz (bz (bz r 63) 47) 58)
      have hdec:lS.f ((bz (bz r 63) 47).extract (bV (bz (bz r 63) 47) 58+1) (bz (bz r 63) 47).size)=some (rY ((bz (bz r 63) 47).extract (bV (bz (bz r 63) 47) 58+1) (bz (bz r 63) 47).size)):=if_pos (by rw[size_extract];omega)
      rw[if_pos c,if_pos c]
      dsimp only
      rw[hf,ax,if_pos rfl,hdec,ax]
      cases hd:(rY ((bz (bz r 63) 47).extract (bV (bz (bz r 63) 47) 58+1) (bz (bz r 63) 47).size)).2 with
      |true=>
        rw[if_pos rfl,if_pos rfl,adg _ _ _ _ _ ae hpz hqz k hk,hpv]
      |false=>
        rw[if_neg aA,if_neg aA];rfl
    · have hself:bz (bz (bz r 63) 47) 58=bz (bz r 63) 47:=(BV _ _).2 ae
      have hf:jF.f (bz (bz r 63) 47)=some (lG (bz (bz r 63) 47)):=if_pos ae
      have hfs:=Hl (bz (bz r 63) 47)
      rw[if_neg c,if_neg c,hself]
      dsimp only
      rw[hf,ax,if_neg aA,adg _ _ _ _ _ ae hpz hqz k hk,hpv]
  simp only[aU.j0]
  rw[if_neg aA,if_pos ae,hg,hany,ax]
  by_cases c:min (bV r 47) (bV r 63)<r.size
  · rw[if_pos c,if_neg ae]
    exact hmid
  · rw[if_neg c,if_pos aA,show(r.size:Int)=((min (bV r 47) (bV r 63):Nat):Int) by omega]
    exact hmid
theorem MQ (s:af) (hs:s.size<=1048576) (k:Nat) (hk:80000010<k):aU.f k s=some (mG s):=by
  obtain⟨k,rfl⟩:∃ q,k=q+4:=⟨k-4,by omega⟩
  have no:aU.j0 (k+4) s true=some Tp:=by simp only[aU.j0];rfl
  unfold aU.f mG
  by_cases c1:s.size<=200
  case neg=>rw[if_pos ae,no,if_neg (fun q=>c1 q.1)]
  rw[if_neg ae,uJ s hs (k+4) ae,ax]
  cases c3:yf s with
  |false=>rw[if_neg aA,no,if_neg (fun q=>by cases q.2.2.1)]
  |true=>
    have hc:=Dx s 35
    have h35:((35:UInt8).toNat:Int)=35:=rfl
    rw[h35] at hc
    have hle:=mK s 35
    rw[if_pos rfl,hc,ax]
    by_cases c4:bV s 35=s.size
    case neg=>rw[bK ae,if_pos rfl,no,if_neg (fun q=>c4 q.2.2.2.1)]
    rw[bQ ae,if_neg aA]
    by_cases c2:7<=s.size
    case neg=>rw[if_pos ae,no,if_neg (fun q=>c2 q.2.1)]
    have hf:jF.f (s.extract 0 7)=some (lG (s.extract 0 7)):=if_pos (by rw[size_extract];omega)
    rw[if_neg ae,if_pos aA,if_pos ae,hf,ax]
    by_cases c5:(lG (s.extract 0 7)).toList=ade
    · have:((lG (s.extract 0 7)).toList != ([104,116,116,112,58,47,47]:aQ))=false:=bne_eq_false_iff_eq.2 c5
      rw[this,if_pos ⟨c1,c2,rfl,c4,c5⟩]
      exact aey s c1 c2 c3 k ae
    · have:((lG (s.extract 0 7)).toList != ([104,116,116,112,58,47,47]:aQ))=true:=bne_iff_ne.2 c5
      rw[this,no,if_neg (fun q=>c5 q.2.2.2.2)]
theorem Gg (s:af) (h:(mG s).2.2.2.2.2=true):Q4 (mG s).1 (mG s).2.1 (mG s).2.2.1 (mG s).2.2.2.1 (mG s).2.2.2.2.1=true:=by
  have key:∀(a:af) (b:Int) (c d:af) (e:Bool),(Hg a b c d e).2.2.2.2.2=true->Q4 (Hg a b c d e).1 (Hg a b c d e).2.1 (Hg a b c d e).2.2.1 (Hg a b c d e).2.2.2.1 (Hg a b c d e).2.2.2.2.1=true:=by
    intro a b c d e h
    unfold Hg at h ⊢
    by_cases q:Q4 a b c d e=true
    · rw[if_pos q];exact q
    · rw[if_neg q] at h;cases h
  unfold mG at h ⊢
  split at h
  · rename_i hc
    rw[if_pos hc]
    unfold LW at h ⊢
    split at h
    · rename_i h1
      rw[if_pos h1]
      split at h
      · rename_i h2
        rw[if_pos h2]
        exact key _ _ _ _ _ h
      · cases h
    · rename_i h1
      rw[if_neg h1]
      exact key _ _ _ _ _ h
  · cases h
theorem Qj {h:ByteArray} {p:Int} {path q:ByteArray} {hq:Bool} (hv:Q4 h p path q hq=true):1<=p/\p<=65535/\h.size<=200/\path.size<=200/\q.size<=200:=by
  unfold Q4 at hv
  simp only[Bool.and_eq_true,decide_eq_true_eq,Bool.or_eq_true] at hv
  obtain⟨a,b,c,d,e,f,g,i⟩:=hv
  unfold Qh at i
  rw[ByteArray.size_append,ByteArray.size_append,ByteArray.size_append,ByteArray.size_append] at i
  refine⟨b.1,b.2,by omega,by omega,?_⟩
  rcases e with e|e
  · have:(EP q hq).size=1+q.size:=by unfold EP;rw[if_pos e,ByteArray.size_append];rfl
    omega
  · omega
def ER (s:af):ByteArray×Bool:=if(mG s).2.2.2.2.2=true then(Qh (mG s).1 (mG s).2.1 (mG s).2.2.1 (mG s).2.2.2.1 (mG s).2.2.2.2.1,true) else((⟨#[]⟩:af),false)
theorem Q6 (s:af) (hs:s.size<=1048576) (k:Nat) (hk:80000010<k):oP.f k s=some (ER s):=by
  unfold oP.f ER
  rw[MP s hs k hk,ax]
  cases h:(mG s).2.2.2.2.2 with
  |false=>rfl
  |true=>
    have hv:=Gg s h
    obtain⟨a,b,c,d,e⟩:=Qj hv
    rw[if_pos rfl,if_pos rfl]
    unfold nY.f
    rw[Bc _ _ _ _ _ ae ae e k ae,ax,hv,if_pos rfl,JN _ _ _ _ _ ae ae ae ae ae k ae]
    rfl
theorem Q7 (s:af) (hs:s.size<=1048576) (k:Nat) (hk:80000010<k):oL.f k s=some (ER s):=by
  unfold oL.f ER
  rw[MQ s hs k hk,ax]
  cases h:(mG s).2.2.2.2.2 with
  |false=>rfl
  |true=>
    have hv:=Gg s h
    obtain⟨a,b,c,d,e⟩:=Qj hv
    rw[if_pos rfl,if_pos rfl,JO _ _ _ _ _ ae ae ae ae ae]
    rfl
def Gq (s:af):Bool:=(ER s).2&&((ER s).1.toList==s.toList)
theorem Qy (s:af) (hs:s.size<=1048576) (k:Nat) (hk:80000010<k):mE.f k s=some (Gq s):=by
  unfold mE.f Gq
  rw[Q6 s hs k hk,ax]
  cases(ER s).2 <;> rfl
theorem Qz (s:af) (hs:s.size<=1048576) (k:Nat) (hk:80000010<k):jJ.f k s=some (Gq s):=by
  unfold jJ.f Gq
  rw[Q7 s hs k hk,ax]
  cases(ER s).2 <;> rfl

theorem Qk : ∀(d k:Nat) (l:List lq) (i:Int),0<=i->(l.length:Int)-i=d->l.length<=281474976710656->d<k->cO.l0 k l l i=some true:=by
  intro d
  induction d with
  |zero=>
    intro k l i h0 hd hl hk
    obtain⟨k,rfl⟩:∃ m,k=m+1:=⟨k-1,by omega⟩
    simp only[cO.l0]
    rw[if_neg ae]
  |succ d ih=>
    intro k l i h0 hd hl hk
    obtain⟨k,rfl⟩:∃ m,k=m+1:=⟨k-1,by omega⟩
    simp only[cO.l0]
    rw[if_pos ae,if_pos h0,if_pos ae,show lQ.f (aV l i).f0 (aV l i).f1 (aV l i).f0 (aV l i).f1=some true by unfold lQ.f;simp,ax,if_pos rfl,aC ae ae]
    exact ih k l (i+1) ae ae hl ae
theorem DV (k:Nat) (l:List lq) (hl:l.length<=281474976710656) (hk:l.length<k):cO.f k l l=some true:=by
  unfold cO.f
  rw[if_pos rfl]
  exact Qk l.length k l 0 ae ae hl hk

def pK (l:List dC) (a:af):Nat->Nat->List ByteArray->List ByteArray
  |0,_,out=>out
  |d+1,i,out=>pK l a d (i+1) (if qF (aV l (i:Int)).f0 a=true then out ++ [(aV l (i:Int)).f1] else out)
theorem MR (l:List dC) (a:af):∀ d i out,(pK l a d i out).length<=out.length+d:=by
  intro d
  induction d with
  |zero=>intro i out;simp[pK]
  |succ d ih=>
    intro i out
    simp only[pK]
    split
    · have:=ih (i+1) (out ++ [(aV l (i:Int)).f1])
      simp at this;omega
    · have:=ih (i+1) out;omega
theorem aez (l:List dC) (a:af) (ha:a.size<=140737488351232) (hok:gP l=true):∀(d k i:Nat) (out:List ByteArray),i<=l.length->l.length-i=d->out.length<=i->d<k->
    gM.l0 k a out l (l.length:Int) (i:Int)=some (pK l a d i out):=by
  have hl:=jD hok
  intro d
  induction d with
  |zero=>
    intro k i out h1 hd ho hk
    obtain⟨k,rfl⟩:∃ m,k=m+1:=⟨k-1,by omega⟩
    simp only[gM.l0]
    rw[if_neg ae]
    rfl
  |succ d ih=>
    intro k i out h1 hd ho hk
    obtain⟨k,rfl⟩:∃ m,k=m+1:=⟨k-1,by omega⟩
    have hn:=xG hok i ae
    have hw:wrap64 ((i:Int)+1)=((i+1:Nat):Int):=by rw[aC ae ae];omega
    simp only[gM.l0,pK]
    rw[if_pos ae,if_pos ae,if_pos ae,Kw _ a ae ae,ax,hw]
    by_cases hb:qF (aV l (i:Int)).f0 a=true
    · rw[if_pos hb,if_pos hb,if_pos ae]
      exact ih k (i+1) _ ae ae (by simp;omega) ae
    · rw[if_neg hb,if_neg hb]
      exact ih k (i+1) out ae ae ae ae
theorem aeA (l:List dC) (a:af) (ha:a.size<=140737488351232) (hok:gP l=true):∀(d k i:Nat) (out:List ByteArray),i<=l.length->l.length-i=d->out.length<=i->d<k->
    iP.l0 k l a out (i:Int)=some (pK l a d i out):=by
  have hl:=jD hok
  intro d
  induction d with
  |zero=>
    intro k i out h1 hd ho hk
    obtain⟨k,rfl⟩:∃ m,k=m+1:=⟨k-1,by omega⟩
    simp only[iP.l0]
    rw[if_neg ae]
    rfl
  |succ d ih=>
    intro k i out h1 hd ho hk
    obtain⟨k,rfl⟩:∃ m,k=m+1:=⟨k-1,by omega⟩
    have hn:=xG hok i ae
    have hw:wrap64 ((i:Int)+1)=((i+1:Nat):Int):=by rw[aC ae ae];omega
    simp only[iP.l0,pK]
    rw[if_pos ae,if_pos ae,Ky _ a ae ae,ax,hw]
    by_cases hb:qF (aV l (i:Int)).f0 a=true
    · rw[if_pos hb,if_pos hb,if_pos ae]
      exact ih k (i+1) _ ae ae (by simp;omega) ae
    · rw[if_neg hb,if_neg hb]
      exact ih k (i+1) out ae ae ae ae
def valuesOf (l:List dC) (a:af):List ByteArray:=if gP l=true then pK l a l.length 0 [] else []
theorem Dy (l:List dC) (a:af):(valuesOf l a).length<=20:=by
  unfold valuesOf
  split
  · rename_i h
    have h1:=jD h
    have h2:=MR l a l.length 0 []
    simp at h2;omega
  · exact Nat.zero_le _
theorem vT (l:List dC) (a:af) (ha:a.size<=140737488351232) (k:Nat) (hk:6000<k):gM.f k l a=some (valuesOf l a):=by
  unfold gM.f valuesOf
  rw[tF l k hk,ax]
  by_cases h:gP l=true
  · have:=jD h
    rw[if_pos h,if_pos h]
    exact aez l a ha h l.length k 0 [] (Nat.zero_le _) ae (Nat.le_refl _) ae
  · rw[if_neg h,if_neg h]
theorem zA (l:List dC) (a:af) (ha:a.size<=140737488351232) (k:Nat) (hk:6000<k):iP.f k l a=some (valuesOf l a):=by
  unfold iP.f valuesOf
  rw[xg l k hk,ax]
  by_cases h:gP l=true
  · have:=jD h
    rw[if_pos h,if_pos h]
    exact aeA l a ha h l.length k 0 [] (Nat.zero_le _) ae (Nat.le_refl _) ae
  · rw[if_neg h,if_neg h]

def JP (acc:af):List ByteArray->ByteArray
  |[]=>acc
  |x::r=>JP ((acc++(⟨#[44,32]⟩:af))++x) r
theorem Vg : ∀(r:List ByteArray) (acc:af),(JP acc r).data.toList=acc.data.toList++Go.Lib.joinTail [44,32] (r.map fun x=>x.data.toList):=by
  intro r
  induction r with
  |nil=>intro acc;simp[JP,Go.Lib.joinTail]
  |cons x r ih=>
    intro acc
    simp only[JP]
    rw[ih]
    simp[Go.Lib.joinTail]
theorem aeB (vs:List ByteArray) (hn:vs.length<=20) (hs:∀ x∈vs,x.size<=190):∀(r:List ByteArray) (k i:Nat) (acc:af),vs.drop i=r->1<=i->acc.size<=200*i->r.length<k->jo.l0 k vs acc (i:Int)=some (JP acc r):=by
  intro r
  induction r with
  |nil=>
    intro k i acc h h1 ha hk
    obtain⟨k,rfl⟩:∃ m,k=m+1:=⟨k-1,by omega⟩
    have hi:=List.drop_eq_nil_iff.mp h
    simp only[jo.l0]
    rw[if_neg ae]
    rfl
  |cons x r ih=>
    intro k i acc h h1 ha hk
    obtain⟨k,rfl⟩:∃ m,k=m+1:=⟨k-1,by omega⟩
    have hi:i<vs.length:=by
      by_cases hq:i<vs.length
      · exact hq
      · rw[List.drop_eq_nil_iff.mpr ae] at h;cases h
    rw[List.drop_eq_getElem_cons hi] at h
    injection h with h2 h3
    have hx:x.size<=190:=by rw[<- h2];exact hs _ (List.getElem_mem hi)
    have e1:dh ByteArray.empty vs (i:Int)=x:=by
      unfold dh
      simp only[Int.toNat_natCast,List.getD_eq_getElem?_getD,List.getElem?_eq_getElem hi,Option.getD_some]
      exact h2
    have hw:wrap64 ((i:Int)+1)=((i+1:Nat):Int):=by rw[aC ae ae];omega
    have s2:(acc++(⟨#[44,32]⟩:af)).size=acc.size+2:=by rw[ByteArray.size_append];rfl
    have s3:((acc++(⟨#[44,32]⟩:af))++x).size=acc.size+2+x.size:=by rw[ByteArray.size_append,s2]
    simp only[jo.l0,JP]
    rw[if_pos ae,if_pos ae,if_pos ae,if_pos ae,e1,if_pos ae,hw]
    simp only[List.length_cons] at hk
    exact ih k (i+1) _ h3 ae ae ae
theorem ajB {x:ByteArray} {r:List ByteArray} {acc:ByteArray} (h:acc.data.toList=x.data.toList):JP acc r=⟨(joinL (x::r)).toArray⟩:=by
  have e:(JP acc r).data.toList=joinL (x::r):=by
    rw[Vg,h]
    unfold joinL
    rw[List.map_cons,Go.Lib.join_cons]
  have e2:(JP acc r).data=(joinL (x::r)).toArray:=by
    rw[<- e,Array.toArray_toList]
  rw[<- e2]
theorem abd (vs:List ByteArray) (hn:vs.length<=20) (hs:∀ x∈vs,x.size<=190) (k:Nat) (hk:100<k):jo.l0 k vs (⟨#[]⟩:af) 0=some ⟨(joinL vs).toArray⟩:=by
  obtain⟨k,rfl⟩:∃ m,k=m+1:=⟨k-1,by omega⟩
  rw[jo.l0.eq_def]
  dsimp only
  cases vs with
  |nil=>rw[if_neg (by simp)];rfl
  |cons x r=>
    have hx:x.size<=190:=hs x (List.mem_cons_self ..)
    have e1:dh ByteArray.empty (x::r) 0=x:=rfl
    have hw:wrap64 ((0:Int)+1)=((1:Nat):Int):=by rw[aC ae ae];omega
    have s0:(⟨#[]⟩:af).size=0:=rfl
    have s3:((⟨#[]⟩:af)++x).size=x.size:=by rw[ByteArray.size_append,s0];omega
    simp only[List.length_cons] at hn
    rw[if_pos (by simp only[List.length_cons];omega),if_neg ae,if_pos ae,e1,if_pos ae,hw,aeB (x::r) (by simp only[List.length_cons];omega) hs r k 1 _ rfl (Nat.le_refl _) ae ae]
    rw[ajB (x:=x) (by simp)]
theorem Ql (l:List dC) (a:af) (hok:gP l=true):∀ d i out,i+d<=l.length->(∀ x∈out,x.size<=190)->∀ x∈pK l a d i out,x.size<=190:=by
  intro d
  induction d with
  |zero=>intro i out _ h;exact h
  |succ d ih=>
    intro i out hi h
    simp only[pK]
    refine ih (i+1) _ ae ?_
    split
    · intro x hx
      rcases List.mem_append.mp hx with h1|h1
      · exact h x h1
      · obtain rfl:=List.mem_singleton.mp h1
        exact(xG hok i ae).2
    · exact h
theorem zz (l:List dC) (a:af):∀ x∈valuesOf l a,x.size<=190:=by
  unfold valuesOf
  split
  · rename_i h
    exact Ql l a h l.length 0 [] ae (fun x hx=>by cases hx)
  · intro x hx;cases hx
theorem abe : ∀(vs:List ByteArray),(∀ x∈vs,x.size<=190)->Go.Lib.lens (vs.map fun x=>x.data.toList)<=190*vs.length:=by
  intro vs
  induction vs with
  |nil=>intro _;simp[Go.Lib.lens]
  |cons x r ih=>
    intro h
    have h1:=h x (List.mem_cons_self ..)
    have h2:=ih (fun y hy=>h y (List.mem_cons_of_mem _ hy))
    have h3:x.data.toList.length=x.size:=by rw[Array.length_toList];rfl
    simp only[Go.Lib.lens,List.map_cons,List.sum_cons,List.length_cons] at h2 ⊢
    omega
theorem Vh (vs:List ByteArray) (hn:vs.length<=20) (hs:∀ x∈vs,x.size<=190):(joinL vs).length<=5000:=by
  unfold joinL
  cases vs with
  |nil=>simp[Go.Lib.join_nil]
  |cons x r=>
    have h:=abe (x::r) hs
    simp only[List.map_cons] at h ⊢
    rw[Go.Lib.join_length]
    simp only[List.length_cons,List.length_nil,List.length_map] at h hn ⊢
    omega
def joinedOf (l:List dC) (a:af):ByteArray:=⟨(joinL (valuesOf l a)).toArray⟩
theorem Qm (l:List dC) (a:af) (ha:a.size<=140737488351232) (k:Nat) (hk:6000<k):u7.f k l a=some (joinedOf l a):=by
  have h1:=Dy l a
  have h2:=Vh (valuesOf l a) h1 (zz l a)
  unfold u7.f joinedOf
  rw[vT l a ha k hk,ax,if_pos ⟨by omega,by omega⟩]
theorem Qn (l:List dC) (a:af) (ha:a.size<=140737488351232) (k:Nat) (hk:6000<k):jo.f k l a=some (joinedOf l a):=by
  unfold jo.f joinedOf
  rw[zA l a ha k hk,ax]
  exact abd _ (Dy l a) (zz l a) k ae

def gF (l:List dC) (a:af):List ByteArray:=qx (joinedOf l a)
theorem vV (l:List dC) (a:af):(gF l a).length<=4001:=JK _
theorem FL (l:List dC) (a:af) (ha:a.size<=140737488351232) (k:Nat) (hk:20000<k):oG.f k l a=some (gF l a):=by
  unfold oG.f gF
  rw[Qm l a ha k ae,ax,Kt _ k hk,ax]
theorem FJ (l:List dC) (a:af) (ha:a.size<=140737488351232) (k:Nat) (hk:20000<k):oF.f k l a=some (gF l a):=by
  unfold oF.f gF
  rw[Qn l a ha k ae,ax,Ku _ k hk,ax]

theorem afv {l:List ByteArray} {i:Nat} (h:i<l.length):dh ByteArray.empty l (i:Int)∈l:=by
  unfold dh
  rw[Int.toNat_natCast,List.getD_eq_getElem?_getD,List.getElem?_eq_getElem h]
  exact List.getElem_mem h
def Rl : ByteArray:=(⟨#[99,111,110,116,101,110,116,45,108,101,110,103,116,104]⟩:af)
def Rm : ByteArray:=(⟨#[116,114,97,110,115,102,101,114,45,101,110,99,111,100,105,110,103]⟩:af)
def hasB (l:List dC) (a:af):Bool:=decide (0<(valuesOf l a).length)
theorem Aj (l:List dC) (a:af) (ha:a.size<=140737488351232) (k:Nat) (hk:6000<k):jM.f k l a=some (hasB l a):=by
  unfold jM.f hasB
  rw[vT l a ha k hk,ax]
  congr 1
  exact decide_eq_decide.2 ae
def Rn : ByteArray:=(⟨#[116,114,97,105,108,101,114]⟩:af)
def frB (n:af):Bool:=(lG n).toList==([99,111,110,116,101,110,116,45,108,101,110,103,116,104]:aQ)||((lG n).toList==([116,114,97,110,115,102,101,114,45,101,110,99,111,100,105,110,103]:aQ)||(lG n).toList==([116,114,97,105,108,101,114]:aQ))
theorem H5 (l:List dC):gP l=true↔l.length<=20/\∀ f∈l,uj f.f0 f.f1=true:=by
  have back:∀(d i:Nat),i+d=l.length->(∀ f∈l,uj f.f0 f.f1=true)->xB (fun i=>uj (aV l i).f0 (aV l i).f1) d (i:Int)=true:=by
    intro d
    induction d with
    |zero=>intro i _ _;rfl
    |succ d ih=>
      intro i hi hf
      have hlt:i<l.length:=by omega
      have e:aV l (i:Int)=l[i]:=by
        unfold aV
        rw[Int.toNat_natCast,List.getD_eq_getElem?_getD,List.getElem?_eq_getElem hlt]
        rfl
      simp only[xB]
      rw[e,hf _ (List.getElem_mem hlt),Bool.true_and]
      exact ih (i+1) ae hf
  constructor
  · intro h
    refine⟨jD h,fun f hf=>?_⟩
    obtain⟨j,hj,rfl⟩:=List.getElem_of_mem hf
    unfold gP at h
    have h2:=ac8 _ _ (Bool.and_eq_true_iff.1 h).2 j hj
    rw[Int.zero_add] at h2
    have e:aV l (j:Int)=l[j]:=by
      unfold aV
      rw[Int.toNat_natCast,List.getD_eq_getElem?_getD,List.getElem?_eq_getElem hj]
      rfl
    rw[e] at h2
    exact h2
  · intro h
    unfold gP
    rw[bK h.1,Bool.true_and]
    exact back l.length 0 ae h.2
theorem ajR : (lG Rl).toList=([99,111,110,116,101,110,116,45,108,101,110,103,116,104]:aQ):=by decide +kernel
theorem ajS : (lG Rm).toList=([116,114,97,110,115,102,101,114,45,101,110,99,111,100,105,110,103]:aQ):=by decide +kernel
theorem ajT : (lG Rn).toList=([116,114,97,105,108,101,114]:aQ):=by decide +kernel
end Go.Proofs.YtfhllanhldbkkaaGreatDoor.P
end

