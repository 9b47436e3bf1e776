import Derived.Test.YtfhllanhldbkkaaGreatDoorPxlawFnExactFreshAt
import Derived.Lib.CountLaws
import Derived.Lib.Index
import Derived.Lib.IndexBytes
import Derived.Lib.Split
import Derived.Lib.Join
import Derived.Lib.AtoiTie
import Derived.Lib.IndexMore
section
namespace Go.Proofs.YtfhllanhldbkkaaGreatDoor.P
open Go Go.RowKit
set_option linter.unusedVariables false
def ic.Pure : Prop:=∀(a0:af) (a1 a2:Int) (l3:List ET) (a4 a5:af) (a6:Int) (a7:af) (a8:Bool) (l9:List ET) (WM:af) (now:Int),a0.size<=140737488351232->(Lit.int .i64 a1).wf=true->(Lit.int .i64 a2).wf=true->l3.length*32<=140737488351232->l9.length*32<=140737488351232->(Lit.int .i64 now).wf=true->∃ k:Nat,ic.f k a0 a1 a2 l3 a4 a5 a6 a7 a8 l9 WM now=some true
end Go.Proofs.YtfhllanhldbkkaaGreatDoor.P
end

section
namespace Go.Proofs.YtfhllanhldbkkaaGreatDoor.P
open Go.RowKit Go.Proofs.YtfhllanhldbkkaaGreatDoorW.aW Go.Proofs.YtfhllanhldbkkaaGreatDoorW.eQ Go.Proofs.YtfhllanhldbkkaaGreatDoorW.fO
set_option linter.unusedVariables false
set_option linter.unusedSimpArgs false
set_option maxHeartbeats 2000000
theorem ak {x:Int} (h:-9223372036854775808<=x) (h':x<=9223372036854775807):wrap64 x=x:=by unfold wrap64;omega
theorem size_extract (s:af) (a b:Nat):(s.extract a b).size=min b s.size-a:=ByteArray.size_extract
theorem iH (s:af) (a b:Nat) (i:Int) (h0:0<=i) (h1:i<(b:Int)-a) (h2:b<=s.size):bt (s.extract a b) i=bt s (a+i):=by
  obtain⟨n,rfl⟩:=Int.eq_ofNat_of_zero_le h0
  unfold bt
  have e:((a:Int)+(n:Int)).toNat=a+n:=by omega
  rw[e]
  have h3:n<(s.extract a b).size:=by rw[ByteArray.size_extract];omega
  rw[dif_pos (show((n:Int)).toNat<(s.extract a b).size by simpa using h3),dif_pos (show a+n<s.size by omega)]
  simp only[Int.toNat_natCast]
  rw[ByteArray.getElem_extract]

theorem toList_nil (s:af):s.toList=([]:aM)↔s.size=0:=by
  rw[ByteArray.toList_eq]
  constructor
  · intro h
    have:=congrArg List.length h
    rw[fP] at this
    simpa using this
  · intro h
    apply List.eq_nil_of_length_eq_zero
    rw[fP];exact h
def ws (c:Int):Bool:=decide (c=32)||decide (c=9)
theorem zV (c:Int):pG.f c=some (ws c):=by
  unfold pG.f ws
  by_cases h:c=32
  · rw[if_pos h];simp[h]
  · rw[if_neg h]
    by_cases h2:c=9 <;> simp[h,h2]
theorem MI (c:Int):rU.f c=some (ws c):=zV c
def lead (s:af):Nat->Nat->Nat
  |0,i=>i
  |d+1,i=>if ws (bt s (i:Int))=true then lead s d (i+1) else i
def back (s:af):Nat->Nat->Nat
  |0,j=>j
  |d+1,j=>if ws (bt s ((j-1:Nat):Int))=true then back s d (j-1) else j
def trimS (s:af):ByteArray:=s.extract (lead s s.size 0) (back s (s.size-lead s s.size 0) s.size)
theorem mO (s:af):(trimS s).size<=s.size:=by
  unfold trimS
  rw[size_extract]
  omega
theorem BS (s:af) (hs:s.size<=140737488351232):∀(d k a j:Nat),a<=j->j<=s.size->j-a=d->d<k->cz.l1 k s (a:Int) (j:Int)=some (s.extract a (back s d j)):=by
  intro d
  induction d with
  |zero=>
    intro k a j h1 h2 hd hk
    obtain⟨k,rfl⟩:∃ m,k=m+1:=⟨k-1,by omega⟩
    simp only[cz.l1]
    rw[if_neg aa,if_pos aa,if_pos aa,if_pos aa]
    rfl
  |succ d ih=>
    intro k a j h1 h2 hd hk
    obtain⟨k,rfl⟩:∃ m,k=m+1:=⟨k-1,by omega⟩
    simp only[cz.l1]
    have hw:wrap64 ((j:Int)-1)=((j-1:Nat):Int):=by rw[ak aa aa];omega
    rw[if_pos aa,hw,if_pos aa,if_pos aa,MI,aj]
    simp only[back]
    by_cases hb:ws (bt s ((j-1:Nat):Int))=true
    · rw[if_pos hb,if_pos hb]
      exact ih k a (j-1) aa aa aa aa
    · rw[if_neg hb,if_neg hb,if_pos aa,if_pos aa,if_pos aa]
      rfl
theorem KA (s:af) (hs:s.size<=140737488351232):∀(d k i:Nat),i<=s.size->s.size-i=d->d+s.size+3<k->cz.l0 k s (i:Int)=some (s.extract (lead s d i) (back s (s.size-lead s d i) s.size)):=by
  intro d
  induction d with
  |zero=>
    intro k i h1 hd hk
    obtain⟨k,rfl⟩:∃ m,k=m+2:=⟨k-2,by omega⟩
    simp only[cz.l0]
    rw[if_neg aa]
    simp only[cz.j1,lead]
    exact BS s hs _ k i s.size h1 (Nat.le_refl _) rfl aa
  |succ d ih=>
    intro k i h1 hd hk
    obtain⟨k,rfl⟩:∃ m,k=m+2:=⟨k-2,by omega⟩
    rw[cz.l0.eq_def]
    have hw:wrap64 ((i:Int)+1)=((i+1:Nat):Int):=by rw[ak aa aa];omega
    dsimp only
    rw[if_pos aa,if_pos aa,MI,aj]
    simp only[lead]
    by_cases hb:ws (bt s (i:Int))=true
    · rw[if_pos hb,if_pos hb,hw]
      exact ih (k+1) (i+1) aa aa aa
    · rw[if_neg hb,if_neg hb]
      simp only[cz.j1]
      exact BS s hs _ k i s.size h1 (Nat.le_refl _) rfl aa
theorem BV (s:af) (hs:s.size<=140737488351232):∀(d k a j:Nat),a<=j->j<=s.size->j-a=d->d<k->dK.l1 k (s.extract a j)=some (s.extract a (back s d j)):=by
  intro d
  induction d with
  |zero=>
    intro k a j h1 h2 hd hk
    obtain⟨k,rfl⟩:∃ m,k=m+1:=⟨k-1,by omega⟩
    simp only[dK.l1]
    rw[if_pos ((toList_nil _).2 (by rw[size_extract];omega))]
    rfl
  |succ d ih=>
    intro k a j h1 h2 hd hk
    obtain⟨k,rfl⟩:∃ m,k=m+1:=⟨k-1,by omega⟩
    have hz:(s.extract a j).size=d+1:=by rw[size_extract];omega
    simp only[dK.l1]
    have hw:wrap64 (((s.extract a j).size:Int)-1)=((d:Nat):Int):=by rw[hz,ak aa aa];omega
    have hb0:bt (s.extract a j) ((d:Nat):Int)=bt s ((j-1:Nat):Int):=by
      rw[iH s a j _ aa aa h2]
      congr 1;omega
    rw[if_neg (fun h=>by have:=(toList_nil _).1 h;omega),hw,if_pos aa,if_pos aa,zV,aj,Int.toNat_natCast,ByteArray.extract_extract,hb0]
    simp only[back]
    have he:s.extract (a+0) (min (a+d) j)=s.extract a (j-1):=by congr 1;omega
    by_cases hb:ws (bt s ((j-1:Nat):Int))=true
    · rw[if_pos hb,if_pos hb,if_pos aa,he]
      exact ih k a (j-1) aa aa aa aa
    · rw[if_neg hb,if_neg hb]
theorem KC (s:af) (hs:s.size<=140737488351232):∀(d k i:Nat),i<=s.size->s.size-i=d->d+s.size+3<k->dK.l0 k (s.extract i s.size)=some (s.extract (lead s d i) (back s (s.size-lead s d i) s.size)):=by
  intro d
  induction d with
  |zero=>
    intro k i h1 hd hk
    obtain⟨k,rfl⟩:∃ m,k=m+2:=⟨k-2,by omega⟩
    rw[dK.l0.eq_def]
    dsimp only
    rw[if_pos ((toList_nil _).2 (by rw[size_extract];omega))]
    simp only[dK.j1,lead]
    exact BV s hs _ k i s.size h1 (Nat.le_refl _) rfl aa
  |succ d ih=>
    intro k i h1 hd hk
    obtain⟨k,rfl⟩:∃ m,k=m+2:=⟨k-2,by omega⟩
    have hz:(s.extract i s.size).size=d+1:=by rw[size_extract];omega
    rw[dK.l0.eq_def]
    dsimp only
    have hb0:bt (s.extract i s.size) 0=bt s (i:Int):=by
      rw[iH s i s.size 0 aa aa (Nat.le_refl _)]
      congr 1
    have he:(s.extract i s.size).extract 1 (s.extract i s.size).size=s.extract (i+1) s.size:=by
      rw[ByteArray.extract_extract,hz];congr 1;omega
    rw[if_neg (fun h=>by have:=(toList_nil _).1 h;omega),if_pos aa,zV,aj,hb0,he]
    simp only[lead]
    by_cases hb:ws (bt s (i:Int))=true
    · rw[if_pos hb,if_pos hb,if_pos aa]
      exact ih (k+1) (i+1) aa aa aa
    · rw[if_neg hb,if_neg hb]
      simp only[dK.j1]
      exact BV s hs _ k i s.size h1 (Nat.le_refl _) rfl aa
theorem nz (s:af) (hs:s.size<=140737488351232) (k:Nat) (hk:2*s.size+3<k):cz.f k s=some (trimS s):=by
  unfold cz.f trimS
  exact KA s hs s.size k 0 (Nat.zero_le _) aa aa
theorem lM (s:af) (hs:s.size<=140737488351232) (k:Nat) (hk:2*s.size+3<k):dK.f k s=some (trimS s):=by
  unfold dK.f trimS
  have h:=KC s hs s.size k 0 (Nat.zero_le _) aa aa
  rw[ByteArray.extract_zero_size] at h
  exact h

def fin (s:af) (out:List ByteArray) (a:Nat):List ByteArray:=zD out (trimS (s.extract a s.size))
def M6 (s:af):Nat->List ByteArray->Nat->Bool->Nat->List ByteArray
  |0,out,a,_,_=>fin s out a
  |d+1,out,a,q,i=>
    if bt s (i:Int)=34 then M6 s d out a (!q) (i+1)
    else if q=true/\bt s (i:Int)=92 then(match d with|0=>fin s out a|e+1=>M6 s e out a q (i+2))
    else if q=false/\bt s (i:Int)=44 then M6 s d (zD out (trimS (s.extract a i))) (i+1) q (i+1)
    else M6 s d out a q (i+1)
theorem xS (s:af) (d:Nat) (out:List ByteArray) (a:Nat) (q:Bool) (i:Nat):M6 s (d+1) out a q i =
    if bt s (i:Int)=34 then M6 s d out a (!q) (i+1)
    else if q=true/\bt s (i:Int)=92 then(match d with|0=>fin s out a|e+1=>M6 s e out a q (i+2))
    else if q=false/\bt s (i:Int)=44 then M6 s d (zD out (trimS (s.extract a i))) (i+1) q (i+1)
    else M6 s d out a q (i+1):=by
  rw[M6.eq_def]
theorem oJ (out:List ByteArray) (t:af):(zD out t).length<=out.length+1:=by
  unfold zD
  split
  · omega
  · simp
theorem ym (s:af) (hs:s.size<=4000) (k:Nat) (hk:2*s.size+3<k) (out:List ByteArray) (hl:out.length<=5000) (a:Nat) (ha:a<=s.size) (q:Bool) (i:Int) (hi:(s.size:Int)<=i) :
    eG.l0 (k+1) s out (a:Int) q i=some (fin s out a):=by
  have hz:(s.extract a s.size).size<=s.size:=by rw[size_extract];omega
  simp only[eG.l0]
  rw[if_neg aa,if_pos aa,if_pos aa,if_pos aa,Int.toNat_natCast,lM _ aa k aa]
  rfl
theorem ZN (s:af) (hs:s.size<=4000):∀(n d:Nat),d<=n->∀(k:Nat) (out:List ByteArray) (a:Nat) (q:Bool) (i:Nat),i<=s.size->s.size-i=d->a<=i->out.length<=i->d+2*s.size+5<k->
    eG.l0 k s out (a:Int) q (i:Int)=some (M6 s d out a q i):=by
  intro n
  induction n with
  |zero=>
    intro d hdn k out a q i hi hd ha hl hk
    obtain rfl:d=0:=by omega
    obtain⟨k,rfl⟩:∃ m,k=m+1:=⟨k-1,by omega⟩
    exact ym s hs k aa out aa a aa q i aa
  |succ n ih=>
    intro d hdn k out a q i hi hd ha hl hk
    obtain⟨k,rfl⟩:∃ m,k=m+1:=⟨k-1,by omega⟩
    cases d with
    |zero=>exact ym s hs k aa out aa a aa q i aa
    |succ d=>
      have hw:wrap64 ((i:Int)+1)=((i+1:Nat):Int):=by rw[ak aa aa];omega
      have hw2:wrap64 (((i+1:Nat):Int)+1)=((i+2:Nat):Int):=by rw[ak aa aa];omega
      simp only[eG.l0]
      rw[xS]
      rw[if_pos aa,if_pos aa,hw,hw2]
      by_cases c1:bt s (i:Int)=34
      · rw[if_pos c1,if_pos c1]
        exact ih d aa k out a (!q) (i+1) aa aa aa aa aa
      · rw[if_neg c1,if_neg c1]
        by_cases c2:q=true/\bt s (i:Int)=92
        · rw[if_pos c2,if_pos c2]
          cases d with
          |zero=>
            obtain⟨k,rfl⟩:∃ m,k=m+1:=⟨k-1,by omega⟩
            exact ym s hs k aa out aa a aa q _ aa
          |succ e=>exact ih e aa k out a q (i+2) aa aa aa aa aa
        · rw[if_neg c2,if_neg c2]
          by_cases c3:q=false/\bt s (i:Int)=44
          · have hz:(s.extract a i).size<=s.size:=by rw[size_extract];omega
            rw[if_pos c3,if_pos c3,if_pos aa,if_pos aa,if_pos aa,Int.toNat_natCast,Int.toNat_natCast,lM _ aa k aa,aj]
            exact ih d aa k _ (i+1) q (i+1) aa aa aa (by have:=oJ out (trimS (s.extract a i));omega) aa
          · rw[if_neg c3,if_neg c3]
            exact ih d aa k out a q (i+1) aa aa aa aa aa
theorem MJ (s:af) (k:Nat) (out:List ByteArray) (hl:out.length<=5000) (x:af) (hx:x.size<=4000) (hk:2*x.size+3<k) (g:List ByteArray->Option (List ByteArray)) :
    ((cz.f k x).bind fun t=>if(t.size:Int)>0 then(if out.length<8796093022208 then g (out ++ [t]) else none) else g out)=g (zD out (trimS x)):=by
  rw[nz x aa k hk,aj]
  unfold zD
  by_cases h:(trimS x).toList=([]:aM)
  · have:=(toList_nil _).1 h
    rw[if_pos h,if_neg aa]
  · have:(trimS x).size≠0:=fun e=>h ((toList_nil _).2 e)
    rw[if_neg h,if_pos aa,if_pos aa]
theorem yn (s:af) (hs:s.size<=4000) (k:Nat) (hk:2*s.size+5<k) (out:List ByteArray) (hl:out.length<=5000) (a:Nat) (ha:a<=s.size) (q:Bool) :
    aY.l0 (k+2) s out (a:Int) q (s.size:Int)=some (fin s out a):=by
  have hz:(s.extract a s.size).size<=s.size:=by rw[size_extract];omega
  have hw:wrap64 ((s.size:Int)+1)=((s.size+1:Nat):Int):=by rw[ak aa aa];omega
  rw[aY.l0.eq_def]
  dsimp only
  rw[if_pos aa,if_pos rfl,aY.j1.eq_def]
  dsimp only
  rw[if_pos rfl,if_pos aa,if_pos aa,if_pos aa,Int.toNat_natCast,Int.toNat_natCast,hw]
  rw[MJ s k out hl (s.extract a s.size) aa aa (fun o=>aY.l0 k s o ((s.size+1:Nat):Int) q ((s.size+1:Nat):Int))]
  obtain⟨k,rfl⟩:∃ m,k=m+1:=⟨k-1,by omega⟩
  rw[aY.l0.eq_def]
  dsimp only
  rw[if_neg aa]
  rfl
theorem ZO (s:af) (hs:s.size<=4000):∀(n d:Nat),d<=n->∀(k:Nat) (out:List ByteArray) (a:Nat) (q:Bool) (i:Nat),i<=s.size->s.size-i=d->a<=i->out.length<=i->2*d+2*s.size+9<k->
    aY.l0 k s out (a:Int) q (i:Int)=some (M6 s d out a q i):=by
  intro n
  induction n with
  |zero=>
    intro d hdn k out a q i hi hd ha hl hk
    obtain rfl:d=0:=by omega
    obtain⟨k,rfl⟩:∃ m,k=m+2:=⟨k-2,by omega⟩
    obtain rfl:i=s.size:=by omega
    exact yn s hs k aa out aa a aa q
  |succ n ih=>
    intro d hdn k out a q i hi hd ha hl hk
    obtain⟨k,rfl⟩:∃ m,k=m+2:=⟨k-2,by omega⟩
    cases d with
    |zero=>
      obtain rfl:i=s.size:=by omega
      exact yn s hs k aa out aa a aa q
    |succ d=>
      have hw:wrap64 ((i:Int)+1)=((i+1:Nat):Int):=by rw[ak aa aa];omega
      have hw2:wrap64 (((i+1:Nat):Int)+1)=((i+2:Nat):Int):=by rw[ak aa aa];omega
      have hno:∀(b:Bool),(q=true∨bt s (i:Int)≠44)->aY.j1 (k+1) s out (a:Int) q (i:Int) false=some (M6 s (d+1) out a q i):=by
        intro b hq
        rw[aY.j1.eq_def]
        dsimp only
        rw[if_neg av,if_pos aa,if_pos aa,hw,hw2]
        rw[xS]
        by_cases c1:bt s (i:Int)=34
        · rw[if_pos c1,if_pos c1]
          exact ih d aa k out a (!q) (i+1) aa aa aa aa aa
        · rw[if_neg c1,if_neg c1]
          by_cases c2:q=true
          · rw[if_pos c2]
            by_cases c3:bt s (i:Int)=92
            · rw[if_pos c3,if_pos (show q=true/\bt s (i:Int)=92 from⟨c2,c3⟩)]
              cases d with
              |zero=>
                rw[if_neg aa]
                obtain⟨k,rfl⟩:∃ m,k=m+2:=⟨k-2,by omega⟩
                have:((i+1:Nat):Int)=(s.size:Int):=by omega
                rw[this]
                exact yn s hs k aa out aa a aa q
              |succ e=>
                rw[if_pos aa]
                exact ih e aa k out a q (i+2) aa aa aa aa aa
            · rw[if_neg c3,if_neg (fun z=>c3 z.2),if_neg (fun z=>by rw[c2] at z;cases z.1)]
              exact ih d aa k out a q (i+1) aa aa aa aa aa
          · rw[if_neg c2,if_neg (fun z=>c2 z.1),if_neg (fun z=>by rcases hq with h|h;exact c2 h;exact h z.2)]
            exact ih d aa k out a q (i+1) aa aa aa aa aa
      rw[aY.l0.eq_def]
      dsimp only
      rw[if_pos aa,if_neg aa]
      by_cases c2:q=true
      · rw[if_pos c2]
        exact hno true (.inl c2)
      · rw[if_neg c2,if_pos aa,if_pos aa]
        by_cases c3:bt s (i:Int)=44
        · have hz:(s.extract a i).size<=s.size:=by rw[size_extract];omega
          rw[show((bt s (i:Int))==44)=true from beq_iff_eq.mpr c3,aY.j1.eq_def]
          dsimp only
          rw[if_pos rfl,if_pos aa,if_pos aa,if_pos aa,Int.toNat_natCast,Int.toNat_natCast,hw]
          rw[MJ s k out aa (s.extract a i) aa aa (fun o=>aY.l0 k s o ((i+1:Nat):Int) q ((i+1:Nat):Int))]
          rw[xS,if_neg aa,if_neg (fun z=>c2 z.1),if_pos ⟨by simpa using c2,c3⟩]
          exact ih d aa k _ (i+1) q (i+1) aa aa aa (by have:=oJ out (trimS (s.extract a i));omega) aa
        · rw[show((bt s (i:Int))==44)=false from beq_eq_false_iff_ne.mpr c3]
          exact hno true (.inr c3)
def kQ (s:af):List ByteArray:=if(s.size:Int)>4000 then [] else M6 s s.size [] 0 false 0
theorem CU (s:af) (k:Nat) (hk:20000<k):eG.f k s=some (kQ s):=by
  unfold eG.f kQ
  by_cases h:(s.size:Int)>4000
  · rw[if_pos h,if_pos h]
  · rw[if_neg h,if_neg h]
    exact ZN s aa s.size s.size (Nat.le_refl _) k [] 0 false 0 (Nat.zero_le _) aa (Nat.le_refl _) (Nat.le_refl _) aa
theorem CV (s:af) (k:Nat) (hk:20000<k):aY.f k s=some (kQ s):=by
  unfold aY.f kQ
  by_cases h:(s.size:Int)>4000
  · rw[if_pos h,if_pos h]
  · rw[if_neg h,if_neg h]
    exact ZO s aa s.size s.size (Nat.le_refl _) k [] 0 false 0 (Nat.zero_le _) aa (Nat.le_refl _) (Nat.le_refl _) aa
theorem OL (s:af):∀(n d:Nat),d<=n->∀(out:List ByteArray) (a:Nat) (q:Bool) (i:Nat),(M6 s d out a q i).length<=out.length+d+1:=by
  intro n
  induction n with
  |zero=>
    intro d hdn out a q i
    obtain rfl:d=0:=by omega
    exact oJ _ _
  |succ n ih=>
    intro d hdn out a q i
    cases d with
    |zero=>exact oJ _ _
    |succ d=>
      rw[xS]
      split
      · have:=ih d aa out a (!q) (i+1);omega
      · split
        · cases d with
          |zero=>have:=oJ out (trimS (s.extract a s.size));exact Nat.le_trans this aa
          |succ e=>have:=ih e aa out a q (i+2);exact Nat.le_trans this aa
        · split
          · have:=ih d aa (zD out (trimS (s.extract a i))) (i+1) q (i+1)
            have:=oJ out (trimS (s.extract a i))
            omega
          · have:=ih d aa out a q (i+1);omega
theorem BX (s:af):(kQ s).length<=4001:=by
  unfold kQ
  by_cases h:(s.size:Int)>4000
  · rw[if_pos h];exact Nat.zero_le _
  · rw[if_neg h]
    have:=OL s s.size s.size (Nat.le_refl _) [] 0 false 0
    simp at this
    omega

theorem dR (m:Nat) (h:m<=4611686018427387904):wrap64 ((m:Int)+1)=((m+1:Nat):Int):=by
  rw[ak aa aa];omega
theorem Rs (m:Nat) (h:m<=4611686018427387904) (h1:1<=m):wrap64 ((m:Int)-1)=((m-1:Nat):Int):=by
  rw[ak aa aa];omega
theorem CW (s:af):s.data.toList.length=s.size:=Array.length_toList
theorem dZ {s:ByteArray} {n:Nat} {b:UInt8} (h:s.data.toList[n]? = some b):n<s.size/\bt s (n:Int)=(b.toNat:Int):=by
  obtain⟨h1,h2⟩:=List.getElem?_eq_some_iff.mp h
  have h3:n<s.size:=by rw[CW] at h1;exact h1
  refine⟨h3,?_⟩
  unfold bt
  rw[dif_pos (show((n:Int)).toNat<s.size by simpa using h3)]
  simp only[Int.toNat_natCast]
  rw[<- h2]
  rfl
theorem Qo {s:ByteArray} {n:Nat} (h:n<s.size):∃ b:UInt8,s.data.toList[n]? = some b/\bt s (n:Int)=(b.toNat:Int):=by
  have h1:n<s.data.toList.length:=by rw[CW];exact h
  exact⟨s.data.toList[n],List.getElem?_eq_getElem h1,(dZ (List.getElem?_eq_getElem h1)).2⟩
theorem Bn (s:af) (a b:Nat):(s.extract a b).data.toList=(s.data.toList.take b).drop a:=by
  rw[ByteArray.data_extract,Array.toList_extract,List.extract_eq_take_drop,List.take_drop]
  by_cases h:a<=b
  · rw[show a+(b-a)=b by omega]
  · rw[show a+(b-a)=a by omega,List.drop_of_length_le (by simp;omega),List.drop_of_length_le (by simp;omega)]
theorem yH (s:af) (a b c d:Nat) (h:a+d<=b):(s.extract a b).extract c d=s.extract (a+c) (a+d):=by
  rw[ByteArray.extract_extract,Nat.min_eq_left h]
theorem aN (k:Nat) (h:0<k):∃ q,k=q+1:=⟨k-1,by omega⟩
def qj (p:Int->Bool):Nat->Int->Bool
  |0,_=>true
  |d+1,i=>p i&&qj p d (i+1)
theorem Wn (F:Nat->Int->Option Bool) (n:Nat) (p:Int->Bool) (K0:Nat) (stop:∀ k (i:Int),(n:Int)<=i->F (k+1) i=some true)
    (step:∀ k (i:Int),0<=i->i<n->K0<=k->F (k+1) i=if p i=true then F k (i+1) else some false) :
    ∀(d k:Nat) (i:Int),0<=i->(n:Int)-i=d->d+K0<k->F k i=some (qj p d i):=by
  intro d
  induction d with
  |zero=>
    intro k i h0 hd hk
    obtain⟨k,rfl⟩:∃ m,k=m+1:=⟨k-1,by omega⟩
    rw[stop k i aa]
    rfl
  |succ d ih=>
    intro k i h0 hd hk
    obtain⟨k,rfl⟩:∃ m,k=m+1:=⟨k-1,by omega⟩
    rw[step k i h0 aa aa,ih k (i+1) aa aa aa]
    simp only[qj]
    cases p i <;> simp
theorem pM (F:Nat->Int->Option Bool) (n:Nat) (p:Int->Bool) (K0:Nat) (stop:∀ k (i:Int),(n:Int)<=i->F (k+1) i=some true)
    (step:∀ k (i:Int),0<=i->i<n->K0<=k->F (k+1) i=if p i=true then F k (i+1) else some false) (k:Nat) (hk:n+K0<k):F k 0=some (qj p n 0):=
  Wn F n p K0 stop step n k 0 aa aa hk

def nE (c:Int):Int:=(eH.f 3 c).getD (-1)
theorem KD : ∀ n:Fin 256,(eH.f 3 (n.val:Int)==some (nE (n.val:Int))&&decide (-1<=nE (n.val:Int))&&decide (nE (n.val:Int)<=15))=true:=by decide +kernel
theorem pO (c:Int) (h0:0<=c) (h1:c<=255) (k:Nat) (hk:3<=k):eH.f k c=some (nE c)/\-1<=nE c/\nE c<=15:=by
  obtain⟨n,rfl⟩:=Int.eq_ofNat_of_zero_le h0
  have h:=KD ⟨n,by omega⟩
  simp only[Bool.and_eq_true,decide_eq_true_eq,beq_iff_eq] at h
  exact⟨Cr (g:=fun k=>eH.f k (n:Int)) (fun k=>eH.mono (n:Int) k) hk h.1.1,h.1.2,h.2⟩
def ZP (x4 c:Int) (f:Int->Option (Int×Bool)):Option (Int×Bool):=
  (kP.f c).bind fun t=>(dQ.f t).bind fun d=>if d=true then f (wrap64 ((wrap64 (x4*16))+((t-48)%256))) else if t>=97 then(if t<=102 then f (wrap64 ((wrap64 ((wrap64 (x4*16))+((t-97)%256)))+10)) else some (0,false)) else some (0,false)
def ak5 (c:Int):Int:=match kP.f c with
  |some t=>match dQ.f t with
    |some true=>(t-48)%256
    |some false=>if t>=97 then(if t<=102 then(t-97)%256+10 else -1) else -1
    |none=>-2
  |none=>-2
theorem KE : ∀ n:Fin 256,(ak5 (n.val:Int)==nE (n.val:Int))=true:=by decide +kernel
theorem Qp (c:Int) (h0:0<=c) (h1:c<=255) (x4:Int) (hx:0<=x4) (hx2:x4<=268435456) (f:Int->Option (Int×Bool)) :
    ZP x4 c f=if nE c<0 then some (0,false) else f (16*x4+nE c):=by
  obtain⟨n,rfl⟩:=Int.eq_ofNat_of_zero_le h0
  have h:=beq_iff_eq.1 (KE ⟨n,by omega⟩)
  have hr:=pO (n:Int) h0 h1 3 (Nat.le_refl _)
  simp only at h
  unfold ZP
  unfold ak5 at h
  have hw16:wrap64 (x4*16)=x4*16:=ak aa aa
  cases hl:kP.f (n:Int) with
  |none=>rw[hl] at h;simp only at h;omega
  |some t=>
    rw[hl] at h
    simp only at h
    rw[aj]
    cases hd:dQ.f t with
    |none=>rw[hd] at h;simp only at h;omega
    |some d=>
      rw[hd] at h
      rw[aj,hw16]
      cases d with
      |true=>
        simp only at h
        rw[if_pos rfl,if_neg aa,ak aa aa]
        congr 1;omega
      |false=>
        simp only at h
        rw[if_neg av]
        by_cases h97:t>=97
        · rw[if_pos h97] at h ⊢
          by_cases ak6:t<=102
          · rw[if_pos ak6] at h ⊢
            rw[if_neg aa,ak (x:=x4*16+(t-97)%256) aa aa,ak aa aa]
            congr 1;omega
          · rw[if_neg ak6] at h ⊢
            rw[if_pos aa]
        · rw[if_neg h97] at h ⊢
          rw[if_pos aa]
theorem eT (s:af) (i:Int):0<=bt s i/\bt s i<=255:=by
  unfold bt
  split
  · rename_i h
    have:=(s[i.toNat]).toNat_lt
    omega
  · omega
theorem pV (a b c:Int):dB.f a b c=some (decide (b<=a/\a<=c)):=by
  unfold dB.f
  by_cases h:b<=a
  · rw[if_pos h];simp[h]
  · rw[if_neg h];simp[h]

def OM (c:Int):Bool:=(kI.f c).getD false
theorem KF : ∀ n:Fin 256,kI.f (n.val:Int)=some (OM (n.val:Int)):=by decide +kernel
theorem KG : ∀ n:Fin 256,ko.f 20 (n.val:Int)=some (OM (n.val:Int)):=by decide +kernel
theorem Gm (c:Int) (h0:0<=c) (h1:c<=255):kI.f c=some (OM c):=by
  obtain⟨n,rfl⟩:=Int.eq_ofNat_of_zero_le h0
  exact KF ⟨n,by omega⟩
theorem Wo (c:Int) (h0:0<=c) (h1:c<=255) (k:Nat) (hk:20<=k):ko.f k c=some (OM c):=by
  obtain⟨n,rfl⟩:=Int.eq_ofNat_of_zero_le h0
  exact Cr (g:=fun k=>ko.f k (n:Int)) (fun k=>ko.mono (n:Int) k) hk (KG ⟨n,by omega⟩)
def Hf (s:af):Bool:=decide (1<=s.size/\s.size<=4000)&&qj (fun i=>OM (bt s i)) s.size 0
theorem yU (s:af) (k:Nat) (hk:5000<k):pz.f k s=some (Hf s):=by
  unfold pz.f Hf
  rw[pV,aj]
  by_cases h:1<=s.size/\s.size<=4000
  · rw[if_pos (aQ aa),aQ h,Bool.true_and]
    unfold bS.f
    rw[pM (fun k i=>bS.l0 k s i) s.size (fun i=>OM (bt s i)) 0 (fun k i hi=>by simp only[bS.l0];rw[if_neg aa])
      (fun k i h0 h1 _=>by
        have hb:=eT s i
        simp only[bS.l0]
        rw[if_pos h1,if_pos h0,Gm _ hb.1 hb.2,aj,ak aa aa]) k aa]
    rfl
  · rw[if_neg (by simp;omega),aT h,Bool.false_and]
theorem yS (s:af) (k:Nat) (hk:5000<k):eO.f k s=some (Hf s):=by
  obtain⟨k,rfl⟩:∃ m,k=m+1:=⟨k-1,by omega⟩
  unfold eO.f Hf
  by_cases h0:(s.size:Int)=0
  · rw[if_pos h0,aT aa,Bool.false_and]
    simp[eO.j0]
  · rw[if_neg h0]
    simp only[eO.j0]
    by_cases h:1<=s.size/\s.size<=4000
    · rw[if_neg (by simp;omega),aQ h,Bool.true_and]
      exact pM (fun k i=>eO.l0 k s i) s.size (fun i=>OM (bt s i)) 20 (fun k i hi=>by simp only[eO.l0];rw[if_neg aa])
        (fun k i h0 h1 hk=>by
          have hb:=eT s i
          simp only[eO.l0]
          rw[if_pos h1,if_pos h0,Wo _ hb.1 hb.2 k hk,aj,ak aa aa]) k aa
    · rw[if_pos (by simp;omega),aT h,Bool.false_and]
def Pq (c:Int):Bool:=decide (c=9)||(decide (32<=c)&&decide (c≠127))
theorem wS (c:Int):lD.f c=some (Pq c):=by
  unfold lD.f Pq
  by_cases h:c=9
  · rw[if_pos h];simp[h]
  · rw[if_neg h]
    by_cases h2:c>=32
    · rw[if_pos h2]
      by_cases h3:c=127 <;> simp[h,h2,h3]
    · rw[if_neg h2];simp[h,h2]
theorem zQ (c:Int):mf.f c=some (Pq c):=wS c
def uY (s:af):Bool:=qj (fun i=>Pq (bt s i)) s.size 0
theorem yT (s:af) (hs:s.size<=140737488351232) (k:Nat) (hk:s.size<k):bM.f k s=some (uY s):=by
  unfold bM.f uY
  exact pM (fun k i=>bM.l0 k s i) s.size (fun i=>Pq (bt s i)) 0 (fun k i hi=>by simp only[bM.l0];rw[if_neg aa])
    (fun k i h0 h1 _=>by
      simp only[bM.l0]
      rw[if_pos h1,if_pos h0,wS,aj,ak aa aa]) k aa
theorem yR (s:af) (hs:s.size<=140737488351232) (k:Nat) (hk:s.size<k):fG.f k s=some (uY s):=by
  unfold fG.f uY
  exact pM (fun k i=>fG.l0 k s i) s.size (fun i=>Pq (bt s i)) 0 (fun k i hi=>by simp only[fG.l0];rw[if_neg aa])
    (fun k i h0 h1 _=>by
      simp only[fG.l0]
      rw[if_pos h1,if_pos h0,zQ,aj,ak aa aa]) k aa

def nT (n v:af):Bool:=decide (n.size<=40)&&(Hf n&&(decide (v.size<=190)&&(uY v&&((trimS v).toList==v.toList))))
theorem Eo (n v:af) (k:Nat) (hk:5000<k):gM.f k n v=some (nT n v):=by
  unfold gM.f nT
  rw[yU n k hk,aj]
  by_cases h1:Hf n=true
  · rw[if_pos h1,h1,Bool.true_and]
    by_cases h2:n.size<=40
    · rw[if_pos aa,aQ h2,Bool.true_and]
      by_cases h3:v.size<=190
      · rw[if_pos aa,aQ h3,Bool.true_and,yT v aa k aa,aj]
        by_cases h4:uY v=true
        · rw[if_pos h4,h4,Bool.true_and,lM v aa k aa];rfl
        · rw[if_neg h4];simp[h4]
      · rw[if_neg aa,aT h3,Bool.false_and]
    · rw[if_neg aa,aT h2,Bool.false_and]
  · rw[if_neg h1];simp[h1]
theorem xe (n v:af) (k:Nat) (hk:5000<k):kN.f k n v=some (nT n v):=by
  unfold kN.f nT
  by_cases h2:n.size<=40
  · rw[if_pos aa,aQ h2,Bool.true_and,yS n k hk,aj]
    by_cases h1:Hf n=true
    · rw[if_pos h1,h1,Bool.true_and]
      by_cases h3:v.size<=190
      · rw[if_pos aa,aQ h3,Bool.true_and,yR v aa k aa,aj]
        by_cases h4:uY v=true
        · rw[if_pos h4,h4,Bool.true_and,nz v aa k aa];rfl
        · rw[if_neg h4];simp[h4]
      · rw[if_neg aa,aT h3,Bool.false_and]
    · rw[if_neg h1];simp[h1]
  · rw[if_neg aa,aT h2,Bool.false_and]
abbrev aH := j6
def bZ (l:List aH):Bool:=decide (l.length<=20)&&qj (fun i=>nT (bF l i).f0 (bF l i).f1) l.length 0
theorem ni (l:List aH) (k:Nat) (hk:6000<k):fB.f k l=some (bZ l):=by
  unfold fB.f bZ
  by_cases h:l.length<=20
  · rw[if_neg aa,aQ h,Bool.true_and]
    exact pM (fun k i=>fB.l0 k l (l.length:Int) i) l.length _ 5001 (fun k i hi=>by simp only[fB.l0];rw[if_neg aa])
      (fun k i h0 h1 hk=>by
        simp only[fB.l0]
        rw[if_pos h1,if_pos h0,if_pos h1,Eo _ _ k aa,aj,ak aa aa]) k aa
  · rw[if_pos aa,aT h,Bool.false_and]
theorem qd (l:List aH) (k:Nat) (hk:6000<k):fJ.f k l=some (bZ l):=by
  unfold fJ.f bZ
  by_cases h:l.length<=20
  · rw[if_neg aa,aQ h,Bool.true_and]
    exact pM (fun k i=>fJ.l0 k l i) l.length _ 5001 (fun k i hi=>by simp only[fJ.l0];rw[if_neg aa])
      (fun k i h0 h1 hk=>by
        simp only[fJ.l0]
        rw[if_pos h1,if_pos h0,xe _ _ k aa,aj,ak aa aa]) k aa
  · rw[if_pos aa,aT h,Bool.false_and]
theorem eZ {l:List aH} (h:bZ l=true):l.length<=20:=by
  unfold bZ at h
  have:=(Bool.and_eq_true_iff.1 h).1
  exact aX this
theorem Qq {p:Int->Bool}:∀(d:Nat) (i:Int),qj p d i=true->∀ j:Nat,j<d->p (i+j)=true:=by
  intro d
  induction d with
  |zero=>intro i _ j hj;omega
  |succ d ih=>
    intro i h j hj
    simp only[qj,Bool.and_eq_true] at h
    cases j with
    |zero=>simpa using h.1
    |succ j=>
      have:=ih (i+1) h.2 j aa
      rw[show i+((j+1:Nat):Int)=i+1+(j:Int) by omega]
      exact this
theorem qp {l:List aH} (h:bZ l=true) (j:Nat) (hj:j<l.length):(bF l (j:Int)).f0.size<=40/\(bF l (j:Int)).f1.size<=190:=by
  unfold bZ at h
  have h2:=Qq _ _ (Bool.and_eq_true_iff.1 h).2 j hj
  rw[Int.zero_add] at h2
  unfold nT at h2
  simp only[Bool.and_eq_true] at h2
  exact⟨aX h2.1,aX h2.2.2.1⟩
def kZ (a b:af):Bool:=(ig a).toList==(ig b).toList
theorem CX (a b:af) (ha:a.size<=9223372036854775807) (hb:b.size<=9223372036854775807):mY.f a b=some (kZ a b):=by
  unfold mY.f jw.f kZ
  rw[if_pos ha,aj,if_pos hb,aj]
theorem CY (a b:af) (ha:a.size<=9223372036854775807) (hb:b.size<=9223372036854775807):mZ.f a b=some (kZ a b):=by
  unfold mZ.f jk.f kZ
  rw[if_pos ha,aj,if_pos hb,aj]

theorem vV (s:af) (n:Nat) (c:UInt8) (h1:n<s.size) (h2:bt s (n:Int)=(c.toNat:Int)) (h3:∀ m:Nat,m<n->bt s (m:Int)≠(c.toNat:Int)) :
    Lib.indexByte s.data.toList c=(n:Int):=by
  obtain⟨b,hb,hbt⟩:=Qo h1
  rw[<- Lib.indexAny_one]
  refine Lib.indexAny_hit (x:=b) (fun j y hj hy=>?_) hb ?_
  · have:=h3 j hj
    rw[(dZ hy).2] at this
    have hn:y≠c:=fun e=>this (by rw[e])
    simp[hn]
  · have:b=c:=UInt8.toNat_inj.1 aa
    simp[this]
theorem uS (s:af) (c:UInt8) (h3:∀ m:Nat,m<s.size->bt s (m:Int)≠(c.toNat:Int)) :
    Lib.indexByte s.data.toList c = -1:=by
  rw[<- Lib.indexAny_one]
  refine Lib.indexAny_none (fun j y hj hy=>?_)
  have hq:=dZ hy
  have:=h3 j hq.1
  rw[hq.2] at this
  have hn:y≠c:=fun e=>this (by rw[e])
  simp[hn]
def dg (u:UInt8):Bool:=decide (48<=u.toNat/\u.toNat<=57)
def dd (a:Fin 10):UInt8:=UInt8.ofNat (48+a.val)
theorem Ig (u:UInt8):dQ.f (u.toNat:Int)=some (dg u):=by
  unfold dQ.f dg
  split
  · congr 1;apply decide_eq_decide.2;omega
  · congr 1;exact(aT aa).symm
theorem extract_all (s:af):s.extract 0 s.size=s:=by
  apply ByteArray.ext
  rw[ByteArray.data_extract]
  exact Array.extract_eq_self_of_le (Nat.le_refl _)
def qY (s:af):Bool:=qj (fun i=>decide (33<=bt s i/\bt s i<=126)) s.size 0
theorem oq (s:af) (hs:s.size<=1048576) (k:Nat) (hk:s.size+1<k):bE.f k s=some (qY s):=by
  refine pM (fun k i=>bE.l0 k s i) s.size _ 1 (fun k i hi=>by simp only[bE.l0];rw[if_neg aa]) (fun k i h0 h1 hk=>?_) k aa
  simp only[bE.l0,qP.f]
  rw[if_pos h1,if_pos h0,ak aa aa]
  by_cases h:bt s i>=33
  · rw[if_pos h,aj]
    by_cases h2:bt s i<=126
    · rw[if_pos (aQ h2),if_pos (aQ ⟨h,h2⟩)]
    · rw[if_neg (by rw[aT h2];decide),if_neg (by rw[aT (fun x=>h2 x.2)];decide)]
  · rw[if_neg h,aj,if_neg av,if_neg (by rw[aT (fun x=>h x.1)];decide)]
theorem oo (s:af) (hs:s.size<=1048576) (k:Nat) (hk:s.size+1<k):dP.f k s=some (decide (0<s.size)&&qY s):=by
  by_cases h0:0<s.size
  · rw[aQ h0,Bool.true_and]
    refine pM (fun k i=>dP.l0 k s i) s.size _ 1 (fun k i hi=>by simp only[dP.l0];rw[if_neg aa,aQ aa]) (fun k i h0 h1 hk=>?_) k aa
    simp only[dP.l0]
    rw[if_pos h1,if_pos h0,ak aa aa]
    by_cases h:bt s i<33
    · rw[if_pos h,if_neg (by rw[aT (fun x=>by omega)];decide)]
    · rw[if_neg h]
      by_cases h2:bt s i>126
      · rw[if_pos h2,if_neg (by rw[aT (fun x=>by omega)];decide)]
      · rw[if_neg h2,if_pos (aQ aa)]
  · obtain⟨k,rfl⟩:=aN k aa
    unfold dP.f
    simp only[dP.l0]
    rw[if_neg aa,aT h0,Bool.false_and,aT aa]
def YO (a b:af):Bool:=decide (a.size<=20)&&(Hf a&&(decide (b.size<=200)&&(decide (0<b.size)&&qY b)))
def pieces (s:af) (c:Int):Nat->Nat->Nat->List ByteArray
  |0,a,_=>[s.extract a s.size]
  |d+1,a,i=>if bt s (i:Int)=c then s.extract a i::pieces s c d (i+1) (i+1) else pieces s c d a (i+1)
def eu (s:af) (c:Int):List ByteArray:=pieces s c s.size 0 0
theorem ZQ (s:af) (c:UInt8) (p n:Nat) (hp:p<=n) (h1:n<s.size) (h2:bt s (n:Int)=(c.toNat:Int)) (h3:∀ m:Nat,p<=m->m<n->bt s (m:Int)≠(c.toNat:Int)) :
    Lib.indexB (s.extract p s.size) (⟨#[c]⟩:af)=((n-p:Nat):Int):=by
  have hsz:(s.extract p s.size).size=s.size-p:=by rw[size_extract];omega
  show Lib.index (s.extract p s.size).data.toList [c]=_
  rw[Lib.index_one]
  apply vV
  · omega
  · rw[iH _ _ _ _ aa aa aa,show(p:Int)+((n-p:Nat):Int)=(n:Int) by omega];exact h2
  · intro m hm
    rw[iH _ _ _ _ aa aa aa]
    exact h3 (p+m) aa aa
theorem Wp (s:af) (c:UInt8) (p:Nat) (h3:∀ m:Nat,p<=m->m<s.size->bt s (m:Int)≠(c.toNat:Int)) :
    Lib.indexB (s.extract p s.size) (⟨#[c]⟩:af) = -1:=by
  have hsz:(s.extract p s.size).size=s.size-p:=by rw[size_extract];omega
  show Lib.index (s.extract p s.size).data.toList [c]=_
  rw[Lib.index_one]
  apply uS
  intro m hm
  rw[iH _ _ _ _ aa aa aa]
  exact h3 (p+m) aa aa
def yo (s:af) (c:UInt8) (p:Nat):List ByteArray:=Lib.splitB (⟨#[c]⟩:af) 0 (Lib.countB (s.extract p s.size) (⟨#[c]⟩:af)) (s.extract p s.size)
theorem MK (s:af) (c:UInt8) (p:Nat) (h3:∀ m:Nat,p<=m->m<s.size->bt s (m:Int)≠(c.toNat:Int)):yo s c p = [s.extract p s.size]:=by
  unfold yo
  exact Lib.splitB_miss _ _ _ _ (Wp s c p h3)
theorem OO (s:af) (c:UInt8) (p n:Nat) (hp:p<=n) (h1:n<s.size) (h2:bt s (n:Int)=(c.toNat:Int)) (h3:∀ m:Nat,p<=m->m<n->bt s (m:Int)≠(c.toNat:Int)) :
    yo s c p=s.extract p n::yo s c (n+1):=by
  have hix:=ZQ s c p n hp h1 h2 h3
  have hsz:(s.extract p s.size).size=s.size-p:=by rw[size_extract];omega
  have ZR:(⟨#[c]⟩:af).size=1:=rfl
  have hr:(s.extract p s.size).extract (n-p+1) (s.extract p s.size).size=s.extract (n+1) s.size:=by
    rw[hsz,yH _ _ _ _ _ aa,show p+(n-p+1)=n+1 by omega,show p+(s.size-p)=s.size by omega]
  unfold yo
  rw[Lib.countB_hit _ _ _ (Nat.le_of_eq ZR.symm) hix,ZR,hr,Nat.add_comm 1,Lib.splitB_hit _ _ _ _ _ hix,ZR,hr,yH _ _ _ _ _ aa,show p+0=p by omega,show p+(n-p+0)=n by omega]
theorem Ih (s:af) (c:UInt8):∀(d a i:Nat),i+d=s.size->a<=i->(∀ m:Nat,a<=m->m<i->bt s (m:Int)≠(c.toNat:Int))->yo s c a=pieces s (c.toNat:Int) d a i:=by
  intro d
  induction d with
  |zero=>exact fun a i h1 h2 h3=>MK s c a (fun m q1 q2=>h3 m q1 aa)
  |succ d ih=>
    intro a i h1 h2 h3
    unfold pieces
    by_cases h:bt s (i:Int)=(c.toNat:Int)
    · rw[if_pos h,OO s c a i h2 aa h h3,ih (i+1) (i+1) aa (Nat.le_refl _) (fun m q1 q2=>absurd q1 aa)]
    · rw[if_neg h]
      refine ih a (i+1) aa aa (fun m q1 q2=>?_)
      by_cases q:m=i
      · rw[q];exact h
      · exact h3 m q1 aa
theorem ML (s:af) (c:UInt8) (hs:s.size<4294967281):strings_Split.f s (⟨#[c]⟩:af)=some (eu s (c.toNat:Int)):=by
  have h:strings_Split.f s (⟨#[c]⟩:af)=some (yo s c 0):=by
    unfold strings_Split.f yo
    simp only
    rw[if_pos hs,extract_all]
  rw[h,Ih s c s.size 0 0 aa (Nat.le_refl _) (fun m q1 q2=>absurd q2 aa)]
  rfl
theorem zw (s:af) (c:Int):∀(d a i:Nat),(pieces s c d a i).length<=d+1/\0<(pieces s c d a i).length:=by
  intro d
  induction d with
  |zero=>exact fun a i=>⟨Nat.le_refl 1,Nat.one_pos⟩
  |succ d ih=>
    intro a i
    unfold pieces
    split
    · have:=ih (i+1) (i+1)
      simp only[List.length_cons]
      omega
    · have:=ih a (i+1)
      omega
theorem wX (s:af) (c:Int):∀(d a i:Nat),∀ x∈pieces s c d a i,x.size<=s.size:=by
  intro d
  induction d with
  |zero=>
    intro a i x hx
    obtain rfl:=List.mem_singleton.mp hx
    rw[size_extract];omega
  |succ d ih=>
    intro a i x hx
    unfold pieces at hx
    split at hx
    · rcases List.mem_cons.mp hx with rfl|hx
      · rw[size_extract];omega
      · exact ih _ _ x hx
    · exact ih _ _ x hx

def CZ (s:af) (c:Int):Nat->Nat->Nat
  |0,i=>i
  |d+1,i=>if bt s (i:Int)=c then i else CZ s c d (i+1)
theorem zW (s:af) (c:Int):∀(d i:Nat),i<=CZ s c d i/\CZ s c d i<=i+d/\(∀ m:Nat,i<=m->m<CZ s c d i->bt s (m:Int)≠c)/\(CZ s c d i<i+d->bt s (CZ s c d i:Int)=c):=by
  intro d
  induction d with
  |zero=>intro i;exact⟨Nat.le_refl _,Nat.le_refl _,fun m a b=>absurd b (by simp[CZ];omega),fun h=>absurd h (by simp[CZ])⟩
  |succ d ih=>
    intro i
    unfold CZ
    by_cases h:bt s (i:Int)=c
    · rw[if_pos h]
      exact⟨Nat.le_refl _,by omega,fun m a b=>absurd b aa,fun _=>h⟩
    · rw[if_neg h]
      obtain⟨a,b,e,f⟩:=ih (i+1)
      refine⟨by omega,by omega,fun m h1 h2=>?_,fun h1=>f aa⟩
      by_cases q:m=i
      · rw[q];exact h
      · exact e m aa h2
def aK (s:af) (c:Int):Nat:=CZ s c s.size 0
theorem jd (s:af) (c:Int):aK s c<=s.size:=by have:=(zW s c s.size 0).2.1;unfold aK;omega
theorem um (s:af) (c:Int) (m:Nat) (h:m<aK s c):bt s (m:Int)≠c:=(zW s c s.size 0).2.2.1 m (Nat.zero_le _) h
theorem vW (s:af) (c:Int) (h:aK s c<s.size):bt s (aK s c:Int)=c:=(zW s c s.size 0).2.2.2 (by unfold aK at h;omega)
theorem qx (s:af) (c:Int) (n:Nat) (h1:n<=s.size) (h2:∀ m:Nat,m<n->bt s (m:Int)≠c) (h3:n<s.size->bt s (n:Int)=c):aK s c=n:=by
  by_cases a:aK s c<n
  · exact absurd (vW s c aa) (h2 _ a)
  · by_cases b:n<aK s c
    · exact absurd (h3 (by have:=jd s c;omega)) (um s c n b)
    · omega
def aD (s:af) (c:Int):ByteArray:=s.extract 0 (aK s c)
theorem lX (s:af) (c:Int):(aD s c).size=aK s c:=by unfold aD;rw[size_extract];have:=jd s c;omega
theorem Gn (s:af) (hs:s.size<=1048576) (c:Int):∀(d i k:Nat),i+d=s.size->d<k->dS.l0 k s c (i:Int)=some (s.extract 0 (CZ s c d i)):=by
  intro d
  induction d with
  |zero=>
    intro i k h hk
    obtain⟨k,rfl⟩:=aN k aa
    simp only[dS.l0,CZ]
    rw[if_neg aa,show i=s.size by omega,extract_all]
  |succ d ih=>
    intro i k h hk
    obtain⟨k,rfl⟩:=aN k aa
    simp only[dS.l0,CZ]
    rw[if_pos aa,if_pos aa]
    by_cases e:bt s (i:Int)=c
    · rw[if_pos e,if_pos e,if_pos aa];rfl
    · rw[if_neg e,if_neg e,dR i aa]
      exact ih (i+1) k aa aa
theorem tH (s:af) (hs:s.size<=1048576) (c:Int) (k:Nat) (hk:s.size<k):dS.f k s c=some (aD s c):=Gn s hs c s.size 0 k aa hk
theorem zL (s:af) (c:UInt8):Lib.indexByte s.data.toList c=if aK s (c.toNat:Int)<s.size then(aK s (c.toNat:Int):Int) else -1:=by
  by_cases h:aK s (c.toNat:Int)<s.size
  · rw[if_pos h]
    exact vV s _ c h (vW _ _ h) (fun m hm=>um _ _ m hm)
  · rw[if_neg h]
    exact uS s c (fun m hm=>um _ _ m (by have:=jd s (c.toNat:Int);omega))
theorem KH (s:af) (c:UInt8):strings_Index.f s (⟨#[c]⟩:af)=some (if aK s (c.toNat:Int)<s.size then(aK s (c.toNat:Int):Int) else -1):=by
  rw[<- zL]
  rfl
theorem xw (s:af) (c:UInt8):strings_Contains.f s (⟨#[c]⟩:af)=some (decide (aK s (c.toNat:Int)<s.size)):=by
  unfold strings_Contains.f
  rw[KH,aj]
  congr 1
  by_cases h:aK s (c.toNat:Int)<s.size
  · rw[if_pos h,aQ h,aQ aa]
  · rw[if_neg h,aT h,aT aa]
theorem Gp (s:af) (hs:s.size<=1048576) (c:UInt8):strings_Cut.f s (⟨#[c]⟩:af)=some (if aK s (c.toNat:Int)<s.size then(s.extract 0 (aK s (c.toNat:Int)),s.extract (aK s (c.toNat:Int)+1) s.size,true) else(s,(⟨#[]⟩:af),false)):=by
  have hi:stringslite_Index.f s (⟨#[c]⟩:af)=some (if aK s (c.toNat:Int)<s.size then(aK s (c.toNat:Int):Int) else -1):=by
    rw[<- zL];rfl
  have h1:(⟨#[c]⟩:af).size=1:=rfl
  unfold strings_Cut.f stringslite_Cut.f
  rw[hi,aj,h1]
  by_cases h:aK s (c.toNat:Int)<s.size
  · rw[if_pos h,if_pos h,if_pos aa,if_pos aa,if_pos aa,show((1:Nat):Int)=1 from rfl,dR _ aa,if_pos aa,if_pos aa]
    rfl
  · rw[if_neg h,if_neg h,if_neg aa];rfl
theorem Ep (s:af) (hs:s.size<=1048576) (c:Int):∀(d a i k:Nat) (out:List ByteArray),i+d=s.size->a<=i->out.length<=i->d+2<k->fH.l0 k s c out (a:Int) (i:Int)=some (out++pieces s c d a i):=by
  intro d
  induction d with
  |zero=>
    intro a i k out h ha ho hk
    obtain⟨k,rfl⟩:∃ q,k=q+2:=⟨k-2,by omega⟩
    obtain rfl:i=s.size:=by omega
    simp only[fH.l0,pieces]
    rw[if_pos (Int.le_refl _),if_pos trivial,if_pos aa,if_pos aa,if_pos aa,dR _ aa,if_neg aa]
    rfl
  |succ d ih=>
    intro a i k out h ha ho hk
    obtain⟨k,rfl⟩:=aN k aa
    simp only[fH.l0,pieces]
    rw[if_pos aa,if_neg aa,if_pos aa,if_pos aa,dR _ aa]
    by_cases e:bt s (i:Int)=c
    · rw[if_pos e,if_pos e,if_pos aa,if_pos aa,if_pos aa,ih (i+1) (i+1) k _ aa (Nat.le_refl _) (by rw[List.length_append,List.length_singleton];omega) aa]
      simp
    · rw[if_neg e,if_neg e]
      exact ih a (i+1) k out aa aa aa aa
theorem zx (s:af) (hs:s.size<=1048576) (c:Int) (k:Nat) (hk:s.size+2<k):fH.f k s c=some (eu s c):=by
  have:=Ep s hs c s.size 0 0 k [] aa (Nat.le_refl _) (Nat.le_refl _) hk
  simpa [fH.f,eu] using this

def Gq (c:Int):Bool:=(nR.f c).getD false
theorem MM : ∀ n:Fin 256,nR.f (n.val:Int)=some (Gq (n.val:Int)):=by decide +kernel
theorem MN : ∀ n:Fin 256,kC.f 20 (n.val:Int)=some (Gq (n.val:Int)):=by decide +kernel
theorem KI (c:Int) (h0:0<=c) (h1:c<=255):nR.f c=some (Gq c):=by
  obtain⟨n,rfl⟩:=Int.eq_ofNat_of_zero_le h0
  exact MM ⟨n,by omega⟩
theorem KJ (c:Int) (h0:0<=c) (h1:c<=255) (k:Nat) (hk:20<=k):kC.f k c=some (Gq c):=by
  obtain⟨n,rfl⟩:=Int.eq_ofNat_of_zero_le h0
  exact Cr (g:=fun k=>kC.f k (n:Int)) (fun k=>kC.mono (n:Int) k) hk (MN ⟨n,by omega⟩)
def ZT : ByteArray:=⟨#[48,49,50,51,52,53,54,55,56,57,65,66,67,68,69,70]⟩
theorem Wq : ∀ n:Fin 256,(decide (nE (n.val:Int)<0)||(nC.f (n.val:Int)==some (bt ZT (nE (n.val:Int)))))=true:=by decide +kernel
theorem acL (c:Int) (h0:0<=c) (h1:c<=255) (h:0<=nE c):nC.f c=some (bt ZT (nE c)):=by
  obtain⟨n,rfl⟩:=Int.eq_ofNat_of_zero_le h0
  have:=Wq ⟨n,by omega⟩
  rw[Bool.or_eq_true,decide_eq_true_eq,beq_iff_eq] at this
  rcases this with h2|h2
  · simp only at h2;omega
  · exact h2
theorem aum (a b:Int) (ha:0<=a/\a<=15) (hb:0<=b/\b<=15):Go.bits .and .u8 (16*a+b) 15=b:=by
  obtain⟨n,rfl⟩:=Int.eq_ofNat_of_zero_le ha.1
  obtain⟨m,rfl⟩:=Int.eq_ofNat_of_zero_le hb.1
  have key:∀ x y:Fin 16,Go.bits .and .u8 (16*(x.val:Int)+(y.val:Int)) 15=(y.val:Int):=by decide +kernel
  exact key ⟨n,by omega⟩ ⟨m,by omega⟩
def xA (s:af) (i:Nat):Bool:=decide (bt s (i:Int)=37)&&(decide (i+2<s.size)&&(decide (0<=nE (bt s ((i+1:Nat):Int)))&&decide (0<=nE (bt s ((i+2:Nat):Int)))))
def wY (s:af) (i:Nat):Int:=16*nE (bt s ((i+1:Nat):Int))+nE (bt s ((i+2:Nat):Int))
def Ii (s:af) (i:Nat):List Int:=if Gq (wY s i)=true then [wY s i] else [37,bt ZT (nE (bt s ((i+1:Nat):Int))),bt ZT (nE (bt s ((i+2:Nat):Int)))]
def ER (s:af):Nat->List Int->Nat->List Int
  |0,out,_=>out
  |d+1,out,i=>if i<s.size then(if xA s i=true then ER s d (out++Ii s i) (i+3) else ER s d (out ++ [bt s (i:Int)]) (i+1)) else out
def jq (s:af):ByteArray:=strOfNums (ER s s.size [] 0)
theorem Ws (s:af) (i:Nat):(Ii s i).length<=3:=by unfold Ii;split <;> simp
theorem ZU (s:af):∀(d:Nat) (out:List Int) (i:Nat),out.length<=i->i<=s.size->(ER s d out i).length<=s.size:=by
  intro d
  induction d with
  |zero=>intro out i h1 h2;simp only[ER];omega
  |succ d ih=>
    intro out i h1 h2
    unfold ER
    split
    · split
      · rename_i h
        unfold xA at h
        simp only[Bool.and_eq_true,decide_eq_true_eq] at h
        have:=Ws s i
        exact ih _ _ (by rw[List.length_append];omega) aa
      · exact ih _ _ (by rw[List.length_append,List.length_singleton];omega) aa
    · omega
theorem zX (s:af):(jq s).size<=s.size:=by
  unfold jq
  rw[strOfNums_size]
  exact ZU s _ _ _ (Nat.le_refl _) (Nat.zero_le _)
theorem Rt {s:ByteArray} {i:Nat} (h:xA s i=true):bt s (i:Int)=37/\i+2<s.size/\0<=nE (bt s ((i+1:Nat):Int))/\0<=nE (bt s ((i+2:Nat):Int)):=by
  unfold xA at h
  simp only[Bool.and_eq_true,decide_eq_true_eq] at h
  exact h
theorem Wt (s:af) (hs:s.size<=100000):∀(d k i:Nat) (out:List Int),i<=s.size->s.size-i<=d->out.length<=i->2*d+10<k->aI.l0 k s out (i:Int)=some (strOfNums (ER s d out i)):=by
  intro d
  induction d with
  |zero=>
    intro k i out h1 h2 h3 hk
    obtain⟨k,rfl⟩:=aN k aa
    simp only[aI.l0,ER]
    rw[if_neg aa]
  |succ d ih=>
    intro k i out h1 h2 h3 hk
    obtain⟨k,rfl⟩:∃ q,k=q+2:=⟨k-2,by omega⟩
    by_cases hi:i<s.size
    case neg=>
      simp only[aI.l0,ER]
      rw[if_neg aa,if_neg hi]
    have w1:wrap64 ((i:Int)+1)=((i+1:Nat):Int):=dR i aa
    have w2:wrap64 ((i:Int)+2)=((i+2:Nat):Int):=by rw[ak aa aa];rfl
    have w3:wrap64 (((i+2:Nat):Int)+1)=((i+3:Nat):Int):=dR _ aa
    have plain:xA s i=false->aI.j1 (k+1) s out (i:Int) true=some (strOfNums (ER s (d+1) out i)):=by
      intro he
      simp only[aI.j1,ER]
      rw[if_pos trivial,if_pos aa,if_pos aa,if_pos aa,w1,if_pos hi,he,if_neg av]
      exact ih k (i+1) _ aa aa (by rw[List.length_append,List.length_singleton];omega) aa
    simp only[aI.l0]
    rw[if_pos aa,if_pos aa]
    by_cases c1:bt s (i:Int)=37
    case neg=>rw[if_neg c1];exact plain (by unfold xA;rw[aT c1,Bool.false_and])
    rw[if_pos c1,w2]
    by_cases c2:i+2<s.size
    case neg=>rw[if_pos aa];exact plain (by unfold xA;rw[aT c2,Bool.false_and,Bool.and_false])
    obtain⟨a1,a2,a3⟩:=pO (bt s ((i+1:Nat):Int)) (eT _ _).1 (eT _ _).2 (k+1) aa
    obtain⟨b1,b2,b3⟩:=pO (bt s ((i+2:Nat):Int)) (eT _ _).1 (eT _ _).2 (k+1) aa
    rw[if_neg aa,w1,if_pos aa,if_pos aa,a1,aj]
    by_cases c3:0<=nE (bt s ((i+1:Nat):Int))
    case neg=>rw[if_pos aa];exact plain (by unfold xA;rw[aT c3,Bool.false_and,Bool.and_false,Bool.and_false])
    rw[if_neg aa,if_pos aa,if_pos aa,b1,aj]
    by_cases c4:0<=nE (bt s ((i+2:Nat):Int))
    case neg=>rw[aQ aa];exact plain (by unfold xA;rw[aT c4,Bool.and_false,Bool.and_false,Bool.and_false])
    rw[aT aa]
    have he:xA s i=true:=by unfold xA;rw[aQ c1,aQ c2,aQ c3,aQ c4];rfl
    obtain⟨a1',-,-⟩:=pO (bt s ((i+1:Nat):Int)) (eT _ _).1 (eT _ _).2 k aa
    obtain⟨b1',-,-⟩:=pO (bt s ((i+2:Nat):Int)) (eT _ _).1 (eT _ _).2 k aa
    have ev:(wrap64 ((wrap64 (16*nE (bt s ((i+1:Nat):Int))))+nE (bt s ((i+2:Nat):Int))))%256=wY s i:=by
      unfold wY
      rw[ak (x:=16*_) aa aa,ak aa aa]
      omega
    have er:0<=wY s i/\wY s i<=255:=by unfold wY;omega
    simp only[aI.j1,ER]
    rw[if_neg av,w1,w2,if_pos aa,if_pos aa,a1',aj,if_pos aa,if_pos aa,b1',aj,ev,w3,KI _ er.1 er.2,aj,if_pos hi,he,if_pos rfl]
    have rest:=fun out' (h:out'.length<=i+3)=>ih k (i+3) out' aa aa h aa
    unfold Ii
    by_cases c5:Gq (wY s i)=true
    · rw[if_pos c5,if_pos c5,if_pos aa]
      exact rest _ (by rw[List.length_append,List.length_singleton];omega)
    · have hd:wY s i / 16=nE (bt s ((i+1:Nat):Int)):=by unfold wY;omega
      have hl:Go.bits .and .u8 (wY s i) 15=nE (bt s ((i+2:Nat):Int)):=aum _ _ ⟨c3,a3⟩ ⟨c4,b3⟩
      rw[if_neg c5,if_neg c5,hd,hl,if_pos c3,if_pos aa,if_pos c4,if_pos aa,aj]
      rw[if_pos (by simp only[List.length_cons,List.length_nil];omega)]
      exact rest _ (by rw[List.length_append];simp only[List.length_cons,List.length_nil];omega)
theorem Ij (s:af) (hs:s.size<=100000) (k:Nat) (hk:2*s.size+10<k):aI.f k s=some (jq s):=
  Wt s hs s.size k 0 [] (Nat.zero_le _) (Nat.le_refl _) (Nat.le_refl _) hk
theorem Ru (s:af) (i:Nat) (h:i+2<s.size) (k:Nat) (hk:10<k):dM.f k (s.extract (i+1) (i+3))=some (if nE (bt s ((i+1:Nat):Int))<0∨nE (bt s ((i+2:Nat):Int))<0 then(0,false) else(wY s i,true)):=by
  obtain⟨k,rfl⟩:∃ q,k=q+6:=⟨k-6,by omega⟩
  have hz:(s.extract (i+1) (i+3)).size=2:=by rw[size_extract];omega
  have e0:bt (s.extract (i+1) (i+3)) 0=bt s ((i+1:Nat):Int):=by rw[iH _ _ _ _ aa aa aa];congr 1
  have e1:bt (s.extract (i+1) (i+3)) 1=bt s ((i+2:Nat):Int):=by rw[iH _ _ _ _ aa aa aa];congr 1
  have hs1:=Qp (bt s ((i+1:Nat):Int)) (eT _ _).1 (eT _ _).2 0 aa aa (fun x=>dM.l0 (k+4) (s.extract (i+1) (i+3)) x 1)
  obtain⟨-,a2,a3⟩:=pO (bt s ((i+1:Nat):Int)) (eT _ _).1 (eT _ _).2 3 aa
  obtain⟨-,b2,b3⟩:=pO (bt s ((i+2:Nat):Int)) (eT _ _).1 (eT _ _).2 3 aa
  unfold dM.f
  rw[hz,if_neg av,aT av]
  simp only[dM.j0]
  rw[if_neg av,dM.l0,hz,if_pos av,if_pos av,e0]
  have w01:wrap64 (0+1)=1:=by rw[ak aa aa];rfl
  rw[w01]
  unfold ZP at hs1
  rw[hs1]
  by_cases c:nE (bt s ((i+1:Nat):Int))<0
  · rw[if_pos c,if_pos (Or.inl c)]
  · have hs2:=Qp (bt s ((i+2:Nat):Int)) (eT _ _).1 (eT _ _).2 (16*0+nE (bt s ((i+1:Nat):Int))) aa aa (fun x=>dM.l0 (k+3) (s.extract (i+1) (i+3)) x 2)
    have Kk:wrap64 (1+1)=2:=by rw[ak aa aa];rfl
    rw[if_neg c,dM.l0,hz,if_pos av,if_pos av,e1,Kk]
    unfold ZP at hs2
    rw[hs2]
    by_cases c2:nE (bt s ((i+2:Nat):Int))<0
    · rw[if_pos c2,if_pos (Or.inr c2)]
    · rw[if_neg c2,if_neg aa,dM.l0,hz,if_neg av]
      unfold wY
      congr 2
      omega
theorem Wu (s:af) (hs:s.size<=100000):∀(d k i:Nat) (out:List Int),i<=s.size->s.size-i<=d->out.length<=i->2*d+40<k->aU.l0 k s out (i:Int)=some (strOfNums (ER s d out i)):=by
  intro d
  induction d with
  |zero=>
    intro k i out h1 h2 h3 hk
    obtain⟨k,rfl⟩:=aN k aa
    simp only[aU.l0,ER]
    rw[if_neg aa]
  |succ d ih=>
    intro k i out h1 h2 h3 hk
    obtain⟨k,rfl⟩:∃ q,k=q+2:=⟨k-2,by omega⟩
    by_cases hi:i<s.size
    case neg=>
      simp only[aU.l0,ER]
      rw[if_neg aa,if_neg hi]
    have w1:wrap64 ((i:Int)+1)=((i+1:Nat):Int):=dR i aa
    have w2:wrap64 ((i:Int)+2)=((i+2:Nat):Int):=by rw[ak aa aa];rfl
    have w3:wrap64 (((i+2:Nat):Int)+1)=((i+3:Nat):Int):=dR _ aa
    have w4:wrap64 ((i:Int)+3)=((i+3:Nat):Int):=by rw[ak aa aa];rfl
    have step:∀ out':List Int,out'.length<=i+1->aU.l0 k s out' ((i+1:Nat):Int)=some (strOfNums (ER s d out' (i+1))):=fun out' h=>ih k (i+1) out' aa aa h aa
    have plain:xA s i=false->aU.j1 (k+1) s out (i:Int) true=some (strOfNums (ER s (d+1) out i)):=by
      intro he
      simp only[aU.j1,ER]
      rw[if_pos trivial,if_pos aa,if_pos aa,if_pos aa,w1,if_pos hi,he,if_neg av]
      exact step _ (by rw[List.length_append,List.length_singleton];omega)
    simp only[aU.l0]
    rw[if_pos aa,if_pos aa]
    by_cases c1:bt s (i:Int)=37
    case neg=>rw[if_neg c1];exact plain (by unfold xA;rw[aT c1,Bool.false_and])
    rw[if_pos c1,w2]
    by_cases c2:i+2<s.size
    case neg=>rw[aQ aa];exact plain (by unfold xA;rw[aT c2,Bool.false_and,Bool.and_false])
    rw[aT aa]
    simp only[aU.j1]
    rw[if_neg av,w1,w2,w3,w4,if_pos aa,if_pos aa,if_pos aa,Int.toNat_natCast,Int.toNat_natCast,Ru s i c2 k aa,aj]
    obtain⟨-,a2,a3⟩:=pO (bt s ((i+1:Nat):Int)) (eT _ _).1 (eT _ _).2 3 aa
    obtain⟨-,b2,b3⟩:=pO (bt s ((i+2:Nat):Int)) (eT _ _).1 (eT _ _).2 3 aa
    by_cases c3:nE (bt s ((i+1:Nat):Int))<0∨nE (bt s ((i+2:Nat):Int))<0
    · have he:xA s i=false:=by
        cases hq:xA s i with
        |false=>rfl
        |true=>have:=Rt hq;omega
      rw[if_pos c3]
      dsimp only
      rw[if_neg av,if_pos aa,if_pos aa,if_pos aa,ER,if_pos hi,he,if_neg av]
      exact step _ (by rw[List.length_append,List.length_singleton];omega)
    · have he:xA s i=true:=by unfold xA;rw[aQ c1,aQ c2,aQ aa,aQ aa];rfl
      have er:0<=wY s i/\wY s i<=255:=by unfold wY;omega
      have em:wY s i%256=wY s i:=by omega
      have rest:=fun out' (h:out'.length<=i+3)=>ih k (i+3) out' aa aa h aa
      rw[if_neg c3]
      dsimp only
      rw[if_pos rfl,em,KJ _ er.1 er.2 k aa,aj,ER,if_pos hi,he,if_pos rfl]
      unfold Ii
      by_cases c5:Gq (wY s i)=true
      · rw[if_pos c5,if_pos c5,if_pos aa]
        exact rest _ (by rw[List.length_append,List.length_singleton];omega)
      · rw[if_neg c5,if_neg c5,if_pos aa,acL _ (eT _ _).1 (eT _ _).2 aa,aj,if_pos aa,if_pos aa,acL _ (eT _ _).1 (eT _ _).2 aa,aj,aj]
        rw[if_pos (by simp only[List.length_cons,List.length_nil];omega)]
        exact rest _ (by rw[List.length_append];simp only[List.length_cons,List.length_nil];omega)
theorem Ik (s:af) (hs:s.size<=100000) (k:Nat) (hk:2*s.size+40<k):aU.f k s=some (jq s):=
  Wu s hs s.size k 0 [] (Nat.zero_le _) (Nat.le_refl _) (Nat.le_refl _) hk

def yO (x:af):Bool:=decide (x.toList=([46]:aM))
def Na (x:af):Bool:=decide (x.toList=([46,46]:aM))
def vX (out:List ByteArray) (x:af):List ByteArray:=if yO x=true then out else if Na x=true then out.take (out.length-1) else out ++ [x]
def BZ (l:List ByteArray):Bool:=match l.getLast? with
  |some x=>yO x||Na x
  |none=>false
def mg (l:List ByteArray):List ByteArray:=l.foldl vX []++(if BZ l=true then [(⟨#[]⟩:af)] else [])
def oC (l:List ByteArray):ByteArray:=(⟨#[47]⟩:af)++Cn l (⟨#[47]⟩:af)
theorem C8 : ∀(l out:List ByteArray),(l.foldl vX out).length<=out.length+l.length:=by
  intro l
  induction l with
  |nil=>intro out;exact Nat.le_refl _
  |cons x r ih=>
    intro out
    have h1:=ih (vX out x)
    have h2:(vX out x).length<=out.length+1:=by
      unfold vX
      split
      · omega
      · split
        · rw[List.length_take];omega
        · rw[List.length_append,List.length_singleton];omega
    simp only[List.foldl_cons,List.length_cons]
    omega
theorem Rv (P:ByteArray->Prop):∀(l out:List ByteArray),(∀ x∈out,P x)->(∀ x∈l,P x)->∀ x∈l.foldl vX out,P x:=by
  intro l
  induction l with
  |nil=>intro out h _;exact h
  |cons x r ih=>
    intro out h1 h2
    rw[List.foldl_cons]
    refine ih _ (fun y hy=>?_) (fun y hy=>h2 y (List.mem_cons_of_mem _ hy))
    unfold vX at hy
    split at hy
    · exact h1 y hy
    · split at hy
      · exact h1 y (List.mem_of_mem_take hy)
      · rcases List.mem_append.1 hy with h|h
        · exact h1 y h
        · obtain rfl:=List.mem_singleton.1 h;exact h2 _ (List.mem_cons_self ..)
theorem yI (l:List ByteArray):(mg l).length<=l.length+1:=by
  unfold mg
  have:=C8 l []
  rw[List.length_append]
  split <;> simp only[List.length_cons,List.length_nil] at * <;> omega
theorem C9 (P:ByteArray->Prop) (l:List ByteArray) (h0:P (⟨#[]⟩:af)) (h:∀ x∈l,P x):∀ x∈mg l,P x:=by
  intro x hx
  unfold mg at hx
  rcases List.mem_append.1 hx with h1|h1
  · exact Rv P l [] (fun y hy=>by cases hy) h x h1
  · split at h1
    · obtain rfl:=List.mem_singleton.1 h1;exact h0
    · cases h1
theorem KL (sep:List UInt8) (M:Nat):∀ l:List (List UInt8),(∀ x∈l,x.length<=M)->(Go.Lib.joinTail sep l).length<=l.length*(M+sep.length):=by
  intro l
  induction l with
  |nil=>intro _;simp[Go.Lib.joinTail]
  |cons x r ih=>
    intro h
    have h1:=ih (fun y hy=>h y (List.mem_cons_of_mem _ hy))
    have h2:=h x (List.mem_cons_self ..)
    have e:Go.Lib.joinTail sep (x::r)=sep++x++Go.Lib.joinTail sep r:=by simp[Go.Lib.joinTail]
    rw[e,List.length_append,List.length_append,List.length_cons,Nat.add_mul]
    omega
theorem Gr (l:List ByteArray) (s:af) (M:Nat) (h:∀ x∈l,x.size<=M):(Cn l s).size<=l.length*(M+s.size)+M:=by
  have e:(Cn l s).size=(Go.Lib.join (l.map fun x=>x.data.toList) s.data.toList).length:=by simp[Cn,ByteArray.size]
  rw[e]
  cases l with
  |nil=>simp[Go.Lib.join]
  |cons x r=>
    rw[List.map_cons,Go.Lib.join_cons,List.length_append]
    have h1:=KL s.data.toList M (r.map fun x=>x.data.toList) (fun y hy=>by
      obtain⟨z,hz,rfl⟩:=List.mem_map.1 hy
      rw[fP];exact h z (List.mem_cons_of_mem _ hz))
    rw[List.length_map,fP] at h1
    have h2:=h x (List.mem_cons_self ..)
    rw[fP,List.length_cons,Nat.add_mul]
    omega
theorem Qr (l:List ByteArray) (h1:l.length<=1000000) (h2:∀ x∈l,x.size<=100000):strings_Join.f l (⟨#[47]⟩:af)=some (Cn l (⟨#[47]⟩:af))/\(Cn l (⟨#[47]⟩:af)).size<=200000000000:=by
  have hz:=Gr l (⟨#[47]⟩:af) 100000 h2
  have ZR:(⟨#[47]⟩:af).size=1:=rfl
  rw[ZR] at hz
  have hm:l.length*(100000+1)<=1000000*(100000+1):=Nat.mul_le_mul_right _ h1
  unfold strings_Join.f
  rw[if_pos ⟨by omega,by omega⟩]
  exact⟨rfl,by omega⟩
theorem zy (l:List ByteArray) (i:Nat) (x:af) (h:l[i]? = some x):ed ByteArray.empty l (i:Int)=x:=by
  unfold ed
  simp only[Int.toNat_natCast,List.getD_eq_getElem?_getD,h,Option.getD_some]
theorem drop_cons {l r:List ByteArray} {i:Nat} {x:ByteArray} (h:l.drop i=x::r):l[i]? = some x/\i<l.length/\l.drop (i+1)=r/\(i+1=l.length↔r = []):=by
  have hi:i<l.length:=by
    by_cases q:i<l.length
    · exact q
    · rw[List.drop_eq_nil_iff.mpr aa] at h;cases h
  rw[List.drop_eq_getElem_cons hi] at h
  injection h with h1 h2
  refine⟨by rw[List.getElem?_eq_getElem hi,h1],hi,h2,?_⟩
  rw[<- h2,List.drop_eq_nil_iff]
  omega
theorem DW (l:List ByteArray) (x:af) (n:Nat) (hn:n+1=l.length) (h:l[n]? = some x):BZ l=(yO x||Na x):=by
  unfold BZ
  rw[List.getLast?_eq_getElem?,<- hn,Nat.add_sub_cancel,h]
theorem OP {α:Type} (x:af) (a b:α):(if x.toList=([46]:aM) then a else b)=if yO x=true then a else b:=by
  unfold yO
  by_cases h:x.toList=([46]:aM)
  · rw[if_pos h,aQ h,if_pos rfl]
  · rw[if_neg h,aT h,if_neg av]
theorem Wv {α:Type} (x:af) (a b:α):(if x.toList=([46,46]:aM) then a else b)=if Na x=true then a else b:=by
  unfold Na
  by_cases h:x.toList=([46,46]:aM)
  · rw[if_pos h,aQ h,if_pos rfl]
  · rw[if_neg h,aT h,if_neg av]
theorem Il (L:List ByteArray) (hL:L.length<=1000) (hne:L≠[]) (hm:∀ x∈L,x.size<=100000):∀(r out:List ByteArray) (i k:Nat),L.drop i=r->out.length<=i->(∀ x∈out,x.size<=100000)->r.foldl vX out=L.foldl vX []->r.length<k->
    bu.l0 k out L L (L.length:Int) (i:Int)=some (oC (mg L)):=by
  intro r
  induction r with
  |nil=>
    intro out i k h1 h2 h3 h4 hk
    obtain⟨k,rfl⟩:=aN k aa
    have hi:=List.drop_eq_nil_iff.1 h1
    obtain⟨n,hn⟩:∃ n,n+1=L.length:=⟨L.length-1,by have:=List.length_pos_iff.2 hne;omega⟩
    have hx:L[n]? = some L[n]:=List.getElem?_eq_getElem aa
    rw[List.foldl_nil] at h4
    have hj:=Qr (mg L) (by have:=yI L;omega) (C9 _ L (Nat.zero_le _) hm)
    have hj1:=Qr out (by rw[h4];have:=C8 L [];simp only[List.length_nil] at this;omega) h3
    have hol:out.length<=1000:=by rw[h4];have:=C8 L [];simp only[List.length_nil] at this;omega
    simp only[bu.l0]
    rw[if_neg aa,Rs _ aa aa,if_pos aa,if_pos aa,show L.length-1=n by omega,zy L n _ hx]
    have hld:=DW L _ n hn hx
    rw[OP,Wv]
    by_cases c1:yO L[n]=true
    · have hk':out ++ [(⟨#[]⟩:af)]=mg L:=by unfold mg;rw[h4,hld,c1];rfl
      rw[if_pos c1,if_pos aa,hk',hj.1,aj,if_pos aa]
      rfl
    · rw[if_neg c1]
      by_cases c2:Na L[n]=true
      · have hk':out ++ [(⟨#[]⟩:af)]=mg L:=by unfold mg;rw[h4,hld,c2,Bool.or_true];rfl
        rw[if_pos c2,if_pos aa,hk',hj.1,aj,if_pos aa]
        rfl
      · have c1':yO L[n]=false:=by simpa using c1
        have c2':Na L[n]=false:=by simpa using c2
        have hk':out=mg L:=by unfold mg;rw[h4,hld,c1',c2',if_neg av,List.append_nil]
        rw[if_neg c2,hj1.1,aj,if_pos aa,hk']
        rfl
  |cons x r ih=>
    intro out i k h1 h2 h3 h4 hk
    obtain⟨k,rfl⟩:=aN k aa
    obtain⟨hx,hi,hd,-⟩:=drop_cons h1
    simp only[List.length_cons] at hk
    rw[List.foldl_cons] at h4
    have hxm:=hm x (List.mem_of_getElem? hx)
    simp only[bu.l0]
    rw[if_pos aa,if_pos aa,if_pos aa,zy L i x hx,dR i aa,OP,Wv]
    unfold vX at h4
    by_cases c1:yO x=true
    · rw[if_pos c1] at h4 ⊢
      exact ih out (i+1) k hd aa h3 h4 aa
    · rw[if_neg c1] at h4 ⊢
      by_cases c2:Na x=true
      · rw[if_pos c2] at h4 ⊢
        have hmx:mx 0 (wrap64 ((out.length:Int)-1))=((out.length-1:Nat):Int):=by
          rw[ak aa aa]
          unfold mx
          split <;> omega
        rw[hmx,if_pos aa,if_pos aa,Int.toNat_natCast]
        exact ih _ (i+1) k hd (by rw[List.length_take];omega) (fun y hy=>h3 y (List.mem_of_mem_take hy)) h4 aa
      · rw[if_neg c2] at h4 ⊢
        rw[if_pos aa]
        exact ih _ (i+1) k hd (by rw[List.length_append,List.length_singleton];omega) (fun y hy=>by
          rcases List.mem_append.1 hy with h|h
          · exact h3 y h
          · obtain rfl:=List.mem_singleton.1 h;exact hxm) h4 aa
def oD (s:af) (l:List ByteArray):ByteArray:=l.foldl (fun s x=>(s++(⟨#[47]⟩:af))++x) s
theorem KM : ∀(l:List ByteArray) (s:af),(oD s l).data.toList=s.data.toList++Go.Lib.joinTail [47] (l.map fun x=>x.data.toList):=by
  intro l
  induction l with
  |nil=>intro s;simp[oD,Go.Lib.joinTail]
  |cons x r ih=>
    intro s
    have:=ih ((s++(⟨#[47]⟩:af))++x)
    unfold oD at this ⊢
    rw[List.foldl_cons,this]
    simp[Go.Lib.joinTail]
theorem Ww (l:List ByteArray):(if(oD (⟨#[]⟩:af) l).toList=([]:aM) then(⟨#[47]⟩:af) else oD (⟨#[]⟩:af) l)=oC l:=by
  cases l with
  |nil=>
    have e:oD (⟨#[]⟩:af) []=⟨#[]⟩:=rfl
    rw[e,if_pos (by decide +kernel)]
    decide +kernel
  |cons x r=>
    have h1:=KM (x::r) (⟨#[]⟩:af)
    have h2:(oC (x::r)).data.toList=(oD (⟨#[]⟩:af) (x::r)).data.toList:=by
      rw[h1]
      unfold oC Cn
      rw[List.map_cons,Go.Lib.join_cons]
      simp[Go.Lib.joinTail]
    have h3:(oD (⟨#[]⟩:af) (x::r)).toList≠([]:aM):=by
      rw[ByteArray.toList_eq,h1]
      simp[Go.Lib.joinTail]
    rw[if_neg h3]
    apply ByteArray.ext
    rw[<- Array.toArray_toList (xs:=(oD _ _).data),<- h2,Array.toArray_toList]
theorem Er (L:List ByteArray) (hL:L.length<=2000) (hm:∀ x∈L,x.size<=100000):∀(r:List ByteArray) (s:af) (i k:Nat),L.drop i=r->s.size<=i*100001->r.length<k->
    ay.l2 k L s (i:Int)=some (if(oD s r).toList=([]:aM) then(⟨#[47]⟩:af) else oD s r):=by
  intro r
  induction r with
  |nil=>
    intro s i k h1 h2 hk
    obtain⟨k,rfl⟩:=aN k aa
    have hi:=List.drop_eq_nil_iff.1 h1
    have e:oD s []=s:=rfl
    simp only[ay.l2]
    rw[if_neg aa,e]
    split <;> rfl
  |cons x r ih=>
    intro s i k h1 h2 hk
    obtain⟨k,rfl⟩:=aN k aa
    obtain⟨hx,hi,hd,-⟩:=drop_cons h1
    simp only[List.length_cons] at hk
    have hxm:=hm x (List.mem_of_getElem? hx)
    have hb:i*100001<=2000*100001:=Nat.mul_le_mul_right _ aa
    have ZR:(s++(⟨#[47]⟩:af)).size=s.size+1:=by rw[ByteArray.size_append];rfl
    have h2s:((s++(⟨#[47]⟩:af))++x).size=s.size+1+x.size:=by rw[ByteArray.size_append,ZR]
    simp only[ay.l2]
    rw[if_pos aa,if_pos aa,if_pos aa,zy L i x hx,if_pos aa,dR i aa,ih _ (i+1) k hd (by rw[h2s,Nat.add_mul];omega) aa]
    rfl
theorem Im (L:List ByteArray) (hL:L.length<=1000) (hne:L≠[]) (hm:∀ x∈L,x.size<=100000):∀(r out:List ByteArray) (i k:Nat),L.drop i=r->out.length<=i->r≠[]->r.foldl vX out=L.foldl vX []->4*r.length+1100<k->
    ay.l1 k L out (i:Int)=some (oC (mg L)):=by
  intro r
  induction r with
  |nil=>intro out i k _ _ h;exact absurd rfl h
  |cons x r ih=>
    intro out i k h1 h2 _ h4 hk
    obtain⟨k,rfl⟩:∃ q,k=q+4:=⟨k-4,by omega⟩
    obtain⟨hx,hi,hd,hend⟩:=drop_cons h1
    simp only[List.length_cons] at hk
    rw[List.foldl_cons] at h4
    have fin:∀ out',out'=mg L->ay.l1 k L out' ((i+1:Nat):Int)=some (oC (mg L))∨r≠[]:=by
      intro out' h
      by_cases hr:r = []
      · left
        obtain⟨k',rfl⟩:∃ q,k=q+1:=⟨k-1,by omega⟩
        have he:=hend.2 hr
        have hl:=Er (mg L) (by have:=yI L;omega) (C9 _ L (Nat.zero_le _) hm) (mg L) (⟨#[]⟩:af) 0 k' rfl (Nat.zero_le _) (by have:=yI L;omega)
        rw[Ww] at hl
        simp only[ay.l1]
        rw[if_neg aa,h]
        exact hl
      · exact Or.inr hr
    have go:∀ out',out'.length<=i+1->r≠[]->r.foldl vX out'=L.foldl vX []->ay.l1 k L out' ((i+1:Nat):Int)=some (oC (mg L)):=fun out' a b c=>ih out' (i+1) k hd a b c aa
    have hlast:r = []->BZ L=(yO x||Na x):=fun hr=>DW L x i (hend.2 hr) hx
    have hred:r = []->vX out x=L.foldl vX []:=fun hr=>by rw[hr] at h4;exact h4
    have wl:wrap64 ((out.length:Int)-1)=((out.length:Int)-1):=ak aa aa
    have j5:∀(out':List ByteArray) (b:Bool),b=(yO x||Na x)->out'.length<=i->vX out x=(if b=true then out' else out' ++ [x])->ay.j5 (k+1) L out' (i:Int) b=some (oC (mg L)):=by
      intro out' b hb ho hs
      simp only[ay.j5]
      rw[dR i aa,zy L i x hx]
      cases b with
      |true=>
        rw[if_pos rfl] at hs ⊢
        by_cases hr:r = []
        · rw[if_pos (by have:=hend.2 hr;omega),if_pos aa]
          rcases fin (out' ++ [(⟨#[]⟩:af)]) (by unfold mg;rw[<- hred hr,hs,hlast hr,<- hb,if_pos rfl]) with h|h
          · exact h
          · exact absurd hr h
        · rw[if_neg (by have q:¬ i+1=L.length:=fun e=>hr (hend.1 e);omega)]
          exact go out' aa hr (by rw[<- hs];exact h4)
      |false=>
        rw[if_neg av] at hs ⊢
        rw[if_pos aa,if_pos aa,if_pos aa]
        by_cases hr:r = []
        · rcases fin (out' ++ [x]) (by unfold mg;rw[<- hred hr,hs,hlast hr,<- hb,if_neg av,List.append_nil]) with h|h
          · exact h
          · exact absurd hr h
        · exact go _ (by rw[List.length_append,List.length_singleton];omega) hr (by rw[<- hs];exact h4)
    have j3:∀ b:Bool,b=(yO x||Na x)->ay.j3 (k+3) L out (i:Int) b=some (oC (mg L)):=by
      intro b hb
      simp only[ay.j3]
      rw[if_pos aa,if_pos aa,zy L i x hx,Wv]
      have hnd:Na x=true->yO x=false:=by
        intro h
        unfold Na at h
        unfold yO
        rw[aX h]
        decide
      by_cases c2:Na x=true
      · have c1:=hnd c2
        have hb':b=true:=by rw[hb,c1,c2];rfl
        have hs:vX out x=out.take (out.length-1):=by unfold vX;rw[c1,if_neg av,if_pos c2]
        rw[if_pos c2]
        simp only[ay.j4]
        by_cases c3:out.length=0
        · rw[aT aa,if_neg av]
          refine j5 out b hb h2 ?_
          rw[hs,hb',if_pos rfl,List.length_eq_zero_iff.1 c3]
          rfl
        · rw[aQ aa,if_pos rfl,wl,if_pos aa,if_pos aa,show((out.length:Int)-1).toNat=out.length-1 by omega]
          refine j5 _ b hb (by rw[List.length_take];omega) ?_
          rw[hs,hb',if_pos rfl]
      · rw[if_neg c2]
        simp only[ay.j4]
        rw[if_neg av]
        refine j5 out b hb h2 ?_
        unfold vX
        have c2':Na x=false:=by simpa using c2
        rw[hb,c2',Bool.or_false]
        cases c1:yO x with
        |true=>rfl
        |false=>rfl
    simp only[ay.l1]
    rw[if_pos aa,if_pos aa,zy L i x hx,OP]
    by_cases c1:yO x=true
    · rw[if_pos c1]
      exact j3 true (by rw[c1];rfl)
    · have c1':yO x=false:=by simpa using c1
      rw[if_neg c1]
      refine j3 _ ?_
      rw[c1',Bool.false_or]
      unfold Na
      by_cases h:x.toList=([46,46]:aM)
      · rw[aQ h,h];rfl
      · rw[aT h,beq_eq_false_iff_ne.2 h]
def nM (p:af):ByteArray:=
  if 0<p.size/\p.size<=200/\bt p 0=47/\qY p=true/\¬ aK p 35<p.size/\¬ aK p 63<p.size then oC (mg (eu ((jq p).extract 1 (jq p).size) 47)) else(⟨#[]⟩:af)

theorem Da (s:af) (c:Int):eu s c≠[]:=by
  have:=(zw s c s.size 0 0).2
  intro h
  unfold eu at h
  rw[h] at this
  exact absurd this av
theorem pQ (s:af) (c:Int):(eu s c).length<=s.size+1:=(zw s c s.size 0 0).1
theorem OQ (u:af) (hu:u.size<=200):strings_Split.f (u.extract 1 u.size) (⟨#[47]⟩:af)=some (eu (u.extract 1 u.size) 47):=ML _ 47 (by rw[size_extract];omega)
theorem kT (u:af) (a b:Nat) (hu:u.size<=200):(u.extract a b).size<=200:=by rw[size_extract];omega
theorem Es (p:af) (hp:p.size<=200) (hu:1<=(jq p).size):∀(d i k:Nat),i+d=p.size->(∀ m:Nat,m<i->bt p (m:Int)≠35/\bt p (m:Int)≠63)->d+4000<k->
    ay.l0 k p (i:Int)=some (if ¬ aK p 35<p.size/\¬ aK p 63<p.size then oC (mg (eu ((jq p).extract 1 (jq p).size) 47)) else(⟨#[]⟩:af)):=by
  intro d
  induction d with
  |zero=>
    intro i k h hno hk
    obtain⟨k,rfl⟩:=aN k aa
    have e1:aK p 35=p.size:=qx _ _ _ (Nat.le_refl _) (fun m hm=>(hno m aa).1) (fun q=>absurd q aa)
    have e2:aK p 63=p.size:=qx _ _ _ (Nat.le_refl _) (fun m hm=>(hno m aa).2) (fun q=>absurd q aa)
    have hz:=zX p
    have hz2:=kT (jq p) 1 (jq p).size aa
    have hlen:=pQ ((jq p).extract 1 (jq p).size) 47
    simp only[ay.l0]
    rw[if_neg aa,if_pos ⟨by omega,by omega⟩,Ik p aa k aa,aj,if_pos aa,zx _ aa 47 k aa,aj]
    exact Im (eu ((jq p).extract 1 (jq p).size) 47) aa (Da _ _) (fun x hx=>by have:=wX _ _ _ _ _ x hx;omega) (eu ((jq p).extract 1 (jq p).size) 47) [] 0 k rfl (Nat.le_refl _) (Da _ _) rfl aa
  |succ d ih=>
    intro i k h hno hk
    obtain⟨k,rfl⟩:=aN k aa
    simp only[ay.l0]
    rw[if_pos aa,if_pos aa,dR i aa]
    by_cases c1:bt p (i:Int)=35
    · have e1:aK p 35=i:=qx _ _ _ aa (fun m hm=>(hno m hm).1) (fun _=>c1)
      rw[if_pos c1,if_neg (fun q=>q.1 aa)]
    · rw[if_neg c1]
      by_cases c2:bt p (i:Int)=63
      · have e1:aK p 63=i:=qx _ _ _ aa (fun m hm=>(hno m hm).2) (fun _=>c2)
        rw[if_pos c2,if_neg (fun q=>q.2 aa)]
      · rw[if_neg c2]
        refine ih (i+1) k aa (fun m hm=>?_) aa
        by_cases q:m=i
        · rw[q];exact⟨c1,c2⟩
        · exact hno m aa
theorem Jm (s:af):∀(d:Nat) (out:List Int) (i:Nat),∃ r,ER s d out i=out++r:=by
  intro d
  induction d with
  |zero=>intro out i;exact⟨[],by simp[ER]⟩
  |succ d ih=>
    intro out i
    unfold ER
    split
    · split
      · obtain⟨r,h⟩:=ih (out++Ii s i) (i+3);exact⟨Ii s i++r,by rw[h,List.append_assoc]⟩
      · obtain⟨r,h⟩:=ih (out ++ [bt s (i:Int)]) (i+1);exact⟨[bt s (i:Int)]++r,by rw[h,List.append_assoc]⟩
    · exact⟨[],by simp⟩
theorem Jn (p:af) (h:0<p.size):1<=(jq p).size:=by
  unfold jq
  rw[strOfNums_size]
  obtain⟨d,hd⟩:∃ d,p.size=d+1:=⟨p.size-1,by omega⟩
  rw[hd,ER,if_pos h]
  split
  · obtain⟨r,hr⟩:=Jm p d ([]++Ii p 0) (0+3)
    rw[hr,List.length_append]
    have:1<=([]++Ii p 0).length:=by
      unfold Ii
      split <;> simp
    omega
  · obtain⟨r,hr⟩:=Jm p d ([] ++ [bt p ((0:Nat):Int)]) (0+1)
    rw[hr,List.length_append]
    simp
theorem zz (p:af) (hp:p.size<=1048576) (k:Nat) (hk:1060000<k):ay.f k p=some (nM p):=by
  have no:ay.j0 k p true=some (⟨#[]⟩:af):=by
    obtain⟨k,rfl⟩:=aN k aa
    simp only[ay.j0];rfl
  unfold ay.f nM
  by_cases c1:0<p.size
  case neg=>rw[if_pos aa,no,if_neg (fun q=>c1 q.1)]
  rw[if_neg aa]
  by_cases c2:p.size<=200
  case neg=>rw[if_pos aa,no,if_neg (fun q=>c2 q.2.1)]
  rw[if_neg aa,if_pos aa]
  by_cases c3:bt p 0=47
  case neg=>rw[if_neg c3,no,if_neg (fun q=>c3 q.2.2.1)]
  rw[if_pos c3,oo p hp k aa,aj,aQ c1,Bool.true_and]
  cases c4:qY p with
  |false=>
    rw[if_neg (fun q=>by cases q.2.2.2.1)]
    exact no
  |true=>
    obtain⟨k,rfl⟩:=aN k aa
    simp only[ay.j0]
    have hs:=Es p c2 (Jn p c1) p.size 0 k aa (fun m hm=>absurd hm aa) aa
    rw[show((0:Nat):Int)=0 from rfl] at hs
    rw[if_neg av,hs]
    congr 1
    by_cases c5:¬ aK p 35<p.size/\¬ aK p 63<p.size
    · rw[if_pos c5,if_pos ⟨c1,c2,c3,trivial,c5.1,c5.2⟩]
    · rw[if_neg c5,if_neg (fun q=>c5 ⟨q.2.2.2.2.1,q.2.2.2.2.2⟩)]
theorem Wx (p:Int->Bool) (n:Nat):∀(d i:Nat),i+d=n->qj p d (i:Int)=true->∀ m:Nat,i<=m->m<n->p (m:Int)=true:=by
  intro d
  induction d with
  |zero=>intro i h _ m h1 h2;omega
  |succ d ih=>
    intro i h hb m h1 h2
    unfold qj at hb
    rw[Bool.and_eq_true] at hb
    by_cases e:m=i
    · rw[e];exact hb.1
    · exact ih (i+1) aa hb.2 m aa h2
theorem Wy {s:ByteArray} (h:qY s=true) (m:Nat) (hm:m<s.size):33<=bt s (m:Int)/\bt s (m:Int)<=126:=by
  unfold qY at h
  have:=Wx _ s.size s.size 0 aa h m (Nat.zero_le _) hm
  exact aX this
theorem Jo {s:ByteArray} (h:qY s=true):s.data.toList.all (fun b=>decide (b.toNat<128))=true:=by
  rw[List.all_eq_true]
  intro b hb
  obtain⟨n,hn⟩:=List.mem_iff_getElem?.1 hb
  obtain⟨h1,h2⟩:=dZ hn
  have:=Wy h n h1
  exact aQ aa
theorem Ca (s:af) (c d:UInt8):Lib.indexAny s.data.toList [c,d]=if min (aK s (c.toNat:Int)) (aK s (d.toNat:Int))<s.size then((min (aK s (c.toNat:Int)) (aK s (d.toNat:Int)):Nat):Int) else -1:=by
  have hc:=jd s (c.toNat:Int)
  have hd:=jd s (d.toNat:Int)
  have no:∀ m:Nat,m<min (aK s (c.toNat:Int)) (aK s (d.toNat:Int))->bt s (m:Int)≠(c.toNat:Int)/\bt s (m:Int)≠(d.toNat:Int):=fun m hm=>⟨um _ _ m aa,um _ _ m aa⟩
  have nany:∀ i:Nat,i<=min (aK s (c.toNat:Int)) (aK s (d.toNat:Int))->Lib.NoAny s.data.toList [c,d] i:=by
    intro i
    induction i with
    |zero=>intro _;exact Lib.NoAny.zero _ _
    |succ i ih=>
      intro hi
      obtain⟨b,hb1,hb2⟩:=Qo (s:=s) (n:=i) aa
      refine(ih aa).succ hb1 ?_
      have:=no i aa
      rw[hb2] at this
      simp only[List.contains_cons,List.contains_nil,Bool.or_false,Bool.or_eq_false_iff,beq_eq_false_iff_ne,ne_eq]
      exact⟨fun e=>this.1 (by rw[e]),fun e=>this.2 (by rw[e])⟩
  by_cases h:min (aK s (c.toNat:Int)) (aK s (d.toNat:Int))<s.size
  · rw[if_pos h]
    obtain⟨b,hb1,hb2⟩:=Qo h
    refine Lib.indexAny_hit (nany _ (Nat.le_refl _)) hb1 ?_
    simp only[List.contains_cons,List.contains_nil,Bool.or_false,Bool.or_eq_true,beq_iff_eq]
    by_cases q:aK s (c.toNat:Int)<=aK s (d.toNat:Int)
    · left
      rw[Nat.min_eq_left q] at h hb2
      have:=vW _ _ h
      exact UInt8.toNat_inj.1 aa
    · right
      rw[Nat.min_eq_right aa] at h hb2
      have:=vW _ _ h
      exact UInt8.toNat_inj.1 aa
  · rw[if_neg h]
    exact Lib.indexAny_none (by rw[fP];have:=nany _ (Nat.le_refl _);rwa [show min (aK s (c.toNat:Int)) (aK s (d.toNat:Int))=s.size by omega] at this)
theorem zA (p:af) (hp:p.size<=1048576) (k:Nat) (hk:1060000<k):bu.f k p=some (nM p):=by
  have no:bu.j0 k p true=some (⟨#[]⟩:af):=by
    obtain⟨k,rfl⟩:=aN k aa
    simp only[bu.j0];rfl
  have ZR:(⟨#[47]⟩:af).size=1:=rfl
  have hpre:strings_HasPrefix.f p (⟨#[47]⟩:af)=some (decide (0<p.size/\bt p 0=47)):=by
    unfold strings_HasPrefix.f stringslite_HasPrefix.f
    rw[ZR]
    by_cases c1:0<p.size
    · rw[if_pos aa,if_pos aa,if_pos aa,aj]
      congr 1
      have e:(p.extract 0 (((1:Nat):Int)).toNat).toList = [p[0]'c1]:=by
        rw[ByteArray.toList_eq,Bn]
        have h3:0<p.data.toList.length:=by rw[fP];exact c1
        match hd:p.data.toList,h3 with
        |a::r,_=>
          have:p[0]'c1=a:=by
            have h4:p.data.toList[0]? = some a:=by rw[hd];rfl
            obtain⟨h5,h6⟩:=List.getElem?_eq_some_iff.1 h4
            rw[<- h6];rfl
          rw[this];rfl
      rw[e]
      have hb:bt p 0=((p[0]'c1).toNat:Int):=by
        unfold bt
        rw[dif_pos (show((0:Int)).toNat<p.size from c1)]
        rfl
      have hl:(⟨#[47]⟩:af).toList = [47]:=by decide +kernel
      rw[hl,hb]
      by_cases q:p[0]'c1=47
      · rw[q,aQ ⟨c1,by decide⟩];rfl
      · rw[aT (fun z=>q (UInt8.toNat_inj.1 (by have:=z.2;show _=47;omega)))]
        exact beq_eq_false_iff_ne.2 (fun z=>q (List.head_eq_of_cons_eq z))
    · rw[if_neg aa,aj,aT (fun q=>c1 q.1)]
  unfold bu.f nM
  rw[hpre,aj]
  by_cases c1:0<p.size/\bt p 0=47
  case neg=>rw[aT c1,if_neg av,no,if_neg (fun q=>c1 ⟨q.1,q.2.2.1⟩)]
  rw[aQ c1,if_pos rfl]
  by_cases c2:p.size<=200
  case neg=>rw[if_pos aa,no,if_neg (fun q=>c2 q.2.1)]
  rw[if_neg aa,oq p hp k aa,aj]
  cases c4:qY p with
  |false=>rw[if_neg av,no,if_neg (fun q=>by cases q.2.2.2.1)]
  |true=>
    have hany:strings_ContainsAny.f p (⟨#[35,63]⟩:af)=some (decide (aK p 35<p.size∨aK p 63<p.size)):=by
      unfold strings_ContainsAny.f strings_IndexAny.f
      have hl:(⟨#[35,63]⟩:af).data.toList = [35,63]:=rfl
      rw[hl,if_neg (fun q=>absurd q.1 av),if_pos ⟨Or.inr rfl,Jo c4,by omega⟩,aj,Ca p 35 63]
      congr 1
      have a:=jd p 35
      have b:=jd p 63
      show decide ((if min (aK p 35) (aK p 63)<p.size then((min (aK p 35) (aK p 63):Nat):Int) else -1)>=0)=_
      by_cases h:min (aK p 35) (aK p 63)<p.size
      · rw[if_pos h,aQ aa,aQ aa]
      · rw[if_neg h,aT aa,aT aa]
    rw[if_pos rfl,hany,aj]
    by_cases c5:aK p 35<p.size∨aK p 63<p.size
    · rw[aQ c5,no,if_neg (fun q=>c5.elim q.2.2.2.2.1 q.2.2.2.2.2)]
    · obtain⟨k,rfl⟩:=aN k aa
      have hz:=zX p
      have hz1:=Jn p c1.1
      have hz2:=kT (jq p) 1 (jq p).size aa
      have hlen:=pQ ((jq p).extract 1 (jq p).size) 47
      rw[aT c5,if_pos ⟨c1.1,c2,c1.2,rfl,fun q=>c5 (Or.inl q),fun q=>c5 (Or.inr q)⟩]
      simp only[bu.j0]
      rw[if_neg av,Ij p aa k aa,aj,if_pos aa,OQ _ aa,aj]
      exact Il (eu ((jq p).extract 1 (jq p).size) 47) aa (Da _ _) (fun x hx=>by have:=wX _ _ _ _ _ x hx;omega) (eu ((jq p).extract 1 (jq p).size) 47) [] 0 k rfl (Nat.le_refl _) (fun x hx=>by cases hx) rfl aa

def Lc (c:Int):Bool:=decide (97<=c/\c<=122)||(decide (48<=c/\c<=57)||decide (c=45))
theorem Db (c:Int):oQ.f c=some (Lc c||decide (c=46)):=by
  unfold oQ.f qE.f gF.f Lc
  by_cases a:c>=97
  · rw[if_pos a,aj]
    by_cases b:c<=122
    · rw[aQ b,if_pos rfl,aQ ⟨a,b⟩];rfl
    · rw[aT b,if_neg av,if_pos aa,aj,aT aa,if_neg av,if_neg aa]
      rw[aT (fun q:97<=c/\c<=122=>b q.2),aT (fun q:48<=c/\c<=57=>by omega),aT (by omega:¬ c=45),aT (by omega:¬ c=46),beq_eq_false_iff_ne.2 aa];rfl
  · rw[if_neg a,aj,if_neg av,aT (fun q:97<=c/\c<=122=>a q.1),Bool.false_or]
    by_cases d:c>=48
    · rw[if_pos d,aj]
      by_cases e:c<=57
      · rw[aQ e,if_pos rfl,aQ ⟨d,e⟩];rfl
      · rw[aT e,if_neg av,if_neg aa,aT (fun q:48<=c/\c<=57=>e q.2),aT (by omega:¬ c=45),aT (by omega:¬ c=46),beq_eq_false_iff_ne.2 aa];rfl
    · rw[if_neg d,aj,if_neg av,aT (fun q:48<=c/\c<=57=>d q.1),Bool.false_or]
      by_cases f:c=45
      · rw[if_pos f,aQ f];rfl
      · rw[if_neg f,aT f,Bool.false_or]
        by_cases g:c=46
        · rw[aQ g,g];rfl
        · rw[aT g,beq_eq_false_iff_ne.2 g]
theorem Et (s:af) (hs:s.size<=1048576) (k:Nat) (hk:s.size+1<k):cK.f k s=some (qj (fun i=>Lc (bt s i)||decide (bt s i=46)) s.size 0):=by
  refine pM (fun k i=>cK.l0 k s i) s.size _ 1 (fun k i hi=>by simp only[cK.l0];rw[if_neg aa]) (fun k i h0 h1 hk=>?_) k aa
  simp only[cK.l0]
  rw[if_pos h1,if_pos h0,Db,aj,ak aa aa]
def pR (x:af):Bool:=!decide (x.size=0)&&qj (fun i=>Lc (bt x i)) x.size 0
theorem kr (x:af):x.toList=([]:aM)↔x.size=0:=toList_nil x
theorem Gs (L:List ByteArray) (i:Nat) (x:af) (hx:L[i]? = some x) (hxs:x.size<=1048576) (hi:i<L.length) (hl:L.length<=1048576):∀(d j k:Nat),j+d=x.size->d<k->
    bA.l1 (k+1) L (i:Int) (j:Int)=if qj (fun q=>Lc (bt x q)) d (j:Int)=true then bA.l0 (k-d) L ((i+1:Nat):Int) else some false:=by
  intro d
  induction d with
  |zero=>
    intro j k h hk
    simp only[bA.l1,qj]
    rw[if_pos aa,if_pos aa,zy L i x hx,if_neg aa,dR i aa]
    rfl
  |succ d ih=>
    intro j k h hk
    obtain⟨k,rfl⟩:=aN k aa
    have hw:wrap64 ((j:Int)+1)=((j+1:Nat):Int):=dR j aa
    have nx:=ih (j+1) k aa aa
    rw[show k+1-(d+1)=k-d by omega]
    have e:∀ b:Bool,qj (fun q=>Lc (bt x q)) (d+1) (j:Int)=(Lc (bt x (j:Int))&&qj (fun q=>Lc (bt x q)) d ((j:Int)+1)):=fun _=>rfl
    have e2:((j:Int)+1)=((j+1:Nat):Int):=by omega
    rw[e true,e2]
    rw[bA.l1]
    rw[if_pos aa,if_pos aa,zy L i x hx,if_pos aa,if_pos aa,hw,nx]
    generalize hc:bt x (j:Int)=c
    unfold Lc dQ.f
    by_cases a:c>=97
    · rw[if_pos a]
      by_cases b:c<=122
      · rw[if_pos b,aQ ⟨a,b⟩,Bool.true_or,Bool.true_and]
      · rw[if_neg b,if_pos aa,aj,aT aa,if_neg av,if_neg aa,aT (fun q:97<=c/\c<=122=>b q.2),aT (fun q:48<=c/\c<=57=>by omega),aT (by omega:¬ c=45)]
        rfl
    · rw[if_neg a,aT (fun q:97<=c/\c<=122=>a q.1),Bool.false_or]
      by_cases d':c>=48
      · rw[if_pos d',aj]
        by_cases e':c<=57
        · rw[aQ e',if_pos rfl,aQ ⟨d',e'⟩,Bool.true_or,Bool.true_and]
        · rw[aT e',if_neg av,if_neg aa,aT (fun q:48<=c/\c<=57=>e' q.2),aT (by omega:¬ c=45)]
          rfl
      · rw[if_neg d',aj,if_neg av,aT (fun q:48<=c/\c<=57=>d' q.1),Bool.false_or]
        by_cases f:c=45
        · rw[if_pos f,aQ f,Bool.true_and]
        · rw[if_neg f,aT f,Bool.false_and]
          rfl
theorem Gt (L:List ByteArray) (hL:L.length<=1048576) (hm:∀ x∈L,x.size<=1048576):∀(r:List ByteArray) (i k:Nat),L.drop i=r->r.length*1048600<k->bA.l0 k L (i:Int)=some (r.all pR):=by
  intro r
  induction r with
  |nil=>
    intro i k h hk
    obtain⟨k,rfl⟩:=aN k aa
    have hi:=List.drop_eq_nil_iff.1 h
    simp only[bA.l0]
    rw[if_neg aa];rfl
  |cons x r ih=>
    intro i k h hk
    obtain⟨hx,hi,hd,-⟩:=drop_cons h
    have hxm:=hm x (List.mem_of_getElem? hx)
    rw[List.length_cons,Nat.add_mul,Nat.one_mul] at hk
    obtain⟨z,hz⟩:∃ z,z=r.length*1048600:=⟨_,rfl⟩
    rw[<- hz] at hk
    obtain⟨k,rfl⟩:∃ q,k=q+2:=⟨k-2,by omega⟩
    rw[bA.l0,if_pos aa,if_pos aa,zy L i x hx]
    rw[List.all_cons]
    unfold pR
    by_cases c:x.size=0
    · rw[if_pos ((kr x).2 c),aQ c];rfl
    · rw[if_neg (fun q=>c ((kr x).1 q)),aT c]
      have hb:=Gs L i x hx hxm hi hL x.size 0 k aa aa
      rw[show((0:Nat):Int)=0 from rfl] at hb
      rw[hb]
      cases hq:qj (fun q=>Lc (bt x q)) x.size 0 with
      |false=>rw[if_neg av];rfl
      |true=>
        rw[if_pos rfl,ih (i+1) (k-x.size) hd (by rw[<- hz];omega)]
        rfl
theorem yt (p:Int->Bool) (n:Nat):qj p n 0=true↔∀ m:Nat,m<n->p (m:Int)=true:=by
  constructor
  · intro h m hm
    exact Wx p n n 0 aa h m (Nat.zero_le _) hm
  · intro h
    have key:∀ d i:Nat,i+d=n->qj p d (i:Int)=true:=by
      intro d
      induction d with
      |zero=>intro i _;rfl
      |succ d ih=>
        intro i hi
        unfold qj
        rw[h i aa,Bool.true_and]
        exact ih (i+1) aa
    exact key n 0 aa
theorem MO (s:af):∀(d a i:Nat),i+d=s.size->a<=i->(∀ m:Nat,a<=m->m<i->Lc (bt s (m:Int))=true)->
    ((pieces s 46 d a i).all pR=true↔((pieces s 46 d a i).all (fun x=>!decide (x.size=0))=true/\∀ m:Nat,i<=m->m<s.size->(Lc (bt s (m:Int))||decide (bt s (m:Int)=46))=true)):=by
  have ext:∀(a b:Nat),a<=b->b<=s.size->(∀ m:Nat,a<=m->m<b->Lc (bt s (m:Int))=true)->(pR (s.extract a b)=true↔(!decide ((s.extract a b).size=0))=true):=by
    intro a b h1 h2 h3
    have hz:(s.extract a b).size=b-a:=by rw[size_extract];omega
    have:qj (fun i=>Lc (bt (s.extract a b) i)) (s.extract a b).size 0=true:=by
      rw[yt]
      intro m hm
      rw[iH _ _ _ _ aa aa aa,show((a:Int)+(m:Int))=((a+m:Nat):Int) by omega]
      exact h3 (a+m) aa aa
    unfold pR
    rw[this,Bool.and_true]
  intro d
  induction d with
  |zero=>
    intro a i h1 h2 h3
    simp only[pieces,List.all_cons,List.all_nil,Bool.and_true]
    rw[ext a s.size aa (Nat.le_refl _) (fun m q1 q2=>h3 m q1 aa)]
    constructor
    · intro h;exact⟨h,fun m q1 q2=>by omega⟩
    · intro h;exact h.1
  |succ d ih=>
    intro a i h1 h2 h3
    unfold pieces
    by_cases c:bt s (i:Int)=46
    · rw[if_pos c]
      simp only[List.all_cons,Bool.and_eq_true]
      rw[ext a i h2 aa h3,ih (i+1) (i+1) aa (Nat.le_refl _) (fun m q1 q2=>by omega)]
      constructor
      · rintro⟨x,y,z⟩
        refine⟨⟨x,y⟩,fun m q1 q2=>?_⟩
        by_cases e:m=i
        · rw[e,c];rfl
        · exact z m aa q2
      · rintro⟨⟨x,y⟩,z⟩
        exact⟨x,y,fun m q1 q2=>z m aa q2⟩
    · rw[if_neg c]
      by_cases e:Lc (bt s (i:Int))=true
      · rw[ih a (i+1) aa aa (fun m q1 q2=>by
          by_cases z:m=i
          · rw[z];exact e
          · exact h3 m q1 aa)]
        constructor
        · rintro⟨x,y⟩
          refine⟨x,fun m q1 q2=>?_⟩
          by_cases z:m=i
          · rw[z,e];rfl
          · exact y m aa q2
        · rintro⟨x,y⟩
          exact⟨x,fun m q1 q2=>y m aa q2⟩
      · have bad:∀(d a j:Nat),j+d=s.size->a<=i->i<j->(∀ m:Nat,a<=m->m<j->bt s (m:Int)≠46)->(pieces s 46 d a j).all pR=false:=by
          intro d
          induction d with
          |zero=>
            intro a j q1 q2 q3 q4
            simp only[pieces,List.all_cons,List.all_nil,Bool.and_true]
            cases hp:pR (s.extract a s.size) with
            |false=>rfl
            |true=>
              exfalso
              unfold pR at hp
              rw[Bool.and_eq_true,yt] at hp
              have hz:(s.extract a s.size).size=s.size-a:=by rw[size_extract];omega
              have:=hp.2 (i-a) aa
              rw[iH _ _ _ _ aa aa aa,show((a:Int)+((i-a:Nat):Int))=(i:Int) by omega] at this
              exact e this
          |succ d ih2=>
            intro a j q1 q2 q3 q4
            unfold pieces
            by_cases c2:bt s (j:Int)=46
            · rw[if_pos c2,List.all_cons]
              cases hp:pR (s.extract a j) with
              |false=>rfl
              |true=>
                exfalso
                unfold pR at hp
                rw[Bool.and_eq_true,yt] at hp
                have hz:(s.extract a j).size=j-a:=by rw[size_extract];omega
                have:=hp.2 (i-a) aa
                rw[iH _ _ _ _ aa aa aa,show((a:Int)+((i-a:Nat):Int))=(i:Int) by omega] at this
                exact e this
            · rw[if_neg c2]
              refine ih2 a (j+1) aa q2 aa (fun m z1 z2=>?_)
              by_cases z:m=j
              · rw[z];exact c2
              · exact q4 m z1 aa
        rw[bad d a (i+1) aa h2 aa (fun m z1 z2 hm=>by
          by_cases z:m=i
          · rw[z] at hm;exact c hm
          · have:=h3 m z1 aa;rw[hm] at this;exact absurd this av)]
        constructor
        · intro h;cases h
        · rintro⟨_,y⟩
          have:=y i (Nat.le_refl _) aa
          rw[aT c,Bool.or_false] at this
          exact absurd this e
def Gu (s:af):Bool:=decide (1<=s.size/\s.size<=60)&&(eu s 46).all pR
theorem KN (s:af) (hs:s.size<=1048576) (k:Nat) (hk:70000000<k):bA.f k s=some (Gu s):=by
  obtain⟨k,rfl⟩:=aN k aa
  unfold bA.f Gu
  by_cases c1:s.size=0
  · rw[if_pos aa,aT aa]
    simp only[bA.j0];rfl
  · rw[if_neg aa]
    by_cases c2:s.size<=60
    · rw[aT aa,aQ aa,Bool.true_and]
      have hl:=pQ s 46
      simp only[bA.j0]
      rw[if_neg av,zx s hs 46 k aa,aj]
      exact Gt (eu s 46) aa (fun x hx=>by have:=wX _ _ _ _ _ x hx;omega) (eu s 46) 0 k rfl (by
        have:(eu s 46).length*1048600<=61*1048600:=Nat.mul_le_mul_right _ aa
        omega)
    · rw[aQ aa,aT aa]
      simp only[bA.j0];rfl
theorem OT (L:List ByteArray) (hL:L.length<=1048576):∀(r:List ByteArray) (i k:Nat),L.drop i=r->r.length<k->∃ v:Int,bT.l0 k L (⟨#[]⟩:af) (L.length:Int) (i:Int)=some v/\(decide (v>=0) = !(r.all fun x=>!decide (x.size=0))):=by
  intro r
  induction r with
  |nil=>
    intro i k h hk
    obtain⟨k,rfl⟩:=aN k aa
    have hi:=List.drop_eq_nil_iff.1 h
    simp only[bT.l0]
    rw[if_neg aa]
    exact⟨-1,rfl,by rfl⟩
  |cons x r ih=>
    intro i k h hk
    obtain⟨k,rfl⟩:=aN k aa
    obtain⟨hx,hi,hd,-⟩:=drop_cons h
    rw[List.length_cons] at hk
    have he:(⟨#[]⟩:af).toList=([]:aM):=by decide +kernel
    simp only[bT.l0]
    rw[if_pos aa,if_pos aa,if_pos aa,zy L i x hx,he,dR i aa,List.all_cons]
    by_cases c:x.size=0
    · rw[if_pos ((kr x).2 c).symm]
      refine⟨(i:Int),rfl,?_⟩
      rw[aQ c,aQ aa];rfl
    · rw[if_neg (fun q=>c ((kr x).1 q.symm)),aT c,Bool.not_false,Bool.true_and]
      exact ih (i+1) k hd aa
theorem KO (s:af) (hs:s.size<=1048576) (k:Nat) (hk:1060000<k):iW.f k s=some (Gu s):=by
  obtain⟨k,rfl⟩:=aN k aa
  have no:iW.j0 (k+1) s true=some false:=by simp only[iW.j0];rfl
  unfold iW.f Gu
  rw[pV,aj]
  by_cases c1:1<=s.size/\s.size<=60
  case neg=>rw[if_neg (by rw[aT aa];decide),no,aT c1,Bool.false_and]
  rw[if_pos (aQ aa),Et s hs (k+1) aa,aj,aQ c1,Bool.true_and]
  have hp:=MO s s.size 0 0 aa (Nat.le_refl _) (fun m a b=>by omega)
  have hall:(qj (fun i=>Lc (bt s i)||decide (bt s i=46)) s.size 0=true)↔∀ m:Nat,0<=m->m<s.size->(Lc (bt s (m:Int))||decide (bt s (m:Int)=46))=true:=by
    rw[yt]
    exact⟨fun h m _ b=>h m b,fun h m b=>h m (Nat.zero_le _) b⟩
  have hl:=pQ s 46
  cases hq:qj (fun i=>Lc (bt s i)||decide (bt s i=46)) s.size 0 with
  |false=>
    have:(eu s 46).all pR=false:=by
      cases hz:(eu s 46).all pR with
      |false=>rfl
      |true=>
        have:=hall.2 (hp.1 hz).2
        rw[hq] at this;cases this
    rw[this]
    exact no
  |true=>
    simp only[iW.j0]
    obtain⟨v,hv1,hv2⟩:=OT (eu s 46) aa (eu s 46) 0 k rfl aa
    have hcon:fI.f k (eu s 46) (⟨#[]⟩:af)=some (!((eu s 46).all fun x=>!decide (x.size=0))):=by
      unfold fI.f bT.f
      rw[show((0:Nat):Int)=0 from rfl] at hv1
      rw[hv1,aj,hv2]
    have hsp:strings_Split.f s (⟨#[46]⟩:af)=some (eu s 46):=ML s 46 aa
    rw[if_neg av,hsp,aj,hcon,aj,Bool.not_not]
    congr 1
    have hq':=hall.1 hq
    cases hz:(eu s 46).all pR with
    |true=>exact(hp.1 hz).1
    |false=>
      cases hy:(eu s 46).all (fun x=>!decide (x.size=0)) with
      |false=>rfl
      |true=>
        have:=hp.2 ⟨hy,hq'⟩
        unfold eu at hz
        rw[hz] at this;cases this

theorem Dc (x:Nat) (hx:x<10):strOfNums [(wrap64 (48+(x:Int)))%256]=(⟨#[UInt8.ofNat (48+x)]⟩:af):=by
  rw[ak aa aa]
  unfold strOfNums
  have e:((48+(x:Int))%256).toNat=48+x:=by omega
  simp[e]
theorem Wz : ∀(d u:Nat),u<10 ^ (d+1)->u<=999999999999999->d<=20->∀ k,2*d+2<=k->bX.f k (u:Int)=some ⟨(Lib.decDigits u).toArray⟩:=by
  intro d
  induction d with
  |zero=>
    intro u hu hu2 hd k hk
    obtain⟨k,rfl⟩:∃ m,k=m+2:=⟨k-2,by omega⟩
    have h10:u<10:=by simpa using hu
    rw[bX.f.eq_def]
    dsimp only
    rw[if_neg aa,aT aa,bX.j0.eq_def]
    dsimp only
    rw[if_neg av,if_pos aa,Dc u h10,Lib.decDigits_one h10]
  |succ d ih=>
    intro u hu hu2 hd k hk
    obtain⟨k,rfl⟩:∃ m,k=m+2:=⟨k-2,by omega⟩
    rw[bX.f.eq_def]
    dsimp only
    rw[if_neg aa,aT aa,bX.j0.eq_def]
    dsimp only
    rw[if_neg av]
    by_cases h10:u<10
    · rw[if_pos aa,Dc u h10,Lib.decDigits_one h10]
    · have e1:wrap64 (Int.tdiv (u:Int) 10)=((u / 10:Nat):Int):=by
        have:Int.tdiv (u:Int) 10=((u / 10:Nat):Int):=rfl
        rw[this,ak aa aa]
      have e2:Int.tmod (u:Int) 10=((u%10:Nat):Int):=rfl
      have hq:u / 10<10 ^ (d+1):=by
        rw[Nat.pow_succ] at hu
        omega
      rw[if_neg aa,e1,ih (u / 10) hq aa aa k aa,aj,aj,e2,Dc (u%10) aa]
      have hl:(Lib.decDigits (u / 10)).length<=21:=by
        have h1:=Lib.itoa_length_le ((u / 10:Nat):Int) aa aa
        unfold Lib.itoa at h1
        rw[if_neg aa,Int.toNat_natCast] at h1
        exact h1
      have hs1:(⟨(Lib.decDigits (u / 10)).toArray⟩:af).size<=21:=by simpa [ByteArray.size] using hl
      have hs2:(⟨#[UInt8.ofNat (48+u%10)]⟩:af).size=1:=rfl
      have e3:Lib.decDigits u=Lib.decDigits (u / 10) ++ [UInt8.ofNat (48+u%10)]:=by rw[Lib.decDigits,dif_neg h10]
      rw[if_pos aa,e3]
      congr 1
theorem jE (n:Int) (h0:0<=n) (h1:n<=999999999999999) (k:Nat) (hk:100<=k):bX.f k n=some (iQ n):=by
  obtain⟨u,rfl⟩:=Int.eq_ofNat_of_zero_le h0
  rw[Wz 15 u aa aa av k aa]
  unfold iQ Lib.itoa
  rw[if_neg aa,Int.toNat_natCast]

theorem Jp : ∀(l r:List UInt8) (acc m:Nat),Lib.parseUint10 acc l = .ok m->Lib.parseUint10 acc (l++r)=Lib.parseUint10 m r
  |[],r,acc,m,h=>by
    simp only[Lib.parseUint10] at h
    injection h with h
    rw[h];rfl
  |c::l,r,acc,m,h=>by
    simp only[Lib.parseUint10,List.cons_append] at h ⊢
    split at h
    · rename_i h1
      rw[if_pos h1]
      split at h
      · cases h
      · rename_i h2
        rw[if_neg h2]
        split at h
        · cases h
        · rename_i h3
          rw[if_neg h3]
          exact Jp l r _ m h
    · cases h
theorem yu (acc d:Nat) (hd:d<10) (ha:acc<=999999999999999):Lib.parseUint10 acc [UInt8.ofNat (48+d)] = .ok (acc*10+d):=by
  have e:(UInt8.ofNat (48+d)).toNat=48+d:=by
    rw[UInt8.toNat_ofNat']
    omega
  simp only[Lib.parseUint10,e]
  rw[if_pos aa,if_neg aa,if_neg aa]
  congr 1;omega
theorem Rw : ∀(d u:Nat),u<10 ^ (d+1)->u<=999999999999999->Lib.parseUint10 0 (Lib.decDigits u) = .ok u/\(Lib.decDigits u).length<=d+1/\Lib.decDigits u≠[]:=by
  intro d
  induction d with
  |zero=>
    intro u hu h15
    have h10:u<10:=by simpa using hu
    rw[Lib.decDigits_one h10]
    exact⟨by rw[yu 0 u h10 aa];congr 1;omega,by simp,by simp⟩
  |succ d ih=>
    intro u hu h15
    by_cases h10:u<10
    · rw[Lib.decDigits_one h10]
      exact⟨by rw[yu 0 u h10 aa];congr 1;omega,by simp,by simp⟩
    · have e3:Lib.decDigits u=Lib.decDigits (u / 10) ++ [UInt8.ofNat (48+u%10)]:=by rw[Lib.decDigits,dif_neg h10]
      obtain⟨h1,h2,h3⟩:=ih (u / 10) (by rw[Nat.pow_succ] at hu;omega) aa
      rw[e3]
      refine⟨?_,by simp;omega,by simp⟩
      rw[Jp _ _ _ _ h1,yu (u / 10) (u%10) aa aa]
      congr 1;omega
theorem MP {c:UInt8} {r:List UInt8} {acc m:Nat} (h:Lib.parseUint10 acc (c::r) = .ok m):48<=c.toNat/\c.toNat<=57:=by
  simp only[Lib.parseUint10] at h
  split at h
  · assumption
  · cases h
theorem De {l:List UInt8} {u:Nat} (hl:l≠[]) (h:Lib.parseUint10 0 l = .ok u) (hu:u<=999999999999999):Lib.atoiAll l = .ok (u:Int):=by
  cases l with
  |nil=>exact absurd rfl hl
  |cons c r=>
    have hc:=MP h
    unfold Lib.atoiAll Lib.parseMag
    simp only
    rw[if_neg (show ¬ (c.toNat=43∨c.toNat=45) by omega),if_neg (show ¬ (c::r = []) by simp),h]
    simp only
    rw[if_neg aa,if_neg aa,if_neg aa]
theorem OU (v:Int) (h0:0<=v):(iQ v).toList=Lib.decDigits v.toNat:=by
  rw[ByteArray.toList_eq]
  unfold iQ Lib.itoa
  rw[if_neg aa]
theorem WA (s:af) (h:(nX s).2=true):nX s=((nX s).1,true)/\0<=(nX s).1/\(nX s).1<=999999999999999/\s.data.toList=Lib.decDigits (nX s).1.toNat:=by
  unfold nX at h ⊢
  rcases hA:Lib.atoiAll s.data.toList with v|_|_
  · rw[hA] at h
    simp only at h ⊢
    by_cases hc:0<=v/\v<=999999999999999/\(iQ v).toList=s.toList
    · rw[if_pos hc]
      exact⟨rfl,hc.1,hc.2.1,by rw[<- ByteArray.toList_eq,<- hc.2.2,OU v hc.1]⟩
    · rw[if_neg hc] at h;cases h
  · rw[hA] at h;cases h
  · rw[hA] at h;cases h
theorem zY (s:af) (h:(nX s).2=false):nX s=(0,false):=by
  unfold nX at h ⊢
  rcases hA:Lib.atoiAll s.data.toList with v|_|_
  · rw[hA] at h
    simp only at h ⊢
    split
    · rename_i hc;rw[if_pos hc] at h;cases h
    · rfl
  · rfl
  · rfl
def WB (s:af):Lib.NumEnd Nat->Int×Bool
  |.ok n=>if(iQ (n:Int)).toList=s.toList then((n:Int),true) else(0,false)
  |_=>(0,false)
theorem Df (acc i m:Nat) (ha:acc<10 ^ i) (hi:i<=m):acc<10 ^ m:=Nat.lt_of_lt_of_le ha (Nat.pow_le_pow_right av hi)
theorem aer : (10:Nat) ^ 14=100000000000000:=by decide
theorem WC : (10:Nat) ^ 15=1000000000000000:=by decide
theorem WE (acc x i:Nat) (ha:acc<10 ^ i) (hx:x<=9):acc*10+x<10 ^ (i+1):=by
  rw[Nat.pow_succ]
  have h:(acc+1)*10<=10 ^ i*10:=Nat.mul_le_mul_right 10 ha
  omega
theorem WG (s:af) (hs:s.size<=15):∀(d:Nat) (acc i:Nat),i<=s.size->s.size-i=d->ae (acc<10 ^ i)->∀ k,d+120<k->
    eP.l0 k s (acc:Int) (i:Int)=some (WB s (Lib.parseUint10 acc (s.data.toList.drop i)))/\(∀ n,Lib.parseUint10 acc (s.data.toList.drop i) = .ok n->n<10 ^ s.size):=by
  intro d
  induction d with
  |zero=>
    intro acc i h0 hd ha k hk
    have hi:i=s.size:=by omega
    have hp2:acc<=999999999999999:=by
      have h1:=Df acc i 15 ha.out aa
      rw[WC] at h1
      omega
    rw[List.drop_of_length_le (by rw[CW];omega)]
    obtain⟨k,rfl⟩:=aN k aa
    refine⟨?_,fun n hn=>?_⟩
    · simp only[eP.l0,Lib.parseUint10,WB]
      rw[if_neg aa,jE (acc:Int) aa aa k aa,aj]
      split <;> rfl
    · simp only[Lib.parseUint10] at hn
      injection hn with hn
      rw[<- hn,<- hi];exact ha.out
  |succ d ih=>
    intro acc i h0 hd ha k hk
    obtain⟨k,rfl⟩:=aN k aa
    obtain⟨b,hb1,hb2⟩:=Qo (s:=s) (n:=i) aa
    obtain⟨hb3,hb4⟩:=List.getElem?_eq_some_iff.mp hb1
    have hp:acc<=99999999999999:=by
      have h1:=Df acc i 14 ha.out aa
      rw[aer] at h1
      omega
    have hwi:=dR i aa
    rw[List.drop_eq_getElem_cons hb3,hb4]
    clear hb1 hb3 hb4
    simp only[eP.l0,Lib.parseUint10]
    rw[if_pos aa,if_pos aa,hb2,Ig,aj,hwi]
    clear hwi hb2
    by_cases hd2:48<=b.toNat/\b.toNat<=57
    · have hdg:dg b=true:=aQ hd2
      have hwv:wrap64 (wrap64 ((acc:Int)*10)+((b.toNat:Int)-48)%256)=((acc*10+(b.toNat-48):Nat):Int):=by
        rw[ak (x:=(acc:Int)*10) aa aa,ak aa aa]
        omega
      rw[if_pos hdg,if_pos hd2,if_neg aa,if_neg aa,hwv]
      exact ih (acc*10+(b.toNat-48)) (i+1) aa aa ⟨WE acc (b.toNat-48) i ha.out aa⟩ k aa
    · have hdg:dg b=false:=aT hd2
      rw[hdg,if_neg av,if_neg hd2]
      exact⟨rfl,fun n hn=>by cases hn⟩
theorem Eu (s:af) (k:Nat) (hk:200<k):eP.f k s=some (nX s):=by
  have inv:(nX s).2=true->1<=s.size/\s.size<=15/\Lib.parseUint10 0 s.data.toList = .ok (nX s).1.toNat:=by
    intro h
    obtain⟨_,h1,h2,h3⟩:=WA s h
    obtain⟨p1,p2,p3⟩:=Rw 14 (nX s).1.toNat (by
      have e:10 ^ (14+1)=1000000000000000:=by decide
      omega) aa
    rw[<- h3] at p1 p2 p3
    rw[CW] at p2
    refine⟨?_,by omega,p1⟩
    rcases Nat.eq_zero_or_pos s.size with h0|h0
    · exact absurd (List.eq_nil_of_length_eq_zero (by rw[CW];exact h0)) p3
    · exact h0
  obtain⟨k,rfl⟩:=aN k aa
  unfold eP.f
  have no:(nX s).2=false->some ((0:Int),false)=some (nX s):=fun h=>by rw[zY s h]
  by_cases h0:s.size=0
  · rw[if_pos aa]
    simp only[eP.j0]
    exact no (by cases hb:(nX s).2 with|false=>rfl|true=>have:=inv hb;omega)
  · rw[if_neg aa]
    by_cases h15:s.size>15
    · rw[aQ aa]
      simp only[eP.j0]
      exact no (by cases hb:(nX s).2 with|false=>rfl|true=>have:=inv hb;omega)
    · rw[aT aa]
      simp only[eP.j0]
      rw[if_neg av]
      have hl:=WG s aa s.size 0 0 (Nat.zero_le _) aa ⟨by decide⟩ k aa
      rw[List.drop_zero] at hl
      refine hl.1.trans ?_
      congr 1
      rcases hP:Lib.parseUint10 0 s.data.toList with n|_|_
      · have hn:=hl.2 n hP
        have aun:n<=999999999999999:=by
          have h1:=Df n s.size 15 hn aa
          rw[WC] at h1
          clear hn hP hl
          omega
        clear hn
        have hne:s.data.toList≠[]:=fun e=>h0 (by rw[<- CW,e];rfl)
        unfold nX
        rw[De hne hP aun]
        simp only[WB]
        by_cases he:(iQ (n:Int)).toList=s.toList
        · rw[if_pos he,if_pos ⟨by omega,by omega,he⟩]
        · rw[if_neg he,if_neg (fun x=>he x.2.2)]
      · have hb:(nX s).2=false:=by cases hb:(nX s).2 with|false=>rfl|true=>have:=(inv hb).2.2;rw[hP] at this;cases this
        rw[zY s hb];rfl
      · have hb:(nX s).2=false:=by cases hb:(nX s).2 with|false=>rfl|true=>have:=(inv hb).2.2;rw[hP] at this;cases this
        rw[zY s hb];rfl

def vY (p:Int):ByteArray:=if p=80 then(⟨#[]⟩:af) else(⟨#[58]⟩:af)++iQ p
def yw (q:af) (hq:Bool):ByteArray:=if hq=true then(⟨#[63]⟩:af)++q else(⟨#[]⟩:af)
def Gv (h:af) (p:Int) (path q:af) (hq:Bool):ByteArray:=((((⟨#[104,116,116,112,58,47,47]⟩:af)++h)++vY p)++path)++yw q hq
theorem wZ (p:Int) (h0:0<=p) (h1:p<=999999999999999):(vY p).size<=22:=by
  unfold vY
  split
  · exact Nat.zero_le _
  · have h:=Lib.itoa_length_le p aa aa
    have e:(iQ p).size=(Lib.itoa p).length:=by simp[iQ,ByteArray.size]
    have e2:(⟨#[58]⟩:af).size=1:=rfl
    rw[ByteArray.size_append,e2]
    omega
theorem MQ (q:af) (hq:Bool):(yw q hq).size<=1+q.size:=by
  unfold yw
  split
  · rw[ByteArray.size_append];exact Nat.le_refl _
  · exact Nat.zero_le _
theorem KP (h:af) (p:Int) (path q:af) (hq:Bool) (h0:0<=p) (h1:p<=999999999999999) (k:Nat) (hk:100<=k):qR.f k h p path q hq=some (vY p):=by
  have hz:=wZ p h0 h1
  unfold qR.f
  unfold vY at hz ⊢
  by_cases e:p=80
  · rw[if_pos e,if_pos e]
  · rw[if_neg e] at hz
    rw[if_neg e,if_neg e,jE p h0 h1 k hk,aj,if_pos (by rw[ByteArray.size_append] at hz;omega)]
theorem KQ (h:af) (p:Int) (path q:af) (hq:Bool) (h0:0<=p) (h1:p<=999999999999999):nZ.f h p path q hq=some (vY p):=by
  have hz:=wZ p h0 h1
  unfold nZ.f
  unfold vY at hz ⊢
  by_cases e:p=80
  · rw[if_pos e,if_pos e]
  · rw[if_neg e] at hz
    have hi:iw.f p=some (iQ p):=if_pos ⟨by omega,by omega⟩
    rw[if_neg e,if_neg e,hi,aj,if_pos (by rw[ByteArray.size_append] at hz;omega)]
theorem acM : (⟨#[104,116,116,112,58,47,47]⟩:af).size=7:=rfl
theorem Cb (h:af) (p:Int) (path q:af) (hq:Bool) (h0:0<=p) (h1:p<=999999999999999) (hh:h.size<=1048576) (hp:path.size<=1048576) (hqs:q.size<=1048576) (k:Nat) (hk:100<=k) :
    jo.f k h p path q hq=some (Gv h p path q hq):=by
  have z1:=wZ p h0 h1
  have s1:((⟨#[104,116,116,112,58,47,47]⟩:af)++h).size=7+h.size:=by rw[ByteArray.size_append,acM]
  have s2:(((⟨#[104,116,116,112,58,47,47]⟩:af)++h)++vY p).size=7+h.size+(vY p).size:=by rw[ByteArray.size_append,s1]
  have s3:((((⟨#[104,116,116,112,58,47,47]⟩:af)++h)++vY p)++path).size=7+h.size+(vY p).size+path.size:=by rw[ByteArray.size_append,s2]
  have hq1:pK.f h p path q hq=some (yw q hq):=by
    unfold pK.f yw
    cases hq with
    |true=>rw[if_pos rfl,if_pos rfl,if_pos aa]
    |false=>rfl
  have z2:=MQ q hq
  unfold jo.f
  rw[if_pos aa,KP h p path q hq h0 h1 k hk,aj,if_pos aa,if_pos aa,hq1,aj,if_pos aa]
  rfl
theorem Cc (h:af) (p:Int) (path q:af) (hq:Bool) (h0:0<=p) (h1:p<=999999999999999) (hh:h.size<=1048576) (hp:path.size<=1048576) (hqs:q.size<=1048576) :
    jh.f h p path q hq=some (Gv h p path q hq):=by
  have z1:=wZ p h0 h1
  have s1:((⟨#[104,116,116,112,58,47,47]⟩:af)++h).size=7+h.size:=by rw[ByteArray.size_append,acM]
  have s2:(((⟨#[104,116,116,112,58,47,47]⟩:af)++h)++vY p).size=7+h.size+(vY p).size:=by rw[ByteArray.size_append,s1]
  have qs:(⟨#[63]⟩:af).size=1:=rfl
  unfold jh.f
  rw[if_pos aa,KQ h p path q hq h0 h1,aj,if_pos aa]
  unfold qF.f Gv yw
  cases hq with
  |true=>
    have s3:(path++(⟨#[63]⟩:af)).size=path.size+1:=by rw[ByteArray.size_append,qs]
    have s4:((path++(⟨#[63]⟩:af))++q).size=path.size+1+q.size:=by rw[ByteArray.size_append,s3]
    rw[if_pos rfl,if_pos rfl,if_pos aa,if_pos aa,aj,if_pos aa]
    congr 1
    apply ByteArray.ext
    simp[Array.append_assoc]
  |false=>
    rw[if_neg av,if_neg av,aj,if_pos aa]
    congr 1
    apply ByteArray.ext
    simp
def Io (h:af) (p:Int) (path q:af) (hq:Bool):Bool:=
  Gu h&&(decide (1<=p/\p<=65535)&&(!decide (path.size=0)&&(decide (nM path=path)&&((hq||decide (q.size=0))&&(qY q&&(decide (aK q 35=q.size)&&decide ((Gv h p path q hq).size<=200)))))))
theorem bW (a b:af):a.toList=b.toList↔a=b:=by
  constructor
  · intro h
    rw[ByteArray.toList_eq,ByteArray.toList_eq] at h
    apply ByteArray.ext
    rw[<- Array.toArray_toList (xs:=a.data),h,Array.toArray_toList]
  · intro h;rw[h]
theorem ZV (q:af) (h:q.size=0):qY q=true:=by unfold qY;rw[h];rfl
theorem vZ (q:af) (c:Int):aD q c=q↔aK q c=q.size:=by
  constructor
  · intro h
    have:=lX q c
    rw[h] at this
    exact this.symm
  · intro h
    unfold aD
    rw[h]
    exact extract_all q
theorem vB (h:af) (p:Int) (path q:af) (hq:Bool) (hh:h.size<=1048576) (hp:path.size<=1048576) (hqs:q.size<=200) (k:Nat) (hk:80000000<k):bC.f k h p path q hq=some (Io h p path q hq):=by
  obtain⟨k,rfl⟩:=aN k aa
  have no:bC.j0 (k+1) true h p path q hq=some false:=by simp only[bC.j0];rfl
  unfold bC.f Io
  rw[KN h hh (k+1) aa,aj]
  cases c1:Gu h with
  |false=>rw[if_neg av,no];rfl
  |true=>
    rw[if_pos rfl,Bool.true_and]
    by_cases c2:p<1
    · rw[if_pos c2,no,aT aa];rfl
    rw[if_neg c2]
    by_cases c3:p>65535
    · rw[if_pos c3,no,aT aa];rfl
    rw[if_neg c3,aQ aa,Bool.true_and]
    by_cases c4:path.size=0
    · rw[if_pos ((kr path).2 c4),no,aQ c4];rfl
    rw[if_neg (fun z=>c4 ((kr path).1 z)),aT c4,Bool.not_false,Bool.true_and,zz path hp (k+1) aa,aj]
    by_cases c5:nM path=path
    case neg=>rw[if_neg (fun z=>c5 ((bW _ _).1 z)),no,aT c5];rfl
    rw[if_pos ((bW _ _).2 c5),aQ c5,Bool.true_and]
    have tail:(hq||decide (q.size=0))=true->bC.j0 (k+1) false h p path q hq=some (qY q&&(decide (aK q 35=q.size)&&decide ((Gv h p path q hq).size<=200))):=by
      intro _
      simp only[bC.j0]
      rw[if_neg av,if_neg aa,Cb h p path q hq aa aa hh hp aa k aa,tH q aa 35 k aa,aj,aj]
      have mid:(if(aD q 35).toList=q.toList then some (decide (((Gv h p path q hq).size:Int)<=200)) else some false)=some (decide (aK q 35=q.size)&&decide ((Gv h p path q hq).size<=200)):=by
        by_cases e:aK q 35=q.size
        · rw[if_pos ((bW _ _).2 ((vZ q 35).2 e)),aQ e,Bool.true_and]
          exact congrArg some (decide_eq_decide.2 aa)
        · rw[if_neg (fun z=>e ((vZ q 35).1 ((bW _ _).1 z))),aT e,Bool.false_and]
      by_cases z:q.size=0
      · rw[if_pos ((kr q).2 z),ZV q z,Bool.true_and]
        exact mid
      · rw[if_neg (fun y=>z ((kr q).1 y)),oo q aa k aa,aj,aQ (by omega:0<q.size),Bool.true_and]
        cases hv:qY q with
        |false=>rfl
        |true=>rw[if_pos rfl,Bool.true_and];exact mid
    cases hq with
    |true=>rw[if_pos rfl,tail rfl];rfl
    |false=>
      rw[if_neg av]
      by_cases z:q.size=0
      · have:(q.toList != ([]:aM))=false:=bne_eq_false_iff_eq.2 ((kr q).2 z)
        rw[this,tail (by rw[aQ z];rfl),aQ z];rfl
      · have:(q.toList != ([]:aM))=true:=bne_iff_ne.2 (fun y=>z ((kr q).1 y))
        rw[this,no,aT z];rfl
theorem Ip (h:af) (p:Int) (path q:af) (hq:Bool) (hh:h.size<=1048576) (hp:path.size<=1048576) (hqs:q.size<=200) (k:Nat) (hk:80000000<k):fA.f k h p path q hq=some (Io h p path q hq):=by
  obtain⟨k,rfl⟩:=aN k aa
  have no:fA.j0 (k+1) true h p path q hq=some false:=by simp only[fA.j0];rfl
  unfold fA.f Io
  rw[KO h hh (k+1) aa,aj,pV,aj]
  cases c1:Gu h with
  |false=>rw[if_neg av,no];rfl
  |true=>
    rw[if_pos rfl,Bool.true_and]
    by_cases c2:1<=p/\p<=65535
    case neg=>rw[aT c2,if_neg av,no];rfl
    rw[aQ c2,if_pos rfl,Bool.true_and]
    by_cases c4:path.size=0
    · rw[if_pos ((kr path).2 c4),no,aQ c4];rfl
    rw[if_neg (fun z=>c4 ((kr path).1 z)),aT c4,Bool.not_false,Bool.true_and,zA path hp (k+1) aa,aj]
    by_cases c5:nM path=path
    case neg=>
      have:((nM path).toList != path.toList)=true:=bne_iff_ne.2 (fun z=>c5 ((bW _ _).1 z))
      rw[this,no,aT c5];rfl
    have e5:((nM path).toList != path.toList)=false:=bne_eq_false_iff_eq.2 ((bW _ _).2 c5)
    rw[e5,aQ c5,Bool.true_and]
    simp only[fA.j0]
    have hc:=xw q 35
    have h35:((35:UInt8).toNat:Int)=35:=rfl
    rw[h35] at hc
    have hle:=jd q 35
    rw[if_neg av,oq q aa k aa,aj,hc,aj,Cc h p path q hq aa aa hh hp aa,aj]
    have hd:decide (((Gv h p path q hq).size:Int)<=200)=decide ((Gv h p path q hq).size<=200):=decide_eq_decide.2 aa
    rw[hd]
    cases hv:qY q with
    |false=>rw[if_neg av,Bool.false_and,Bool.and_false]
    |true=>
      rw[if_pos rfl,Bool.true_and]
      by_cases e:aK q 35<q.size
      · rw[aQ e,if_pos rfl,show decide (aK q 35=q.size)=false from aT aa,Bool.false_and,Bool.and_false]
      · rw[aT e,if_neg av,show decide (aK q 35=q.size)=true from aQ aa,Bool.true_and]
        cases hq with
        |true=>rw[if_pos rfl];rfl
        |false=>
          rw[if_neg av]
          by_cases z:q.size=0
          · rw[if_pos ((kr q).2 z),aQ z];rfl
          · rw[if_neg (fun y=>z ((kr q).1 y)),aT z];rfl

abbrev ZW := ByteArray×Int×ByteArray×ByteArray×Bool×Bool
def Jq : ZW:=((⟨#[]⟩:af),0,(⟨#[]⟩:af),(⟨#[]⟩:af),false,false)
def zZ (h:af) (p:Int) (path q:af) (hq:Bool):ZW:=if Io h p path q hq=true then(h,p,path,q,hq,true) else Jq
def Jr (f:af) (n:Nat):ByteArray:=if n<f.size then nM (f.extract n f.size) else(⟨#[47]⟩:af)
def DX (r:af):ZW:=
  if aK (aD (aD r 63) 47) 58<(aD (aD r 63) 47).size then
    (if(nX ((aD (aD r 63) 47).extract (aK (aD (aD r 63) 47) 58+1) (aD (aD r 63) 47).size)).2=true then
      zZ (ig (aD (aD (aD r 63) 47) 58)) (nX ((aD (aD r 63) 47).extract (aK (aD (aD r 63) 47) 58+1) (aD (aD r 63) 47).size)).1 (Jr (aD r 63) (aD (aD r 63) 47).size) (if aK r 63<r.size then r.extract (aK r 63+1) r.size else(⟨#[]⟩:af)) (decide (aK r 63<r.size))
    else Jq)
  else zZ (ig (aD (aD (aD r 63) 47) 58)) 80 (Jr (aD r 63) (aD (aD r 63) 47).size) (if aK r 63<r.size then r.extract (aK r 63+1) r.size else(⟨#[]⟩:af)) (decide (aK r 63<r.size))
theorem Aa (s:af):(ig s).size=s.size:=by unfold ig;rw[strOfNums_size,List.length_map,bytesOf_length]
theorem extract_congr (s:af) {a b c d:Nat} (h1:a=c) (h2:b=d):s.extract a b=s.extract c d:=by rw[h1,h2]
theorem OV : nM (⟨#[47]⟩:af)=(⟨#[47]⟩:af):=by decide +kernel
theorem Gw (p:af):(nM p).size<=1048576:=by
  unfold nM
  split
  · rename_i h
    have hz:=zX p
    have hl:=pQ ((jq p).extract 1 (jq p).size) 47
    have hk:=yI (eu ((jq p).extract 1 (jq p).size) 47)
    have he:=kT (jq p) 1 (jq p).size aa
    have hm:=C9 (fun x=>x.size<=200) (eu ((jq p).extract 1 (jq p).size) 47) (Nat.zero_le _) (fun x hx=>by have:=wX _ _ _ _ _ x hx;omega)
    have hj:=Gr _ (⟨#[47]⟩:af) 200 hm
    have h1:(⟨#[47]⟩:af).size=1:=rfl
    unfold oC
    rw[ByteArray.size_append,h1]
    rw[h1] at hj
    omega
  · exact Nat.zero_le _
theorem Qs (r f:af) (h:af) (p:Int) (path:af) (hr:r.size<=200) (hf:f.size=aK r 63) (hh:h.size<=200) (hp:path.size<=1048576) (k:Nat) (hk:80000000<k) :
    bY.j2 (k+1) r f h p path (⟨#[]⟩:af) false=some (zZ h p path (if aK r 63<r.size then r.extract (aK r 63+1) r.size else(⟨#[]⟩:af)) (decide (aK r 63<r.size))):=by
  have hle:=jd r 63
  simp only[bY.j2]
  unfold zZ
  by_cases c:aK r 63<r.size
  · have he:(r.extract (aK r 63+1) r.size).size<=200:=kT _ _ _ hr
    rw[if_pos aa,hf,dR _ aa,if_pos aa,if_pos aa,Int.toNat_natCast,vB _ _ _ _ _ aa hp he k hk,aj,if_pos c,aQ c]
    split <;> rfl
  · rw[if_neg aa,vB h p path (⟨#[]⟩:af) false aa hp (Nat.zero_le _) k hk,aj,if_neg c,aT c]
    split <;> rfl
theorem Qt (r:af) (h:af) (p:Int) (hr:r.size<=200) (hh:h.size<=200) (k:Nat) (hk:80000000<k) :
    bY.j1 (k+2) r (aD r 63) (aD (aD r 63) 47) h p (⟨#[47]⟩:af) (⟨#[]⟩:af) false =
      some (zZ h p (Jr (aD r 63) (aD (aD r 63) 47).size) (if aK r 63<r.size then r.extract (aK r 63+1) r.size else(⟨#[]⟩:af)) (decide (aK r 63<r.size))):=by
  have h1:=lX r 63
  have h2:=lX (aD r 63) 47
  have h3:=jd r 63
  have h4:=jd (aD r 63) 47
  simp only[bY.j1]
  unfold Jr
  by_cases c:(aD (aD r 63) 47).size<(aD r 63).size
  · rw[if_pos aa,if_pos aa,if_pos aa,Int.toNat_natCast,zz _ (by rw[size_extract];omega) (k+1) aa,aj,if_pos c]
    exact Qs r _ h p _ hr h1 hh (Gw _) k hk
  · rw[if_neg aa,if_neg c]
    exact Qs r _ h p _ hr h1 hh av k hk
theorem Rx (s:af) (hs:s.size<=200) (h7:7<=s.size) (k:Nat) (hk:80000000<k):bY.j0 (k+3) s false=some (DX (s.extract 7 s.size)):=by
  have hr:=kT s 7 s.size hs
  have hz:(s.extract 7 s.size).size<=200:=hr
  generalize hg:s.extract 7 s.size=r at hr hz
  have h1:=lX r 63
  have h2:=lX (aD r 63) 47
  have h3:=lX (aD (aD r 63) 47) 58
  have a1:=jd r 63
  have a2:=jd (aD r 63) 47
  have a3:=jd (aD (aD r 63) 47) 58
  simp only[bY.j0]
  rw[if_neg av,if_pos aa,hg,tH r aa 63 (k+2) aa,aj,tH _ aa 47 (k+2) aa,aj,tH _ aa 58 (k+2) aa,aj]
  have hf:jk.f (aD (aD (aD r 63) 47) 58)=some (ig (aD (aD (aD r 63) 47) 58)):=if_pos aa
  have hfs:=Aa (aD (aD (aD r 63) 47) 58)
  rw[hf,aj]
  unfold DX
  by_cases c:aK (aD (aD r 63) 47) 58<(aD (aD r 63) 47).size
  · rw[if_pos aa,if_pos c,h3,dR _ aa,if_pos aa,if_pos aa,Int.toNat_natCast,Eu _ (k+2) aa,aj]
    cases hd:(nX ((aD (aD r 63) 47).extract (aK (aD (aD r 63) 47) 58+1) (aD (aD r 63) 47).size)).2 with
    |true=>
      rw[if_pos rfl,if_pos rfl]
      exact Qt r _ _ hr aa k hk
    |false=>
      rw[if_neg av,if_neg av];rfl
  · rw[if_neg aa,if_neg c]
    exact Qt r _ _ hr aa k hk
def Qu : List UInt8:=[104,116,116,112,58,47,47]
def iL (s:af):ZW:=if s.size<=200/\7<=s.size/\qY s=true/\aK s 35=s.size/\(ig (s.extract 0 7)).toList=Qu then DX (s.extract 7 s.size) else Jq
theorem OW : DX (⟨#[]⟩:af)=Jq:=by decide +kernel
theorem Ew (s:af) (hs:s.size<=1048576) (k:Nat) (hk:80000010<k):bY.f k s=some (iL s):=by
  obtain⟨k,rfl⟩:∃ q,k=q+3:=⟨k-3,by omega⟩
  have no:bY.j0 (k+3) s true=some Jq:=by simp only[bY.j0];rfl
  unfold bY.f iL
  by_cases c1:s.size<=200
  case neg=>rw[if_pos aa,no,if_neg (fun q=>c1 q.1)]
  rw[if_neg aa]
  by_cases c2:s.size<8
  · rw[if_pos aa,no]
    by_cases c3:s.size<=200/\7<=s.size/\qY s=true/\aK s 35=s.size/\(ig (s.extract 0 7)).toList=Qu
    · rw[if_pos c3]
      have:s.extract 7 s.size=(⟨#[]⟩:af):=by
        have hz:(s.extract 7 s.size).size=0:=by rw[size_extract];omega
        exact(bW _ _).1 (((kr _).2 hz).trans ((kr _).2 rfl).symm)
      rw[this,OW]
    · rw[if_neg c3]
  rw[if_neg aa,oo s hs (k+3) aa,aj,aQ (by omega:0<s.size),Bool.true_and]
  cases c3:qY s with
  |false=>rw[if_neg av,no,if_neg (fun q=>by cases q.2.2.1)]
  |true=>
    rw[if_pos rfl,tH s hs 35 (k+3) aa,aj]
    by_cases c4:aK s 35=s.size
    case neg=>rw[if_neg (fun z=>c4 ((vZ s 35).1 ((bW _ _).1 z))),no,if_neg (fun q=>c4 q.2.2.2.1)]
    have hf:jk.f (s.extract 0 7)=some (ig (s.extract 0 7)):=if_pos (by rw[size_extract];omega)
    rw[if_pos ((bW _ _).2 ((vZ s 35).2 c4)),if_pos av,if_pos aa,hf,aj]
    by_cases c5:(ig (s.extract 0 7)).toList=Qu
    · have:((ig (s.extract 0 7)).toList != ([104,116,116,112,58,47,47]:aM))=false:=bne_eq_false_iff_eq.2 c5
      rw[this,if_pos ⟨c1,by omega,rfl,c4,c5⟩]
      exact Rx s c1 aa k aa
    · have:((ig (s.extract 0 7)).toList != ([104,116,116,112,58,47,47]:aM))=true:=bne_iff_ne.2 c5
      rw[this,no,if_neg (fun q=>c5 q.2.2.2.2)]
theorem WH (r:af) (c d:Int):aK (aD r d) c=min (aK r c) (aK r d):=by
  have h1:=lX r d
  have a:=jd r d
  have b:=jd r c
  have e:∀ m:Nat,m<aK r d->bt (aD r d) (m:Int)=bt r (m:Int):=by
    intro m hm
    unfold aD
    rw[iH _ _ _ _ aa aa a]
    congr 1
    omega
  apply qx
  · omega
  · intro m hm
    rw[e m aa]
    exact um r c m aa
  · intro h
    rw[e _ aa]
    have hm:min (aK r c) (aK r d)=aK r c:=by omega
    rw[hm]
    exact vW r c aa
theorem Qv (h:af) (p:Int) (path q:af) (hq:Bool) (hh:h.size<=200) (hp:path.size<=1048576) (hqs:q.size<=200) (k:Nat) (hk:80000000<k):bB.j3 (k+1) h p path q hq=some (zZ h p (nM path) q hq):=by
  simp only[bB.j3]
  rw[zA path hp k aa,aj,Ip h p _ q hq aa (Gw _) hqs k hk,aj]
  unfold zZ
  split <;> rfl
theorem Qw (h:af) (p:Int) (path q:af) (hq:Bool) (hh:h.size<=200) (hp:path.size<=1048576) (hqs:q.size<=200) (k:Nat) (hk:80000000<k):bB.j2 (k+2) h p path q hq=some (zZ h p (if path.size=0 then(⟨#[47]⟩:af) else nM path) q hq):=by
  simp only[bB.j2]
  by_cases c:path.size=0
  · rw[if_pos ((kr path).2 c),if_pos c,Qv h p _ q hq hh av hqs k hk,OV]
  · rw[if_neg (fun z=>c ((kr path).1 z)),if_neg c]
    exact Qv h p path q hq hh hp hqs k hk
theorem Ry (s:af) (hs:s.size<=200) (h7:7<=s.size) (hv:qY s=true) (k:Nat) (hk:80000000<k):bB.j0 (k+4) s false=some (DX (s.extract 7 s.size)):=by
  have hr:=kT s 7 s.size hs
  have hvis:qY (s.extract 7 s.size)=true:=by
    unfold qY
    rw[yt]
    intro m hm
    rw[size_extract] at hm
    rw[iH _ _ _ _ aa aa aa,show(((7:Nat):Int)+(m:Int))=((7+m:Nat):Int) by omega]
    exact aQ (Wy hv (7+m) aa)
  generalize hg:s.extract 7 s.size=r at hr hvis
  have h1:=lX r 63
  have h2:=lX (aD r 63) 47
  have h3:=lX (aD (aD r 63) 47) 58
  have a1:=jd r 63
  have a2:=jd (aD r 63) 47
  have a3:=jd (aD (aD r 63) 47) 58
  have b1:=jd r 47
  have hmin:=WH r 47 63
  have hauth:aD (aD r 63) 47=r.extract 0 (min (aK r 47) (aK r 63)):=by
    show(aD r 63).extract 0 (aK (aD r 63) 47)=_
    rw[hmin]
    unfold aD
    rw[yH _ _ _ _ _ aa]
    simp only[Nat.zero_add]
  have hany:strings_IndexAny.f r (⟨#[47,63]⟩:af)=some (if min (aK r 47) (aK r 63)<r.size then((min (aK r 47) (aK r 63):Nat):Int) else -1):=by
    unfold strings_IndexAny.f
    have hl:(⟨#[47,63]⟩:af).data.toList = [47,63]:=rfl
    rw[hl,if_neg (fun q=>absurd q.1 av),if_pos ⟨Or.inl rfl,Jo hvis,by omega⟩,Ca r 47 63]
    rfl
  have hmid:bB.j1 (k+3) r ((min (aK r 47) (aK r 63):Nat):Int)=some (DX r):=by
    simp only[bB.j1]
    rw[if_pos aa,if_pos aa,Int.toNat_natCast,<- hauth]
    have hc:=Gp (aD (aD r 63) 47) aa 58
    have h58:((58:UInt8).toNat:Int)=58:=rfl
    rw[h58] at hc
    rw[hc,aj]
    have hbz:(r.extract (min (aK r 47) (aK r 63)) r.size).size=r.size-min (aK r 47) (aK r 63):=by rw[size_extract];omega
    have hp:=Gp (r.extract (min (aK r 47) (aK r 63)) r.size) aa 63
    have h63:((63:UInt8).toNat:Int)=63:=rfl
    rw[h63] at hp
    have hpos:aK (r.extract (min (aK r 47) (aK r 63)) r.size) 63=aK r 63-min (aK r 47) (aK r 63):=by
      have e:∀ m:Nat,m<r.size-min (aK r 47) (aK r 63)->bt (r.extract (min (aK r 47) (aK r 63)) r.size) (m:Int)=bt r ((min (aK r 47) (aK r 63)+m:Nat):Int):=by
        intro m hm
        rw[iH _ _ _ _ aa aa (Nat.le_refl _)]
        congr 1
      apply qx
      · omega
      · intro m hm
        rw[e m aa]
        exact um r 63 _ aa
      · intro h
        rw[e _ aa,show min (aK r 47) (aK r 63)+(aK r 63-min (aK r 47) (aK r 63))=aK r 63 by omega]
        exact vW r 63 aa
    have hpath:(aD r 63).extract (aD (aD r 63) 47).size (aD r 63).size=(r.extract (min (aK r 47) (aK r 63)) r.size).extract 0 (aK r 63-min (aK r 47) (aK r 63)):=by
      rw[h2,h1,hmin]
      unfold aD
      rw[yH _ _ _ _ _ aa,yH _ _ _ _ _ aa]
      exact extract_congr r aa aa
    have hread:nY.f (r.extract (min (aK r 47) (aK r 63)) r.size)=some ((⟨#[]⟩:af),0,(aD r 63).extract (aD (aD r 63) 47).size (aD r 63).size,(if aK r 63<r.size then r.extract (aK r 63+1) r.size else(⟨#[]⟩:af)),decide (aK r 63<r.size)):=by
      unfold nY.f
      rw[hp,aj,hpos]
      by_cases c:aK r 63<r.size
      · rw[if_pos aa,if_pos c,aQ c,hpath]
        dsimp only
        have he:(r.extract (min (aK r 47) (aK r 63)) r.size).extract (aK r 63-min (aK r 47) (aK r 63)+1) (r.extract (min (aK r 47) (aK r 63)) r.size).size=r.extract (aK r 63+1) r.size:=by
          rw[hbz,yH _ _ _ _ _ aa]
          exact extract_congr r aa aa
        rw[he]
      · rw[if_neg aa,if_neg c,aT c,hpath]
        dsimp only
        have he:(r.extract (min (aK r 47) (aK r 63)) r.size).extract 0 (aK r 63-min (aK r 47) (aK r 63))=r.extract (min (aK r 47) (aK r 63)) r.size:=by
          rw[show aK r 63-min (aK r 47) (aK r 63)=(r.extract (min (aK r 47) (aK r 63)) r.size).size by omega]
          exact extract_all _
        rw[he]
    have hpv:(if((aD r 63).extract (aD (aD r 63) 47).size (aD r 63).size).size=0 then(⟨#[47]⟩:af) else nM ((aD r 63).extract (aD (aD r 63) 47).size (aD r 63).size))=Jr (aD r 63) (aD (aD r 63) 47).size:=by
      unfold Jr
      by_cases c:(aD (aD r 63) 47).size<(aD r 63).size
      · rw[if_pos c,if_neg (by rw[size_extract];omega)]
      · rw[if_neg c,if_pos (by rw[size_extract];omega)]
    have hqz:(if aK r 63<r.size then r.extract (aK r 63+1) r.size else(⟨#[]⟩:af)).size<=200:=by
      split
      · exact kT _ _ _ hr
      · exact Nat.zero_le _
    have hpz:((aD r 63).extract (aD (aD r 63) 47).size (aD r 63).size).size<=1048576:=by rw[size_extract];omega
    rw[hread,aj]
    unfold DX
    by_cases c:aK (aD (aD r 63) 47) 58<(aD (aD r 63) 47).size
    · have hf:jw.f ((aD (aD r 63) 47).extract 0 (aK (aD (aD r 63) 47) 58))=some (ig (aD (aD (aD r 63) 47) 58)):=if_pos (by rw[size_extract];omega)
      have hfs:=Aa (aD (aD (aD r 63) 47) 58)
      have hdec:nA.f ((aD (aD r 63) 47).extract (aK (aD (aD r 63) 47) 58+1) (aD (aD r 63) 47).size)=some (nX ((aD (aD r 63) 47).extract (aK (aD (aD r 63) 47) 58+1) (aD (aD r 63) 47).size)):=if_pos (by rw[size_extract];omega)
      rw[if_pos c,if_pos c]
      dsimp only
      rw[hf,aj,if_pos rfl,hdec,aj]
      cases hd:(nX ((aD (aD r 63) 47).extract (aK (aD (aD r 63) 47) 58+1) (aD (aD r 63) 47).size)).2 with
      |true=>
        rw[if_pos rfl,if_pos rfl,Qw _ _ _ _ _ aa hpz hqz k hk,hpv]
      |false=>
        rw[if_neg av,if_neg av];rfl
    · have hself:aD (aD (aD r 63) 47) 58=aD (aD r 63) 47:=(vZ _ _).2 aa
      have hf:jw.f (aD (aD r 63) 47)=some (ig (aD (aD r 63) 47)):=if_pos aa
      have hfs:=Aa (aD (aD r 63) 47)
      rw[if_neg c,if_neg c,hself]
      dsimp only
      rw[hf,aj,if_neg av,Qw _ _ _ _ _ aa hpz hqz k hk,hpv]
  simp only[bB.j0]
  rw[if_neg av,if_pos aa,hg,hany,aj]
  by_cases c:min (aK r 47) (aK r 63)<r.size
  · rw[if_pos c,if_neg aa]
    exact hmid
  · rw[if_neg c,if_pos av,show(r.size:Int)=((min (aK r 47) (aK r 63):Nat):Int) by omega]
    exact hmid
theorem Ex (s:af) (hs:s.size<=1048576) (k:Nat) (hk:80000010<k):bB.f k s=some (iL s):=by
  obtain⟨k,rfl⟩:∃ q,k=q+4:=⟨k-4,by omega⟩
  have no:bB.j0 (k+4) s true=some Jq:=by simp only[bB.j0];rfl
  unfold bB.f iL
  by_cases c1:s.size<=200
  case neg=>rw[if_pos aa,no,if_neg (fun q=>c1 q.1)]
  rw[if_neg aa,oq s hs (k+4) aa,aj]
  cases c3:qY s with
  |false=>rw[if_neg av,no,if_neg (fun q=>by cases q.2.2.1)]
  |true=>
    have hc:=xw s 35
    have h35:((35:UInt8).toNat:Int)=35:=rfl
    rw[h35] at hc
    have hle:=jd s 35
    rw[if_pos rfl,hc,aj]
    by_cases c4:aK s 35=s.size
    case neg=>rw[aQ aa,if_pos rfl,no,if_neg (fun q=>c4 q.2.2.2.1)]
    rw[aT aa,if_neg av]
    by_cases c2:7<=s.size
    case neg=>rw[if_pos aa,no,if_neg (fun q=>c2 q.2.1)]
    have hf:jw.f (s.extract 0 7)=some (ig (s.extract 0 7)):=if_pos (by rw[size_extract];omega)
    rw[if_neg aa,if_pos av,if_pos aa,hf,aj]
    by_cases c5:(ig (s.extract 0 7)).toList=Qu
    · have:((ig (s.extract 0 7)).toList != ([104,116,116,112,58,47,47]:aM))=false:=bne_eq_false_iff_eq.2 c5
      rw[this,if_pos ⟨c1,c2,rfl,c4,c5⟩]
      exact Ry s c1 c2 c3 k aa
    · have:((ig (s.extract 0 7)).toList != ([104,116,116,112,58,47,47]:aM))=true:=bne_iff_ne.2 c5
      rw[this,no,if_neg (fun q=>c5 q.2.2.2.2)]
theorem zB (s:af) (h:(iL s).2.2.2.2.2=true):Io (iL s).1 (iL s).2.1 (iL s).2.2.1 (iL s).2.2.2.1 (iL s).2.2.2.2.1=true:=by
  have key:∀(a:af) (b:Int) (c d:af) (e:Bool),(zZ a b c d e).2.2.2.2.2=true->Io (zZ a b c d e).1 (zZ a b c d e).2.1 (zZ a b c d e).2.2.1 (zZ a b c d e).2.2.2.1 (zZ a b c d e).2.2.2.2.1=true:=by
    intro a b c d e h
    unfold zZ at h ⊢
    by_cases q:Io a b c d e=true
    · rw[if_pos q];exact q
    · rw[if_neg q] at h;cases h
  unfold iL at h ⊢
  split at h
  · rename_i hc
    rw[if_pos hc]
    unfold DX at h ⊢
    split at h
    · rename_i h1
      rw[if_pos h1]
      split at h
      · rename_i h2
        rw[if_pos h2]
        exact key _ _ _ _ _ h
      · cases h
    · rename_i h1
      rw[if_neg h1]
      exact key _ _ _ _ _ h
  · cases h
theorem Gx {h:ByteArray} {p:Int} {path q:ByteArray} {hq:Bool} (hv:Io h p path q hq=true):1<=p/\p<=65535/\h.size<=200/\path.size<=200/\q.size<=200:=by
  unfold Io at hv
  simp only[Bool.and_eq_true,decide_eq_true_eq,Bool.or_eq_true] at hv
  obtain⟨a,b,c,d,e,f,g,i⟩:=hv
  unfold Gv at i
  rw[ByteArray.size_append,ByteArray.size_append,ByteArray.size_append,ByteArray.size_append] at i
  refine⟨b.1,b.2,by omega,by omega,?_⟩
  rcases e with e|e
  · have:(yw q hq).size=1+q.size:=by unfold yw;rw[if_pos e,ByteArray.size_append];rfl
    omega
  · omega
def yx (s:af):ByteArray×Bool:=if(iL s).2.2.2.2.2=true then(Gv (iL s).1 (iL s).2.1 (iL s).2.2.1 (iL s).2.2.2.1 (iL s).2.2.2.2.1,true) else((⟨#[]⟩:af),false)
theorem Iq (s:af) (hs:s.size<=1048576) (k:Nat) (hk:80000010<k):vz.f k s=some (yx s):=by
  unfold vz.f yx
  rw[Ew s hs k hk,aj]
  cases h:(iL s).2.2.2.2.2 with
  |false=>rfl
  |true=>
    have hv:=zB s h
    obtain⟨a,b,c,d,e⟩:=Gx hv
    rw[if_pos rfl,if_pos rfl]
    unfold uR.f
    rw[vB _ _ _ _ _ aa aa e k aa,aj,hv,if_pos rfl,Cb _ _ _ _ _ aa aa aa aa aa k aa]
    rfl
theorem Ir (s:af) (hs:s.size<=1048576) (k:Nat) (hk:80000010<k):vw.f k s=some (yx s):=by
  unfold vw.f yx
  rw[Ex s hs k hk,aj]
  cases h:(iL s).2.2.2.2.2 with
  |false=>rfl
  |true=>
    have hv:=zB s h
    obtain⟨a,b,c,d,e⟩:=Gx hv
    rw[if_pos rfl,if_pos rfl,Cc _ _ _ _ _ aa aa aa aa aa]
    rfl
def zI (s:af):Bool:=(yx s).2&&((yx s).1.toList==s.toList)
theorem Hq (s:af) (hs:s.size<=1048576) (k:Nat) (hk:80000010<k):qG.f k s=some (zI s):=by
  unfold qG.f zI
  rw[Iq s hs k hk,aj]
  cases(yx s).2 <;> rfl
theorem Hr (s:af) (hs:s.size<=1048576) (k:Nat) (hk:80000010<k):lW.f k s=some (zI s):=by
  unfold lW.f zI
  rw[Ir s hs k hk,aj]
  cases(yx s).2 <;> rfl

theorem Gy : ∀(d k:Nat) (l:List j6) (i:Int),0<=i->(l.length:Int)-i=d->l.length<=281474976710656->d<k->dO.l0 k l l i=some true:=by
  intro d
  induction d with
  |zero=>
    intro k l i h0 hd hl hk
    obtain⟨k,rfl⟩:∃ m,k=m+1:=⟨k-1,by omega⟩
    simp only[dO.l0]
    rw[if_neg aa]
  |succ d ih=>
    intro k l i h0 hd hl hk
    obtain⟨k,rfl⟩:∃ m,k=m+1:=⟨k-1,by omega⟩
    simp only[dO.l0]
    rw[if_pos aa,if_pos h0,if_pos aa,show oz.f (bF l i).f0 (bF l i).f1 (bF l i).f0 (bF l i).f1=some true by unfold oz.f;simp,aj,if_pos rfl,ak aa aa]
    exact ih k l (i+1) aa aa hl aa
theorem xL (k:Nat) (l:List j6) (hl:l.length<=281474976710656) (hk:l.length<k):dO.f k l l=some true:=by
  unfold dO.f
  rw[if_pos rfl]
  exact Gy l.length k l 0 aa aa hl hk

def kK (l:List aH) (a:af):Nat->Nat->List ByteArray->List ByteArray
  |0,_,out=>out
  |d+1,i,out=>kK l a d (i+1) (if kZ (bF l (i:Int)).f0 a=true then out ++ [(bF l (i:Int)).f1] else out)
theorem Ey (l:List aH) (a:af):∀ d i out,(kK l a d i out).length<=out.length+d:=by
  intro d
  induction d with
  |zero=>intro i out;simp[kK]
  |succ d ih=>
    intro i out
    simp only[kK]
    split
    · have:=ih (i+1) (out ++ [(bF l (i:Int)).f1])
      simp at this;omega
    · have:=ih (i+1) out;omega
theorem Rz (l:List aH) (a:af) (ha:a.size<=140737488351232) (hok:bZ l=true):∀(d k i:Nat) (out:List ByteArray),i<=l.length->l.length-i=d->out.length<=i->d<k->
    fT.l0 k a out l (l.length:Int) (i:Int)=some (kK l a d i out):=by
  have hl:=eZ hok
  intro d
  induction d with
  |zero=>
    intro k i out h1 hd ho hk
    obtain⟨k,rfl⟩:∃ m,k=m+1:=⟨k-1,by omega⟩
    simp only[fT.l0]
    rw[if_neg aa]
    rfl
  |succ d ih=>
    intro k i out h1 hd ho hk
    obtain⟨k,rfl⟩:∃ m,k=m+1:=⟨k-1,by omega⟩
    have hn:=qp hok i aa
    have hw:wrap64 ((i:Int)+1)=((i+1:Nat):Int):=by rw[ak aa aa];omega
    simp only[fT.l0,kK]
    rw[if_pos aa,if_pos aa,if_pos aa,CX _ a aa aa,aj,hw]
    by_cases hb:kZ (bF l (i:Int)).f0 a=true
    · rw[if_pos hb,if_pos hb,if_pos aa]
      exact ih k (i+1) _ aa aa (by simp;omega) aa
    · rw[if_neg hb,if_neg hb]
      exact ih k (i+1) out aa aa aa aa
theorem RA (l:List aH) (a:af) (ha:a.size<=140737488351232) (hok:bZ l=true):∀(d k i:Nat) (out:List ByteArray),i<=l.length->l.length-i=d->out.length<=i->d<k->
    gX.l0 k l a out (i:Int)=some (kK l a d i out):=by
  have hl:=eZ hok
  intro d
  induction d with
  |zero=>
    intro k i out h1 hd ho hk
    obtain⟨k,rfl⟩:∃ m,k=m+1:=⟨k-1,by omega⟩
    simp only[gX.l0]
    rw[if_neg aa]
    rfl
  |succ d ih=>
    intro k i out h1 hd ho hk
    obtain⟨k,rfl⟩:∃ m,k=m+1:=⟨k-1,by omega⟩
    have hn:=qp hok i aa
    have hw:wrap64 ((i:Int)+1)=((i+1:Nat):Int):=by rw[ak aa aa];omega
    simp only[gX.l0,kK]
    rw[if_pos aa,if_pos aa,CY _ a aa aa,aj,hw]
    by_cases hb:kZ (bF l (i:Int)).f0 a=true
    · rw[if_pos hb,if_pos hb,if_pos aa]
      exact ih k (i+1) _ aa aa (by simp;omega) aa
    · rw[if_neg hb,if_neg hb]
      exact ih k (i+1) out aa aa aa aa
def valuesOf (l:List aH) (a:af):List ByteArray:=if bZ l=true then kK l a l.length 0 [] else []
theorem xx (l:List aH) (a:af):(valuesOf l a).length<=20:=by
  unfold valuesOf
  split
  · rename_i h
    have h1:=eZ h
    have h2:=Ey l a l.length 0 []
    simp at h2;omega
  · exact Nat.zero_le _
theorem o8 (l:List aH) (a:af) (ha:a.size<=140737488351232) (k:Nat) (hk:6000<k):fT.f k l a=some (valuesOf l a):=by
  unfold fT.f valuesOf
  rw[ni l k hk,aj]
  by_cases h:bZ l=true
  · have:=eZ h
    rw[if_pos h,if_pos h]
    exact Rz l a ha h l.length k 0 [] (Nat.zero_le _) aa (Nat.le_refl _) aa
  · rw[if_neg h,if_neg h]
theorem sV (l:List aH) (a:af) (ha:a.size<=140737488351232) (k:Nat) (hk:6000<k):gX.f k l a=some (valuesOf l a):=by
  unfold gX.f valuesOf
  rw[qd l k hk,aj]
  by_cases h:bZ l=true
  · have:=eZ h
    rw[if_pos h,if_pos h]
    exact RA l a ha h l.length k 0 [] (Nat.zero_le _) aa (Nat.le_refl _) aa
  · rw[if_neg h,if_neg h]

def Ce (acc:af):List ByteArray->ByteArray
  |[]=>acc
  |x::r=>Ce ((acc++(⟨#[44,32]⟩:af))++x) r
theorem KR : ∀(r:List ByteArray) (acc:af),(Ce acc r).data.toList=acc.data.toList++Go.Lib.joinTail [44,32] (r.map fun x=>x.data.toList):=by
  intro r
  induction r with
  |nil=>intro acc;simp[Ce,Go.Lib.joinTail]
  |cons x r ih=>
    intro acc
    simp only[Ce]
    rw[ih]
    simp[Go.Lib.joinTail]
theorem RB (vs:List ByteArray) (hn:vs.length<=20) (hs:∀ x∈vs,x.size<=190):∀(r:List ByteArray) (k i:Nat) (acc:af),vs.drop i=r->1<=i->acc.size<=200*i->r.length<k->gY.l0 k vs acc (i:Int)=some (Ce acc r):=by
  intro r
  induction r with
  |nil=>
    intro k i acc h h1 ha hk
    obtain⟨k,rfl⟩:∃ m,k=m+1:=⟨k-1,by omega⟩
    have hi:=List.drop_eq_nil_iff.mp h
    simp only[gY.l0]
    rw[if_neg aa]
    rfl
  |cons x r ih=>
    intro k i acc h h1 ha hk
    obtain⟨k,rfl⟩:∃ m,k=m+1:=⟨k-1,by omega⟩
    have hi:i<vs.length:=by
      by_cases hq:i<vs.length
      · exact hq
      · rw[List.drop_eq_nil_iff.mpr aa] at h;cases h
    rw[List.drop_eq_getElem_cons hi] at h
    injection h with h2 h3
    have hx:x.size<=190:=by rw[<- h2];exact hs _ (List.getElem_mem hi)
    have e1:ed ByteArray.empty vs (i:Int)=x:=by
      unfold ed
      simp only[Int.toNat_natCast,List.getD_eq_getElem?_getD,List.getElem?_eq_getElem hi,Option.getD_some]
      exact h2
    have hw:wrap64 ((i:Int)+1)=((i+1:Nat):Int):=by rw[ak aa aa];omega
    have s2:(acc++(⟨#[44,32]⟩:af)).size=acc.size+2:=by rw[ByteArray.size_append];rfl
    have s3:((acc++(⟨#[44,32]⟩:af))++x).size=acc.size+2+x.size:=by rw[ByteArray.size_append,s2]
    simp only[gY.l0,Ce]
    rw[if_pos aa,if_pos aa,if_pos aa,if_pos aa,e1,if_pos aa,hw]
    simp only[List.length_cons] at hk
    exact ih k (i+1) _ h3 aa aa aa
theorem WI {x:ByteArray} {r:List ByteArray} {acc:ByteArray} (h:acc.data.toList=x.data.toList):Ce acc r=⟨(joinL (x::r)).toArray⟩:=by
  have e:(Ce acc r).data.toList=joinL (x::r):=by
    rw[KR,h]
    unfold joinL
    rw[List.map_cons,Go.Lib.join_cons]
  have e2:(Ce acc r).data=(joinL (x::r)).toArray:=by
    rw[<- e,Array.toArray_toList]
  rw[<- e2]
theorem OX (vs:List ByteArray) (hn:vs.length<=20) (hs:∀ x∈vs,x.size<=190) (k:Nat) (hk:100<k):gY.l0 k vs (⟨#[]⟩:af) 0=some ⟨(joinL vs).toArray⟩:=by
  obtain⟨k,rfl⟩:∃ m,k=m+1:=⟨k-1,by omega⟩
  rw[gY.l0.eq_def]
  dsimp only
  cases vs with
  |nil=>rw[if_neg (by simp)];rfl
  |cons x r=>
    have hx:x.size<=190:=hs x (List.mem_cons_self ..)
    have e1:ed ByteArray.empty (x::r) 0=x:=rfl
    have hw:wrap64 ((0:Int)+1)=((1:Nat):Int):=by rw[ak aa aa];omega
    have s0:(⟨#[]⟩:af).size=0:=rfl
    have s3:((⟨#[]⟩:af)++x).size=x.size:=by rw[ByteArray.size_append,s0];omega
    simp only[List.length_cons] at hn
    rw[if_pos (by simp only[List.length_cons];omega),if_neg aa,if_pos aa,e1,if_pos aa,hw,RB (x::r) (by simp only[List.length_cons];omega) hs r k 1 _ rfl (Nat.le_refl _) aa aa]
    rw[WI (x:=x) (by simp)]
theorem Gz (l:List aH) (a:af) (hok:bZ l=true):∀ d i out,i+d<=l.length->(∀ x∈out,x.size<=190)->∀ x∈kK l a d i out,x.size<=190:=by
  intro d
  induction d with
  |zero=>intro i out _ h;exact h
  |succ d ih=>
    intro i out hi h
    simp only[kK]
    refine ih (i+1) _ aa ?_
    split
    · intro x hx
      rcases List.mem_append.mp hx with h1|h1
      · exact h x h1
      · obtain rfl:=List.mem_singleton.mp h1
        exact(qp hok i aa).2
    · exact h
theorem sU (l:List aH) (a:af):∀ x∈valuesOf l a,x.size<=190:=by
  unfold valuesOf
  split
  · rename_i h
    exact Gz l a h l.length 0 [] aa (fun x hx=>by cases hx)
  · intro x hx;cases hx
theorem OY : ∀(vs:List ByteArray),(∀ x∈vs,x.size<=190)->Go.Lib.lens (vs.map fun x=>x.data.toList)<=190*vs.length:=by
  intro vs
  induction vs with
  |nil=>intro _;simp[Go.Lib.lens]
  |cons x r ih=>
    intro h
    have h1:=h x (List.mem_cons_self ..)
    have h2:=ih (fun y hy=>h y (List.mem_cons_of_mem _ hy))
    have h3:x.data.toList.length=x.size:=by rw[Array.length_toList];rfl
    simp only[Go.Lib.lens,List.map_cons,List.sum_cons,List.length_cons] at h2 ⊢
    omega
theorem KS (vs:List ByteArray) (hn:vs.length<=20) (hs:∀ x∈vs,x.size<=190):(joinL vs).length<=5000:=by
  unfold joinL
  cases vs with
  |nil=>simp[Go.Lib.join_nil]
  |cons x r=>
    have h:=OY (x::r) hs
    simp only[List.map_cons] at h ⊢
    rw[Go.Lib.join_length]
    simp only[List.length_cons,List.length_nil,List.length_map] at h hn ⊢
    omega
def joinedOf (l:List aH) (a:af):ByteArray:=⟨(joinL (valuesOf l a)).toArray⟩
theorem GA (l:List aH) (a:af) (ha:a.size<=140737488351232) (k:Nat) (hk:6000<k):sj.f k l a=some (joinedOf l a):=by
  have h1:=xx l a
  have h2:=KS (valuesOf l a) h1 (sU l a)
  unfold sj.f joinedOf
  rw[o8 l a ha k hk,aj,if_pos ⟨by omega,by omega⟩]
theorem GD (l:List aH) (a:af) (ha:a.size<=140737488351232) (k:Nat) (hk:6000<k):gY.f k l a=some (joinedOf l a):=by
  unfold gY.f joinedOf
  rw[sV l a ha k hk,aj]
  exact OX _ (xx l a) (sU l a) k aa

def cu (l:List aH) (a:af):List ByteArray:=kQ (joinedOf l a)
theorem pg (l:List aH) (a:af):(cu l a).length<=4001:=BX _
theorem ze (l:List aH) (a:af) (ha:a.size<=140737488351232) (k:Nat) (hk:20000<k):mU.f k l a=some (cu l a):=by
  unfold mU.f cu
  rw[GA l a ha k aa,aj,CU _ k hk,aj]
theorem zb (l:List aH) (a:af) (ha:a.size<=140737488351232) (k:Nat) (hk:20000<k):mR.f k l a=some (cu l a):=by
  unfold mR.f cu
  rw[GD l a ha k aa,aj,CV _ k hk,aj]

theorem Uq {l:List ByteArray} {i:Nat} (h:i<l.length):ed ByteArray.empty l (i:Int)∈l:=by
  unfold ed
  rw[Int.toNat_natCast,List.getD_eq_getElem?_getD,List.getElem?_eq_getElem h]
  exact List.getElem_mem h
def IB : ByteArray:=(⟨#[99,111,110,116,101,110,116,45,108,101,110,103,116,104]⟩:af)
def IC : ByteArray:=(⟨#[116,114,97,110,115,102,101,114,45,101,110,99,111,100,105,110,103]⟩:af)
def hasB (l:List aH) (a:af):Bool:=decide (0<(valuesOf l a).length)
theorem ui (l:List aH) (a:af) (ha:a.size<=140737488351232) (k:Nat) (hk:6000<k):kR.f k l a=some (hasB l a):=by
  unfold kR.f hasB
  rw[o8 l a ha k hk,aj]
  congr 1
  exact decide_eq_decide.2 aa
def IE : ByteArray:=(⟨#[116,114,97,105,108,101,114]⟩:af)
def frB (n:af):Bool:=(ig n).toList==([99,111,110,116,101,110,116,45,108,101,110,103,116,104]:aM)||((ig n).toList==([116,114,97,110,115,102,101,114,45,101,110,99,111,100,105,110,103]:aM)||(ig n).toList==([116,114,97,105,108,101,114]:aM))
theorem AA (l:List aH):bZ l=true↔l.length<=20/\∀ f∈l,nT f.f0 f.f1=true:=by
  have back:∀(d i:Nat),i+d=l.length->(∀ f∈l,nT f.f0 f.f1=true)->qj (fun i=>nT (bF l i).f0 (bF l i).f1) d (i:Int)=true:=by
    intro d
    induction d with
    |zero=>intro i _ _;rfl
    |succ d ih=>
      intro i hi hf
      have hlt:i<l.length:=by omega
      have e:bF l (i:Int)=l[i]:=by
        unfold bF
        rw[Int.toNat_natCast,List.getD_eq_getElem?_getD,List.getElem?_eq_getElem hlt]
        rfl
      simp only[qj]
      rw[e,hf _ (List.getElem_mem hlt),Bool.true_and]
      exact ih (i+1) aa hf
  constructor
  · intro h
    refine⟨eZ h,fun f hf=>?_⟩
    obtain⟨j,hj,rfl⟩:=List.getElem_of_mem hf
    unfold bZ at h
    have h2:=Qq _ _ (Bool.and_eq_true_iff.1 h).2 j hj
    rw[Int.zero_add] at h2
    have e:bF l (j:Int)=l[j]:=by
      unfold bF
      rw[Int.toNat_natCast,List.getD_eq_getElem?_getD,List.getElem?_eq_getElem hj]
      rfl
    rw[e] at h2
    exact h2
  · intro h
    unfold bZ
    rw[aQ h.1,Bool.true_and]
    exact back l.length 0 aa h.2
theorem YK : (ig IB).toList=([99,111,110,116,101,110,116,45,108,101,110,103,116,104]:aM):=by decide +kernel
theorem YL : (ig IC).toList=([116,114,97,110,115,102,101,114,45,101,110,99,111,100,105,110,103]:aM):=by decide +kernel
theorem YM : (ig IE).toList=([116,114,97,105,108,101,114]:aM):=by decide +kernel
end Go.Proofs.YtfhllanhldbkkaaGreatDoor.P
end

