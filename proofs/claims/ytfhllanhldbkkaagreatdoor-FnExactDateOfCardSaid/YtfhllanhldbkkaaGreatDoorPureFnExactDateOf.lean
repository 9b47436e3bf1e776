import Derived.Test.YtfhllanhldbkkaaGreatDoorPxlawFnExactDateOf
import Derived.Test.YtfhllanhldbkkaaGreatDoorOwn
import Derived.Test.YtfhllanhldbkkaaGreatDoorPximpl01a
import Derived.Test.YtfhllanhldbkkaaGreatDoorPxspec01a
import Derived.Lib.IndexAny
import Derived.Test.YtfhllanhldbkkaaGreatDoorPxspec02j
import Derived.Test.YtfhllanhldbkkaaGreatDoorPx0
import Derived.Test.YtfhllanhldbkkaaGreatDoorPximpl02i
import Derived.Test.YtfhllanhldbkkaaGreatDoorPximpl05b
import Derived.Test.YtfhllanhldbkkaaGreatDoorPxspec05b
import Derived.Lib.Bytealg
import Derived.Lib.CountLaws
import Derived.Lib.Index
import Derived.Lib.IndexBytes
import Derived.Lib.Split
import Derived.Test.YtfhllanhldbkkaaGreatDoorPxliba
import Derived.Test.YtfhllanhldbkkaaGreatDoorPxspec07a
import Derived.Test.YtfhllanhldbkkaaGreatDoorPximpl06d
import Derived.Test.YtfhllanhldbkkaaGreatDoorPximpl07c
import Derived.Lib.Join
import Derived.Test.YtfhllanhldbkkaaGreatDoorPxspec07e
import Derived.Lib.ItoaLen
import Derived.Lib.ItoaNum
import Derived.Lib.AtoiAll
import Derived.Lib.AtoiTie
import Derived.Test.YtfhllanhldbkkaaGreatDoorPximpl07g
import Derived.Test.YtfhllanhldbkkaaGreatDoorPxspec07i
import Derived.Test.YtfhllanhldbkkaaGreatDoorPxauxa
import Derived.Test.YtfhllanhldbkkaaGreatDoorPxauxh
import Derived.Test.YtfhllanhldbkkaaGreatDoorPximpl02c
import Derived.Test.YtfhllanhldbkkaaGreatDoorPxspec02d
import Derived.Test.YtfhllanhldbkkaaGreatDoorPximpl02g
import Derived.Lib.IndexMore
section
/- The plain statement of the law FnExactDateOf, over numbers, texts and lists; no condition beyond what every row gives. -/
namespace Go.Proofs.YtfhllanhldbkkaaGreatDoor.P
open Go Go.RowKit
set_option linter.unusedVariables false
def jZ.Pure : Prop:=∀(a0:ByteArray) (a1 a2:Int) (l3:List EM) (a4 a5:ByteArray) (a6:Int) (a7:ByteArray) (a8:Bool) (l9:List EM) (O6:ByteArray),a0.size≤140737488351232→(Lit.int .i64 a1).wf=true→(Lit.int .i64 a2).wf=true→l3.length*32≤140737488351232→l9.length*32≤140737488351232→∃ k:Nat,jZ.f k a0 a1 a2 l3 a4 a5 a6 a7 a8 l9 O6=some true
end Go.Proofs.YtfhllanhldbkkaaGreatDoor.P
end

section
/- Plain laws of our own (DateMath): about numbers and lists alone; no condition beyond those written. -/
namespace Go.Proofs.YtfhllanhldbkkaaGreatDoor.P
open Go.RowKit Go.Proofs.YtfhllanhldbkkaaGreatDoorW.ax Go.Proofs.YtfhllanhldbkkaaGreatDoorW.aD Go.Proofs.YtfhllanhldbkkaaGreatDoorW.aH
set_option linter.unusedVariables false
set_option linter.unusedSimpArgs false
set_option maxHeartbeats 2000000
def kG (y:Int):Prop:=y%4=0∧(y%100≠0∨y%400=0)
instance (y:Int):Decidable (kG y):=by unfold kG;infer_instance
def qa (y:Int):Int:=365*(y-1970)+(y-1) / 4-(y-1) / 100+(y-1) / 400-477
def J7 (y:Int):Int:=if kG y then 366 else 365
def xM (y m:Int):Int:=if m=2 then(if kG y then 29 else 28) else if m=4∨m=6∨m=9∨m=11 then 30 else 31
def qb (y:Int):Nat→Int
  |0=>0
  |n+1=>qb y n+xM y ((n:Int)+1)
theorem qL (y:Int):qa (y+1)=qa y+J7 y:=by
  unfold qa J7
  by_cases h:kG y
  · rw[if_pos h];unfold kG at h;omega
  · rw[if_neg h];unfold kG at h;omega
theorem PN (y:Int):365≤J7 y:=by unfold J7;split <;> omega
theorem ES (y:Int):J7 y≤366:=by unfold J7;split <;> omega
theorem J8 (y m:Int):28≤xM y m:=by unfold xM;split <;> split <;> omega
theorem BK (y m:Int):xM y m≤31:=by unfold xM;split <;> split <;> omega
theorem CR (y:Int):qb y 12=J7 y:=by
  unfold J7
  by_cases h:kG y <;> simp[qb,xM,h]
theorem vB (y:Int):∀(n m:Nat),n≤m→qb y n+28*((m-n:Nat):Int)≤qb y m:=by
  intro n m
  induction m with
  |zero=>
    intro h
    obtain rfl:n=0:=by omega
    simp
  |succ m ih=>
    intro h
    by_cases e:n=m+1
    · subst e;simp
    · have:=ih aa
      have:=J8 y ((m:Int)+1)
      show _≤qb y m+xM y ((m:Int)+1)
      omega
theorem BL (y:Int) (n:Nat):0≤qb y n:=by
  have h:=vB y 0 n (Nat.zero_le _)
  have:qb y 0=0:=rfl
  omega
theorem vC (y z:Int) (h:y≤z):qa y≤qa z:=by unfold qa;omega
def rQ (Y M D h m s:Int):Bool:=decide (1970≤Y∧Y≤9999)&&(decide (1≤M∧M≤12)&&(decide (1≤D∧D≤xM Y M)&&(decide (0≤h∧h≤23)&&(decide (0≤m∧m≤59)&&decide (0≤s∧s≤59)))))
theorem fC (Y M D h m s:Int):rQ Y M D h m s=true↔(1970≤Y∧Y≤9999)∧(1≤M∧M≤12)∧(1≤D∧D≤xM Y M)∧(0≤h∧h≤23)∧(0≤m∧m≤59)∧(0≤s∧s≤59):=by
  unfold rQ
  simp only[Bool.and_eq_true,decide_eq_true_eq]
def Av (Y M D h m s:Int):Int:=86400*(qa Y+qb Y (M-1).toNat+D-1)+3600*h+60*m+s
def Nq : Nat→Int→Int→Int
  |0,y,_=>y
  |n+1,y,d=>if qa (y+1)≤d then Nq n (y+1) d else y
theorem Nr : ∀(n:Nat) (y d:Int),qa y≤d→d<qa (y+n+1)→qa (Nq n y d)≤d∧d<qa (Nq n y d+1)∧y≤Nq n y d∧Nq n y d≤y+n:=by
  intro n
  induction n with
  |zero=>intro y d h1 h2;refine⟨h1,?_,Int.le_refl _,by simp[Nq]⟩;simpa [Nq] using h2
  |succ n ih=>
    intro y d h1 h2
    unfold Nq
    by_cases h:qa (y+1)≤d
    · rw[if_pos h]
      obtain⟨a,b,c,e⟩:=ih (y+1) d h (by rw[show y+1+(n:Int)+1=y+((n+1:Nat):Int)+1 by omega];exact h2)
      exact⟨a,b,by omega,by omega⟩
    · rw[if_neg h];exact⟨h1,by omega,Int.le_refl _,by omega⟩
def BM (d:Int):Int:=Nq 8029 1970 d
theorem IM (d:Int) (h0:0≤d) (h1:d≤2932896):qa (BM d)≤d∧d<qa (BM d+1)∧1970≤BM d∧BM d≤9999:=by
  obtain⟨a,b,c,e⟩:=Nr 8029 1970 d (by unfold qa;omega) (by unfold qa;omega)
  exact⟨a,b,c,by unfold BM;omega⟩
def UD (y:Int):Nat→Nat→Int→Nat
  |0,n,_=>n
  |k+1,n,d=>if qb y (n+1)≤d then UD y k (n+1) d else n
theorem Ns (y:Int):∀(k n:Nat) (d:Int),qb y n≤d→d<qb y (n+k+1)→qb y (UD y k n d)≤d∧d<qb y (UD y k n d+1)∧UD y k n d≤n+k:=by
  intro k
  induction k with
  |zero=>intro n d h1 h2;exact⟨h1,h2,Nat.le_refl _⟩
  |succ k ih=>
    intro n d h1 h2
    unfold UD
    by_cases h:qb y (n+1)≤d
    · rw[if_pos h]
      obtain⟨a,b,e⟩:=ih (n+1) d h (by rw[show n+1+k+1=n+(k+1)+1 by omega];exact h2)
      exact⟨a,b,by omega⟩
    · rw[if_neg h];exact⟨h1,by omega,by omega⟩
def J9 (y d:Int):Nat:=UD y 11 0 d
theorem Ka (y d:Int) (h0:0≤d) (h1:d<J7 y):qb y (J9 y d)≤d∧d<qb y (J9 y d+1)∧J9 y d≤11:=by
  obtain⟨a,b,e⟩:=Ns y 11 0 d h0 (by rw[CR];exact h1)
  exact⟨a,b,by unfold J9;omega⟩
def cY (t:Int):Int:=BM (t / 86400)
def cN (t:Int):Nat:=J9 (cY t) (t / 86400-qa (cY t))
def cM (t:Int):Int:=(cN t:Int)+1
def cD (t:Int):Int:=t / 86400-qa (cY t)-qb (cY t) (cN t)+1
def cH (t:Int):Int:=t%86400 / 3600
def cI (t:Int):Int:=t%3600 / 60
def cS (t:Int):Int:=t%60
def nY (t:Int):Prop:=0≤t∧t≤253402300799
theorem si (t:Int) (h:nY t):qa (cY t)≤t / 86400∧t / 86400<qa (cY t+1)∧1970≤cY t∧cY t≤9999:=by
  unfold nY at h
  exact IM _ aa aa
theorem vD (t:Int) (h:nY t):qb (cY t) (cN t)≤t / 86400-qa (cY t)∧t / 86400-qa (cY t)<qb (cY t) (cN t+1)∧cN t≤11:=by
  obtain⟨a,b,-,-⟩:=si t h
  rw[qL] at b
  exact Ka _ _ aa aa
theorem WM (t:Int) (h:nY t):rQ (cY t) (cM t) (cD t) (cH t) (cI t) (cS t)=true:=by
  obtain⟨-,-,a,b⟩:=si t h
  obtain⟨c,d,e⟩:=vD t h
  have d':t / 86400-qa (cY t)<qb (cY t) (cN t)+xM (cY t) (cM t):=d
  rw[fC]
  unfold cH cI cS
  refine⟨⟨a,b⟩,⟨by unfold cM;omega,by unfold cM;omega⟩,⟨by unfold cD;omega,by unfold cD;omega⟩,⟨by omega,by omega⟩,⟨by omega,by omega⟩,by omega,by omega⟩
theorem WN (t:Int):Av (cY t) (cM t) (cD t) (cH t) (cI t) (cS t)=t:=by
  have e:(cM t-1).toNat=cN t:=by unfold cM;omega
  unfold Av
  rw[e]
  unfold cD cH cI cS
  omega
theorem Kb (Y M D h m s:Int) (hc:rQ Y M D h m s=true):nY (Av Y M D h m s):=by
  rw[fC] at hc
  obtain⟨h1,h2,h3,h4,h5,h6⟩:=hc
  have a:=vC 1970 Y h1.1
  have b:=vC (Y+1) 10000 aa
  have e1:qa 1970=0:=by decide
  have e2:qa 10000=2932897:=by decide
  have c:=qL Y
  obtain⟨n,hn⟩:∃ n:Nat,(M-1).toNat=n:=⟨_,rfl⟩
  have d:=vB Y (n+1) 12 aa
  rw[CR] at d
  have d':qb Y (n+1)=qb Y n+xM Y M:=by
    show qb Y n+xM Y ((n:Int)+1)=_
    rw[show(n:Int)+1=M by omega]
  have f:=BL Y n
  unfold nY Av
  rw[hn]
  omega
end Go.Proofs.YtfhllanhldbkkaaGreatDoor.P
end

section
/- Plain laws of our own (Kit): about numbers and lists alone; no condition beyond those written. -/
namespace Go.Proofs.YtfhllanhldbkkaaGreatDoor.P
open Go.RowKit Go.Proofs.YtfhllanhldbkkaaGreatDoorW.ax Go.Proofs.YtfhllanhldbkkaaGreatDoorW.aD Go.Proofs.YtfhllanhldbkkaaGreatDoorW.aH
set_option linter.unusedVariables false
set_option linter.unusedSimpArgs false
set_option maxHeartbeats 2000000
theorem au {x:Int} (h:-9223372036854775808≤x) (h':x≤9223372036854775807):wrap64 x=x:=by unfold wrap64;omega
theorem size_extract (s:ByteArray) (a b:Nat):(s.extract a b).size=min b s.size-a:=ByteArray.size_extract
theorem fD (s:ByteArray) (a b:Nat) (i:Int) (h0:0≤i) (h1:i<(b:Int)-a) (h2:b≤s.size):bt (s.extract a b) i=bt s (a+i):=by
  obtain⟨n,rfl⟩:=Int.eq_ofNat_of_zero_le h0
  unfold bt
  have e:((a:Int)+(n:Int)).toNat=a+n:=by omega
  rw[e]
  have h3:n<(s.extract a b).size:=by rw[ByteArray.size_extract];omega
  rw[dif_pos (show((n:Int)).toNat<(s.extract a b).size by simpa using h3),dif_pos (show a+n<s.size by omega)]
  simp only[Int.toNat_natCast]
  rw[ByteArray.getElem_extract]

end Go.Proofs.YtfhllanhldbkkaaGreatDoor.P
end

section
/- Plain laws of our own (Trim): about numbers and lists alone; no condition beyond those written. -/
namespace Go.Proofs.YtfhllanhldbkkaaGreatDoor.P
open Go.RowKit Go.Proofs.YtfhllanhldbkkaaGreatDoorW.ax Go.Proofs.YtfhllanhldbkkaaGreatDoorW.aD Go.Proofs.YtfhllanhldbkkaaGreatDoorW.aH
set_option linter.unusedVariables false
set_option linter.unusedSimpArgs false
set_option maxHeartbeats 2000000
theorem toList_nil (s:ByteArray):s.toList=([]:List UInt8)↔s.size=0:=by
  rw[ByteArray.toList_eq]
  constructor
  · intro h
    have:=congrArg List.length h
    rw[fK] at this
    simpa using this
  · intro h
    apply List.eq_nil_of_length_eq_zero
    rw[fK];exact h
def ws (c:Int):Bool:=decide (c=32)||decide (c=9)
theorem uB (c:Int):nz.f c=some (ws c):=by
  unfold nz.f ws
  by_cases h:c=32
  · rw[if_pos h];simp[h]
  · rw[if_neg h]
    by_cases h2:c=9 <;> simp[h,h2]
theorem ET (c:Int):pO.f c=some (ws c):=uB c
def lead (s:ByteArray):Nat→Nat→Nat
  |0,i=>i
  |d+1,i=>if ws (bt s (i:Int))=true then lead s d (i+1) else i
def back (s:ByteArray):Nat→Nat→Nat
  |0,j=>j
  |d+1,j=>if ws (bt s ((j-1:Nat):Int))=true then back s d (j-1) else j
def trimS (s:ByteArray):ByteArray:=s.extract (lead s s.size 0) (back s (s.size-lead s s.size 0) s.size)
theorem vE (s:ByteArray) (hs:s.size≤140737488351232):∀(d k a j:Nat),a≤j→j≤s.size→j-a=d→d<k→eQ.l1 k s (a:Int) (j:Int)=some (s.extract a (back s d j)):=by
  intro d
  induction d with
  |zero=>
    intro k a j h1 h2 hd hk
    obtain⟨k,rfl⟩:∃ m,k=m+1:=⟨k-1,by omega⟩
    simp only[eQ.l1]
    rw[if_neg aa,if_pos aa,if_pos aa,if_pos aa]
    rfl
  |succ d ih=>
    intro k a j h1 h2 hd hk
    obtain⟨k,rfl⟩:∃ m,k=m+1:=⟨k-1,by omega⟩
    simp only[eQ.l1]
    have hw:wrap64 ((j:Int)-1)=((j-1:Nat):Int):=by rw[au aa aa];omega
    rw[if_pos aa,hw,if_pos aa,if_pos aa,ET,aj]
    simp only[back]
    by_cases hb:ws (bt s ((j-1:Nat):Int))=true
    · rw[if_pos hb,if_pos hb]
      exact ih k a (j-1) aa aa aa aa
    · rw[if_neg hb,if_neg hb,if_pos aa,if_pos aa,if_pos aa]
      rfl
theorem CS (s:ByteArray) (hs:s.size≤140737488351232):∀(d k i:Nat),i≤s.size→s.size-i=d→d+s.size+3<k→eQ.l0 k s (i:Int)=some (s.extract (lead s d i) (back s (s.size-lead s d i) s.size)):=by
  intro d
  induction d with
  |zero=>
    intro k i h1 hd hk
    obtain⟨k,rfl⟩:∃ m,k=m+2:=⟨k-2,by omega⟩
    simp only[eQ.l0]
    rw[if_neg aa]
    simp only[eQ.j1,lead]
    exact vE s hs _ k i s.size h1 (Nat.le_refl _) rfl aa
  |succ d ih=>
    intro k i h1 hd hk
    obtain⟨k,rfl⟩:∃ m,k=m+2:=⟨k-2,by omega⟩
    rw[eQ.l0.eq_def]
    have hw:wrap64 ((i:Int)+1)=((i+1:Nat):Int):=by rw[au aa aa];omega
    dsimp only
    rw[if_pos aa,if_pos aa,ET,aj]
    simp only[lead]
    by_cases hb:ws (bt s (i:Int))=true
    · rw[if_pos hb,if_pos hb,hw]
      exact ih (k+1) (i+1) aa aa aa
    · rw[if_neg hb,if_neg hb]
      simp only[eQ.j1]
      exact vE s hs _ k i s.size h1 (Nat.le_refl _) rfl aa
theorem vF (s:ByteArray) (hs:s.size≤140737488351232):∀(d k a j:Nat),a≤j→j≤s.size→j-a=d→d<k→fe.l1 k (s.extract a j)=some (s.extract a (back s d j)):=by
  intro d
  induction d with
  |zero=>
    intro k a j h1 h2 hd hk
    obtain⟨k,rfl⟩:∃ m,k=m+1:=⟨k-1,by omega⟩
    simp only[fe.l1]
    rw[if_pos ((toList_nil _).2 (by rw[size_extract];omega))]
    rfl
  |succ d ih=>
    intro k a j h1 h2 hd hk
    obtain⟨k,rfl⟩:∃ m,k=m+1:=⟨k-1,by omega⟩
    have hz:(s.extract a j).size=d+1:=by rw[size_extract];omega
    simp only[fe.l1]
    have hw:wrap64 (((s.extract a j).size:Int)-1)=((d:Nat):Int):=by rw[hz,au aa aa];omega
    have hb0:bt (s.extract a j) ((d:Nat):Int)=bt s ((j-1:Nat):Int):=by
      rw[fD s a j _ aa aa h2]
      congr 1;omega
    rw[if_neg (fun h=>by have:=(toList_nil _).1 h;omega),hw,if_pos aa,if_pos aa,uB,aj,Int.toNat_natCast,ByteArray.extract_extract,hb0]
    simp only[back]
    have he:s.extract (a+0) (min (a+d) j)=s.extract a (j-1):=by congr 1;omega
    by_cases hb:ws (bt s ((j-1:Nat):Int))=true
    · rw[if_pos hb,if_pos hb,if_pos aa,he]
      exact ih k a (j-1) aa aa aa aa
    · rw[if_neg hb,if_neg hb]
theorem CU (s:ByteArray) (hs:s.size≤140737488351232):∀(d k i:Nat),i≤s.size→s.size-i=d→d+s.size+3<k→fe.l0 k (s.extract i s.size)=some (s.extract (lead s d i) (back s (s.size-lead s d i) s.size)):=by
  intro d
  induction d with
  |zero=>
    intro k i h1 hd hk
    obtain⟨k,rfl⟩:∃ m,k=m+2:=⟨k-2,by omega⟩
    rw[fe.l0.eq_def]
    dsimp only
    rw[if_pos ((toList_nil _).2 (by rw[size_extract];omega))]
    simp only[fe.j1,lead]
    exact vF s hs _ k i s.size h1 (Nat.le_refl _) rfl aa
  |succ d ih=>
    intro k i h1 hd hk
    obtain⟨k,rfl⟩:∃ m,k=m+2:=⟨k-2,by omega⟩
    have hz:(s.extract i s.size).size=d+1:=by rw[size_extract];omega
    rw[fe.l0.eq_def]
    dsimp only
    have hb0:bt (s.extract i s.size) 0=bt s (i:Int):=by
      rw[fD s i s.size 0 aa aa (Nat.le_refl _)]
      congr 1
    have he:(s.extract i s.size).extract 1 (s.extract i s.size).size=s.extract (i+1) s.size:=by
      rw[ByteArray.extract_extract,hz];congr 1;omega
    rw[if_neg (fun h=>by have:=(toList_nil _).1 h;omega),if_pos aa,uB,aj,hb0,he]
    simp only[lead]
    by_cases hb:ws (bt s (i:Int))=true
    · rw[if_pos hb,if_pos hb,if_pos aa]
      exact ih (k+1) (i+1) aa aa aa
    · rw[if_neg hb,if_neg hb]
      simp only[fe.j1]
      exact vF s hs _ k i s.size h1 (Nat.le_refl _) rfl aa
theorem CV (s:ByteArray) (hs:s.size≤140737488351232) (k:Nat) (hk:2*s.size+3<k):eQ.f k s=some (trimS s):=by
  unfold eQ.f trimS
  exact CS s hs s.size k 0 (Nat.zero_le _) aa aa
theorem CW (s:ByteArray) (hs:s.size≤140737488351232) (k:Nat) (hk:2*s.size+3<k):fe.f k s=some (trimS s):=by
  unfold fe.f trimS
  have h:=CU s hs s.size k 0 (Nat.zero_le _) aa aa
  rw[ByteArray.extract_zero_size] at h
  exact h

end Go.Proofs.YtfhllanhldbkkaaGreatDoor.P
end

section
/- Plain laws of our own (Elements): about numbers and lists alone; no condition beyond those written. -/
namespace Go.Proofs.YtfhllanhldbkkaaGreatDoor.P
open Go.RowKit Go.Proofs.YtfhllanhldbkkaaGreatDoorW.ax Go.Proofs.YtfhllanhldbkkaaGreatDoorW.aD Go.Proofs.YtfhllanhldbkkaaGreatDoorW.aH
set_option linter.unusedVariables false
set_option linter.unusedSimpArgs false
set_option maxHeartbeats 2000000
def fin (s:ByteArray) (out:List ByteArray) (a:Nat):List ByteArray:=akD out (trimS (s.extract a s.size))
end Go.Proofs.YtfhllanhldbkkaaGreatDoor.P
end

section
/- Plain laws of our own (Line): about numbers and lists alone; no condition beyond those written. -/
namespace Go.Proofs.YtfhllanhldbkkaaGreatDoor.P
open Go.RowKit Go.Proofs.YtfhllanhldbkkaaGreatDoorW.ax Go.Proofs.YtfhllanhldbkkaaGreatDoorW.aD Go.Proofs.YtfhllanhldbkkaaGreatDoorW.aH
set_option linter.unusedVariables false
set_option linter.unusedSimpArgs false
set_option maxHeartbeats 2000000
theorem bX (m:Nat) (h:m≤4611686018427387904):wrap64 ((m:Int)+1)=((m+1:Nat):Int):=by
  rw[au aa aa];omega
theorem IP (m:Nat) (h:m≤4611686018427387904) (h1:1≤m):wrap64 ((m:Int)-1)=((m-1:Nat):Int):=by
  rw[au aa aa];omega
theorem wY (s:ByteArray):s.data.toList.length=s.size:=Array.length_toList
theorem gV {s:ByteArray} {n:Nat} {b:UInt8} (h:s.data.toList[n]? = some b):n<s.size∧bt s (n:Int)=(b.toNat:Int):=by
  obtain⟨h1,h2⟩:=List.getElem?_eq_some_iff.mp h
  have h3:n<s.size:=by rw[wY] at h1;exact h1
  refine⟨h3,?_⟩
  unfold bt
  rw[dif_pos (show((n:Int)).toNat<s.size by simpa using h3)]
  simp only[Int.toNat_natCast]
  rw[← h2]
  rfl
theorem Hd {s:ByteArray} {n:Nat} (h:n<s.size):∃ b:UInt8,s.data.toList[n]? = some b∧bt s (n:Int)=(b.toNat:Int):=by
  have h1:n<s.data.toList.length:=by rw[wY];exact h
  exact⟨s.data.toList[n],List.getElem?_eq_getElem h1,(gV (List.getElem?_eq_getElem h1)).2⟩
theorem vG (s:ByteArray) (a b:Nat):(s.extract a b).data.toList=(s.data.toList.take b).drop a:=by
  rw[ByteArray.data_extract,Array.toList_extract,List.extract_eq_take_drop,List.take_drop]
  by_cases h:a≤b
  · rw[show a+(b-a)=b by omega]
  · rw[show a+(b-a)=a by omega,List.drop_of_length_le (by simp;omega),List.drop_of_length_le (by simp;omega)]
theorem sU (s:ByteArray) (a b c d:Nat) (h:a+d≤b):(s.extract a b).extract c d=s.extract (a+c) (a+d):=by
  rw[ByteArray.extract_extract,Nat.min_eq_left h]
theorem aQ (k:Nat) (h:0<k):∃ q,k=q+1:=⟨k-1,by omega⟩
end Go.Proofs.YtfhllanhldbkkaaGreatDoor.P
end

section
/- Plain laws of our own (AllB): about numbers and lists alone; no condition beyond those written. -/
namespace Go.Proofs.YtfhllanhldbkkaaGreatDoor.P
open Go.RowKit Go.Proofs.YtfhllanhldbkkaaGreatDoorW.ax Go.Proofs.YtfhllanhldbkkaaGreatDoorW.aD Go.Proofs.YtfhllanhldbkkaaGreatDoorW.aH
set_option linter.unusedVariables false
set_option linter.unusedSimpArgs false
set_option maxHeartbeats 2000000
def mE (p:Int→Bool):Nat→Int→Bool
  |0,_=>true
  |d+1,i=>p i&&mE p d (i+1)
theorem Ke (F:Nat→Int→Option Bool) (n:Nat) (p:Int→Bool) (K0:Nat) (stop:∀ k (i:Int),(n:Int)≤i→F (k+1) i=some true)
    (step:∀ k (i:Int),0≤i→i<n→K0≤k→F (k+1) i=if p i=true then F k (i+1) else some false) :
    ∀(d k:Nat) (i:Int),0≤i→(n:Int)-i=d→d+K0<k→F k i=some (mE p d i):=by
  intro d
  induction d with
  |zero=>
    intro k i h0 hd hk
    obtain⟨k,rfl⟩:∃ m,k=m+1:=⟨k-1,by omega⟩
    rw[stop k i aa]
    rfl
  |succ d ih=>
    intro k i h0 hd hk
    obtain⟨k,rfl⟩:∃ m,k=m+1:=⟨k-1,by omega⟩
    rw[step k i h0 aa aa,ih k (i+1) aa aa aa]
    simp only[mE]
    cases p i <;> simp
theorem lM (F:Nat→Int→Option Bool) (n:Nat) (p:Int→Bool) (K0:Nat) (stop:∀ k (i:Int),(n:Int)≤i→F (k+1) i=some true)
    (step:∀ k (i:Int),0≤i→i<n→K0≤k→F (k+1) i=if p i=true then F k (i+1) else some false) (k:Nat) (hk:n+K0<k):F k 0=some (mE p n 0):=
  Ke F n p K0 stop step n k 0 aa aa hk

end Go.Proofs.YtfhllanhldbkkaaGreatDoor.P
end

section
/- Plain laws of our own (Hex): about numbers and lists alone; no condition beyond those written. -/
namespace Go.Proofs.YtfhllanhldbkkaaGreatDoor.P
open Go.RowKit Go.Proofs.YtfhllanhldbkkaaGreatDoorW.ax Go.Proofs.YtfhllanhldbkkaaGreatDoorW.aD Go.Proofs.YtfhllanhldbkkaaGreatDoorW.aH
set_option linter.unusedVariables false
set_option linter.unusedSimpArgs false
set_option maxHeartbeats 2000000
def jY (c:Int):Int:=(fq.f 3 c).getD (-1)
theorem CX : ∀ n:Fin 256,(fq.f 3 (n.val:Int)==some (jY (n.val:Int))&&decide (-1≤jY (n.val:Int))&&decide (jY (n.val:Int)≤15))=true:=by decide +kernel
theorem lN (c:Int) (h0:0≤c) (h1:c≤255) (k:Nat) (hk:3≤k):fq.f k c=some (jY c)∧-1≤jY c∧jY c≤15:=by
  obtain⟨n,rfl⟩:=Int.eq_ofNat_of_zero_le h0
  have h:=CX ⟨n,by omega⟩
  simp only[Bool.and_eq_true,decide_eq_true_eq,beq_iff_eq] at h
  exact⟨yJ (g:=fun k=>fq.f k (n:Int)) (fun k=>fq.mono (n:Int) k) hk h.1.1,h.1.2,h.2⟩
def Nt (x4 c:Int) (f:Int→Option (Int×Bool)):Option (Int×Bool):=
  (jf.f c).bind fun t=>(bS.f t).bind fun d=>if d=true then f (wrap64 ((wrap64 (x4*16))+((t-48)%256))) else if t≥97 then(if t≤102 then f (wrap64 ((wrap64 ((wrap64 (x4*16))+((t-97)%256)))+10)) else some (0,false)) else some (0,false)
def WO (c:Int):Int:=match jf.f c with
  |some t=>match bS.f t with
    |some true=>(t-48)%256
    |some false=>if t≥97 then(if t≤102 then(t-97)%256+10 else -1) else -1
    |none=>-2
  |none=>-2
theorem CY : ∀ n:Fin 256,(WO (n.val:Int)==jY (n.val:Int))=true:=by decide +kernel
theorem He (c:Int) (h0:0≤c) (h1:c≤255) (x4:Int) (hx:0≤x4) (hx2:x4≤268435456) (f:Int→Option (Int×Bool)) :
    Nt x4 c f=if jY c<0 then some (0,false) else f (16*x4+jY c):=by
  obtain⟨n,rfl⟩:=Int.eq_ofNat_of_zero_le h0
  have h:=beq_iff_eq.1 (CY ⟨n,by omega⟩)
  have hr:=lN (n:Int) h0 h1 3 (Nat.le_refl _)
  simp only at h
  unfold Nt
  unfold WO at h
  have hw16:wrap64 (x4*16)=x4*16:=au aa aa
  cases hl:jf.f (n:Int) with
  |none=>rw[hl] at h;simp only at h;omega
  |some t=>
    rw[hl] at h
    simp only at h
    rw[aj]
    cases hd:bS.f t with
    |none=>rw[hd] at h;simp only at h;omega
    |some d=>
      rw[hd] at h
      rw[aj,hw16]
      cases d with
      |true=>
        simp only at h
        rw[if_pos rfl,if_neg aa,au aa aa]
        congr 1;omega
      |false=>
        simp only at h
        rw[if_neg ak]
        by_cases h97:t≥97
        · rw[if_pos h97] at h ⊢
          by_cases WQ:t≤102
          · rw[if_pos WQ] at h ⊢
            rw[if_neg aa,au (x:=x4*16+(t-97)%256) aa aa,au aa aa]
            congr 1;omega
          · rw[if_neg WQ] at h ⊢
            rw[if_pos aa]
        · rw[if_neg h97] at h ⊢
          rw[if_pos aa]
theorem dx (s:ByteArray) (i:Int):0≤bt s i∧bt s i≤255:=by
  unfold bt
  split
  · rename_i h
    have:=(s[i.toNat]).toNat_lt
    omega
  · omega
end Go.Proofs.YtfhllanhldbkkaaGreatDoor.P
end

section
/- Plain laws of our own (Within): about numbers and lists alone; no condition beyond those written. -/
namespace Go.Proofs.YtfhllanhldbkkaaGreatDoor.P
open Go.RowKit Go.Proofs.YtfhllanhldbkkaaGreatDoorW.ax Go.Proofs.YtfhllanhldbkkaaGreatDoorW.aD Go.Proofs.YtfhllanhldbkkaaGreatDoorW.aH
set_option linter.unusedVariables false
set_option linter.unusedSimpArgs false
set_option maxHeartbeats 2000000
theorem mF (a b c:Int):dz.f a b c=some (decide (b≤a∧a≤c)):=by
  unfold dz.f
  by_cases h:b≤a
  · rw[if_pos h];simp[h]
  · rw[if_neg h];simp[h]

end Go.Proofs.YtfhllanhldbkkaaGreatDoor.P
end

section
/- Plain laws of our own (Token): about numbers and lists alone; no condition beyond those written. -/
namespace Go.Proofs.YtfhllanhldbkkaaGreatDoor.P
open Go.RowKit Go.Proofs.YtfhllanhldbkkaaGreatDoorW.ax Go.Proofs.YtfhllanhldbkkaaGreatDoorW.aD Go.Proofs.YtfhllanhldbkkaaGreatDoorW.aH
set_option linter.unusedVariables false
set_option linter.unusedSimpArgs false
set_option maxHeartbeats 2000000
def F7 (c:Int):Bool:=(gW.f c).getD false
theorem CZ : ∀ n:Fin 256,gW.f (n.val:Int)=some (F7 (n.val:Int)):=by decide +kernel
theorem C8 : ∀ n:Fin 256,gT.f 20 (n.val:Int)=some (F7 (n.val:Int)):=by decide +kernel
theorem za (c:Int) (h0:0≤c) (h1:c≤255):gW.f c=some (F7 c):=by
  obtain⟨n,rfl⟩:=Int.eq_ofNat_of_zero_le h0
  exact CZ ⟨n,by omega⟩
theorem Kg (c:Int) (h0:0≤c) (h1:c≤255) (k:Nat) (hk:20≤k):gT.f k c=some (F7 c):=by
  obtain⟨n,rfl⟩:=Int.eq_ofNat_of_zero_le h0
  exact yJ (g:=fun k=>gT.f k (n:Int)) (fun k=>gT.mono (n:Int) k) hk (C8 ⟨n,by omega⟩)
def Aw (s:ByteArray):Bool:=decide (1≤s.size∧s.size≤4000)&&mE (fun i=>F7 (bt s i)) s.size 0
theorem tV (s:ByteArray) (k:Nat) (hk:5000<k):nA.f k s=some (Aw s):=by
  unfold nA.f Aw
  rw[mF,aj]
  by_cases h:1≤s.size∧s.size≤4000
  · rw[if_pos (aT aa),aT h,Bool.true_and]
    unfold bV.f
    rw[lM (fun k i=>bV.l0 k s i) s.size (fun i=>F7 (bt s i)) 0 (fun k i hi=>by simp only[bV.l0];rw[if_neg aa])
      (fun k i h0 h1 _=>by
        have hb:=dx s i
        simp only[bV.l0]
        rw[if_pos h1,if_pos h0,za _ hb.1 hb.2,aj,au aa aa]) k aa]
    rfl
  · rw[if_neg (by simp;omega),aN h,Bool.false_and]
theorem tX (s:ByteArray) (k:Nat) (hk:5000<k):eF.f k s=some (Aw s):=by
  obtain⟨k,rfl⟩:∃ m,k=m+1:=⟨k-1,by omega⟩
  unfold eF.f Aw
  by_cases h0:(s.size:Int)=0
  · rw[if_pos h0,aN aa,Bool.false_and]
    simp[eF.j0]
  · rw[if_neg h0]
    simp only[eF.j0]
    by_cases h:1≤s.size∧s.size≤4000
    · rw[if_neg (by simp;omega),aT h,Bool.true_and]
      exact lM (fun k i=>eF.l0 k s i) s.size (fun i=>F7 (bt s i)) 20 (fun k i hi=>by simp only[eF.l0];rw[if_neg aa])
        (fun k i h0 h1 hk=>by
          have hb:=dx s i
          simp only[eF.l0]
          rw[if_pos h1,if_pos h0,Kg _ hb.1 hb.2 k hk,aj,au aa aa]) k aa
    · rw[if_pos (by simp;omega),aN h,Bool.false_and]
def UE (c:Int):Bool:=decide (c=9)||(decide (32≤c)&&decide (c≠127))
theorem zb (c:Int):pQ.f c=some (UE c):=by
  unfold pQ.f UE
  by_cases h:c=9
  · rw[if_pos h];simp[h]
  · rw[if_neg h]
    by_cases h2:c≥32
    · rw[if_pos h2]
      by_cases h3:c=127 <;> simp[h,h2,h3]
    · rw[if_neg h2];simp[h,h2]
theorem F8 (c:Int):tN.f c=some (UE c):=zb c
def pF (s:ByteArray):Bool:=mE (fun i=>UE (bt s i)) s.size 0
theorem tY (s:ByteArray) (hs:s.size≤140737488351232) (k:Nat) (hk:s.size<k):bT.f k s=some (pF s):=by
  unfold bT.f pF
  exact lM (fun k i=>bT.l0 k s i) s.size (fun i=>UE (bt s i)) 0 (fun k i hi=>by simp only[bT.l0];rw[if_neg aa])
    (fun k i h0 h1 _=>by
      simp only[bT.l0]
      rw[if_pos h1,if_pos h0,zb,aj,au aa aa]) k aa
theorem tZ (s:ByteArray) (hs:s.size≤140737488351232) (k:Nat) (hk:s.size<k):fG.f k s=some (pF s):=by
  unfold fG.f pF
  exact lM (fun k i=>fG.l0 k s i) s.size (fun i=>UE (bt s i)) 0 (fun k i hi=>by simp only[fG.l0];rw[if_neg aa])
    (fun k i h0 h1 _=>by
      simp only[fG.l0]
      rw[if_pos h1,if_pos h0,F8,aj,au aa aa]) k aa

end Go.Proofs.YtfhllanhldbkkaaGreatDoor.P
end

section
/- Plain laws of our own (Fields): about numbers and lists alone; no condition beyond those written. -/
namespace Go.Proofs.YtfhllanhldbkkaaGreatDoor.P
open Go.RowKit Go.Proofs.YtfhllanhldbkkaaGreatDoorW.ax Go.Proofs.YtfhllanhldbkkaaGreatDoorW.aD Go.Proofs.YtfhllanhldbkkaaGreatDoorW.aH
set_option linter.unusedVariables false
set_option linter.unusedSimpArgs false
set_option maxHeartbeats 2000000
def kH (n v:ByteArray):Bool:=decide (n.size≤40)&&(Aw n&&(decide (v.size≤190)&&(pF v&&((trimS v).toList==v.toList))))
theorem yh (n v:ByteArray) (k:Nat) (hk:5000<k):ik.f k n v=some (kH n v):=by
  unfold ik.f kH
  rw[tV n k hk,aj]
  by_cases h1:Aw n=true
  · rw[if_pos h1,h1,Bool.true_and]
    by_cases h2:n.size≤40
    · rw[if_pos aa,aT h2,Bool.true_and]
      by_cases h3:v.size≤190
      · rw[if_pos aa,aT h3,Bool.true_and,tY v aa k aa,aj]
        by_cases h4:pF v=true
        · rw[if_pos h4,h4,Bool.true_and,CW v aa k aa];rfl
        · rw[if_neg h4];simp[h4]
      · rw[if_neg aa,aN h3,Bool.false_and]
    · rw[if_neg aa,aN h2,Bool.false_and]
  · rw[if_neg h1];simp[h1]
theorem rE (n v:ByteArray) (k:Nat) (hk:5000<k):jO.f k n v=some (kH n v):=by
  unfold jO.f kH
  by_cases h2:n.size≤40
  · rw[if_pos aa,aT h2,Bool.true_and,tX n k hk,aj]
    by_cases h1:Aw n=true
    · rw[if_pos h1,h1,Bool.true_and]
      by_cases h3:v.size≤190
      · rw[if_pos aa,aT h3,Bool.true_and,tZ v aa k aa,aj]
        by_cases h4:pF v=true
        · rw[if_pos h4,h4,Bool.true_and,CV v aa k aa];rfl
        · rw[if_neg h4];simp[h4]
      · rw[if_neg aa,aN h3,Bool.false_and]
    · rw[if_neg h1];simp[h1]
  · rw[if_neg aa,aN h2,Bool.false_and]
abbrev aW := nV
def bQ (l:List aW):Bool:=decide (l.length≤20)&&mE (fun i=>kH (bg l i).f0 (bg l i).f1) l.length 0
theorem mG (l:List aW) (k:Nat) (hk:6000<k):eX.f k l=some (bQ l):=by
  unfold eX.f bQ
  by_cases h:l.length≤20
  · rw[if_neg aa,aT h,Bool.true_and]
    exact lM (fun k i=>eX.l0 k l (l.length:Int) i) l.length _ 5001 (fun k i hi=>by simp only[eX.l0];rw[if_neg aa])
      (fun k i h0 h1 hk=>by
        simp only[eX.l0]
        rw[if_pos h1,if_pos h0,if_pos h1,yh _ _ k aa,aj,au aa aa]) k aa
  · rw[if_pos aa,aN h,Bool.false_and]
theorem mH (l:List aW) (k:Nat) (hk:6000<k):eY.f k l=some (bQ l):=by
  unfold eY.f bQ
  by_cases h:l.length≤20
  · rw[if_neg aa,aT h,Bool.true_and]
    exact lM (fun k i=>eY.l0 k l i) l.length _ 5001 (fun k i hi=>by simp only[eY.l0];rw[if_neg aa])
      (fun k i h0 h1 hk=>by
        simp only[eY.l0]
        rw[if_pos h1,if_pos h0,rE _ _ k aa,aj,au aa aa]) k aa
  · rw[if_pos aa,aN h,Bool.false_and]
theorem dL {l:List aW} (h:bQ l=true):l.length≤20:=by
  unfold bQ at h
  have:=(Bool.and_eq_true_iff.1 h).1
  exact bE this
theorem Hf {p:Int→Bool}:∀(d:Nat) (i:Int),mE p d i=true→∀ j:Nat,j<d→p (i+j)=true:=by
  intro d
  induction d with
  |zero=>intro i _ j hj;omega
  |succ d ih=>
    intro i h j hj
    simp only[mE,Bool.and_eq_true] at h
    cases j with
    |zero=>simpa using h.1
    |succ j=>
      have:=ih (i+1) h.2 j aa
      rw[show i+((j+1:Nat):Int)=i+1+(j:Int) by omega]
      exact this
theorem mX {l:List aW} (h:bQ l=true) (j:Nat) (hj:j<l.length):(bg l (j:Int)).f0.size≤40∧(bg l (j:Int)).f1.size≤190:=by
  unfold bQ at h
  have h2:=Hf _ _ (Bool.and_eq_true_iff.1 h).2 j hj
  rw[Int.zero_add] at h2
  unfold kH at h2
  simp only[Bool.and_eq_true] at h2
  exact⟨bE h2.1,bE h2.2.2.1⟩
def iO (a b:ByteArray):Bool:=(iN a).toList==(iN b).toList
theorem wZ (a b:ByteArray) (ha:a.size≤9223372036854775807) (hb:b.size≤9223372036854775807):oN.f a b=some (iO a b):=by
  unfold oN.f mI.f iO
  rw[if_pos ha,aj,if_pos hb,aj]
theorem xc (a b:ByteArray) (ha:a.size≤9223372036854775807) (hb:b.size≤9223372036854775807):oO.f a b=some (iO a b):=by
  unfold oO.f lq.f iO
  rw[if_pos ha,aj,if_pos hb,aj]

end Go.Proofs.YtfhllanhldbkkaaGreatDoor.P
end

section
/- Plain laws of our own (ReadField): about numbers and lists alone; no condition beyond those written. -/
namespace Go.Proofs.YtfhllanhldbkkaaGreatDoor.P
open Go.RowKit Go.Proofs.YtfhllanhldbkkaaGreatDoorW.ax Go.Proofs.YtfhllanhldbkkaaGreatDoorW.aD Go.Proofs.YtfhllanhldbkkaaGreatDoorW.aH
set_option linter.unusedVariables false
set_option linter.unusedSimpArgs false
set_option maxHeartbeats 2000000
theorem qo (s:ByteArray) (n:Nat) (c:UInt8) (h1:n<s.size) (h2:bt s (n:Int)=(c.toNat:Int)) (h3:∀ m:Nat,m<n→bt s (m:Int)≠(c.toNat:Int)) :
    Lib.indexByte s.data.toList c=(n:Int):=by
  obtain⟨b,hb,hbt⟩:=Hd h1
  rw[← Lib.indexAny_one]
  refine Lib.indexAny_hit (x:=b) (fun j y hj hy=>?_) hb ?_
  · have:=h3 j hj
    rw[(gV hy).2] at this
    have hn:y≠c:=fun e=>this (by rw[e])
    simp[hn]
  · have:b=c:=UInt8.toNat_inj.1 aa
    simp[this]
theorem o8 (s:ByteArray) (c:UInt8) (h3:∀ m:Nat,m<s.size→bt s (m:Int)≠(c.toNat:Int)) :
    Lib.indexByte s.data.toList c = -1:=by
  rw[← Lib.indexAny_one]
  refine Lib.indexAny_none (fun j y hj hy=>?_)
  have hq:=gV hy
  have:=h3 j hq.1
  rw[hq.2] at this
  have hn:y≠c:=fun e=>this (by rw[e])
  simp[hn]
end Go.Proofs.YtfhllanhldbkkaaGreatDoor.P
end

section
/- Plain laws of our own (Status): about numbers and lists alone; no condition beyond those written. -/
namespace Go.Proofs.YtfhllanhldbkkaaGreatDoor.P
open Go.RowKit Go.Proofs.YtfhllanhldbkkaaGreatDoorW.ax Go.Proofs.YtfhllanhldbkkaaGreatDoorW.aD Go.Proofs.YtfhllanhldbkkaaGreatDoorW.aH
set_option linter.unusedVariables false
set_option linter.unusedSimpArgs false
set_option maxHeartbeats 2000000
def dg (u:UInt8):Bool:=decide (48≤u.toNat∧u.toNat≤57)
def dd (a:Fin 10):UInt8:=UInt8.ofNat (48+a.val)
theorem Ay (u:UInt8):bS.f (u.toNat:Int)=some (dg u):=by
  unfold bS.f dg
  split
  · congr 1;apply decide_eq_decide.2;omega
  · congr 1;exact(aN aa).symm
end Go.Proofs.YtfhllanhldbkkaaGreatDoor.P
end

section
/- Plain laws of our own (Request): about numbers and lists alone; no condition beyond those written. -/
namespace Go.Proofs.YtfhllanhldbkkaaGreatDoor.P
open Go.RowKit Go.Proofs.YtfhllanhldbkkaaGreatDoorW.ax Go.Proofs.YtfhllanhldbkkaaGreatDoorW.aD Go.Proofs.YtfhllanhldbkkaaGreatDoorW.aH
set_option linter.unusedVariables false
set_option linter.unusedSimpArgs false
set_option maxHeartbeats 2000000
theorem extract_all (s:ByteArray):s.extract 0 s.size=s:=by
  apply ByteArray.ext
  rw[ByteArray.data_extract]
  exact Array.extract_eq_self_of_le (Nat.le_refl _)
def nH (s:ByteArray):Bool:=mE (fun i=>decide (33≤bt s i∧bt s i≤126)) s.size 0
theorem kK (s:ByteArray) (hs:s.size≤1048576) (k:Nat) (hk:s.size+1<k):bq.f k s=some (nH s):=by
  refine lM (fun k i=>bq.l0 k s i) s.size _ 1 (fun k i hi=>by simp only[bq.l0];rw[if_neg aa]) (fun k i h0 h1 hk=>?_) k aa
  simp only[bq.l0,qM.f]
  rw[if_pos h1,if_pos h0,au aa aa]
  by_cases h:bt s i≥33
  · rw[if_pos h,aj]
    by_cases h2:bt s i≤126
    · rw[if_pos (aT h2),if_pos (aT ⟨h,h2⟩)]
    · rw[if_neg (by rw[aN h2];decide),if_neg (by rw[aN (fun x=>h2 x.2)];decide)]
  · rw[if_neg h,aj,if_neg ak,if_neg (by rw[aN (fun x=>h x.1)];decide)]
theorem kL (s:ByteArray) (hs:s.size≤1048576) (k:Nat) (hk:s.size+1<k):dC.f k s=some (decide (0<s.size)&&nH s):=by
  by_cases h0:0<s.size
  · rw[aT h0,Bool.true_and]
    refine lM (fun k i=>dC.l0 k s i) s.size _ 1 (fun k i hi=>by simp only[dC.l0];rw[if_neg aa,aT aa]) (fun k i h0 h1 hk=>?_) k aa
    simp only[dC.l0]
    rw[if_pos h1,if_pos h0,au aa aa]
    by_cases h:bt s i<33
    · rw[if_pos h,if_neg (by rw[aN (fun x=>by omega)];decide)]
    · rw[if_neg h]
      by_cases h2:bt s i>126
      · rw[if_pos h2,if_neg (by rw[aN (fun x=>by omega)];decide)]
      · rw[if_neg h2,if_pos (aT aa)]
  · obtain⟨k,rfl⟩:=aQ k aa
    unfold dC.f
    simp only[dC.l0]
    rw[if_neg aa,aN h0,Bool.false_and,aN aa]
def Nu (a b:ByteArray):Bool:=decide (a.size≤20)&&(Aw a&&(decide (b.size≤200)&&(decide (0<b.size)&&nH b)))
end Go.Proofs.YtfhllanhldbkkaaGreatDoor.P
end

section
/- Plain laws of our own (Pieces): about numbers and lists alone; no condition beyond those written. -/
namespace Go.Proofs.YtfhllanhldbkkaaGreatDoor.P
open Go.RowKit Go.Proofs.YtfhllanhldbkkaaGreatDoorW.ax Go.Proofs.YtfhllanhldbkkaaGreatDoorW.aD Go.Proofs.YtfhllanhldbkkaaGreatDoorW.aH
set_option linter.unusedVariables false
set_option linter.unusedSimpArgs false
set_option maxHeartbeats 2000000
def pieces (s:ByteArray) (c:Int):Nat→Nat→Nat→List ByteArray
  |0,a,_=>[s.extract a s.size]
  |d+1,a,i=>if bt s (i:Int)=c then s.extract a i::pieces s c d (i+1) (i+1) else pieces s c d a (i+1)
def cB (s:ByteArray) (c:Int):List ByteArray:=pieces s c s.size 0 0
theorem Nv (s:ByteArray) (c:UInt8) (p n:Nat) (hp:p≤n) (h1:n<s.size) (h2:bt s (n:Int)=(c.toNat:Int)) (h3:∀ m:Nat,p≤m→m<n→bt s (m:Int)≠(c.toNat:Int)) :
    Lib.indexB (s.extract p s.size) (⟨#[c]⟩:af)=((n-p:Nat):Int):=by
  have hsz:(s.extract p s.size).size=s.size-p:=by rw[size_extract];omega
  show Lib.index (s.extract p s.size).data.toList [c]=_
  rw[Lib.index_one]
  apply qo
  · omega
  · rw[fD _ _ _ _ aa aa aa,show(p:Int)+((n-p:Nat):Int)=(n:Int) by omega];exact h2
  · intro m hm
    rw[fD _ _ _ _ aa aa aa]
    exact h3 (p+m) aa aa
theorem Kh (s:ByteArray) (c:UInt8) (p:Nat) (h3:∀ m:Nat,p≤m→m<s.size→bt s (m:Int)≠(c.toNat:Int)) :
    Lib.indexB (s.extract p s.size) (⟨#[c]⟩:af) = -1:=by
  have hsz:(s.extract p s.size).size=s.size-p:=by rw[size_extract];omega
  show Lib.index (s.extract p s.size).data.toList [c]=_
  rw[Lib.index_one]
  apply o8
  intro m hm
  rw[fD _ _ _ _ aa aa aa]
  exact h3 (p+m) aa aa
def sj (s:ByteArray) (c:UInt8) (p:Nat):List ByteArray:=Lib.splitB (⟨#[c]⟩:af) 0 (Lib.countB (s.extract p s.size) (⟨#[c]⟩:af)) (s.extract p s.size)
theorem EU (s:ByteArray) (c:UInt8) (p:Nat) (h3:∀ m:Nat,p≤m→m<s.size→bt s (m:Int)≠(c.toNat:Int)):sj s c p = [s.extract p s.size]:=by
  unfold sj
  exact Lib.splitB_miss _ _ _ _ (Kh s c p h3)
theorem F9 (s:ByteArray) (c:UInt8) (p n:Nat) (hp:p≤n) (h1:n<s.size) (h2:bt s (n:Int)=(c.toNat:Int)) (h3:∀ m:Nat,p≤m→m<n→bt s (m:Int)≠(c.toNat:Int)) :
    sj s c p=s.extract p n::sj s c (n+1):=by
  have hix:=Nv s c p n hp h1 h2 h3
  have hsz:(s.extract p s.size).size=s.size-p:=by rw[size_extract];omega
  have Nw:(⟨#[c]⟩:af).size=1:=rfl
  have hr:(s.extract p s.size).extract (n-p+1) (s.extract p s.size).size=s.extract (n+1) s.size:=by
    rw[hsz,sU _ _ _ _ _ aa,show p+(n-p+1)=n+1 by omega,show p+(s.size-p)=s.size by omega]
  unfold sj
  rw[Lib.countB_hit _ _ _ (Nat.le_of_eq Nw.symm) hix,Nw,hr,Nat.add_comm 1,Lib.splitB_hit _ _ _ _ _ hix,Nw,hr,sU _ _ _ _ _ aa,show p+0=p by omega,show p+(n-p+0)=n by omega]
theorem Az (s:ByteArray) (c:UInt8):∀(d a i:Nat),i+d=s.size→a≤i→(∀ m:Nat,a≤m→m<i→bt s (m:Int)≠(c.toNat:Int))→sj s c a=pieces s (c.toNat:Int) d a i:=by
  intro d
  induction d with
  |zero=>exact fun a i h1 h2 h3=>EU s c a (fun m q1 q2=>h3 m q1 aa)
  |succ d ih=>
    intro a i h1 h2 h3
    unfold pieces
    by_cases h:bt s (i:Int)=(c.toNat:Int)
    · rw[if_pos h,F9 s c a i h2 aa h h3,ih (i+1) (i+1) aa (Nat.le_refl _) (fun m q1 q2=>absurd q1 aa)]
    · rw[if_neg h]
      refine ih a (i+1) aa aa (fun m q1 q2=>?_)
      by_cases q:m=i
      · rw[q];exact h
      · exact h3 m q1 aa
theorem EW (s:ByteArray) (c:UInt8) (hs:s.size<4294967281):strings_Split.f s (⟨#[c]⟩:af)=some (cB s (c.toNat:Int)):=by
  have h:strings_Split.f s (⟨#[c]⟩:af)=some (sj s c 0):=by
    unfold strings_Split.f sj
    simp only
    rw[if_pos hs,extract_all]
  rw[h,Az s c s.size 0 0 aa (Nat.le_refl _) (fun m q1 q2=>absurd q2 aa)]
  rfl
theorem uf (s:ByteArray) (c:Int):∀(d a i:Nat),(pieces s c d a i).length≤d+1∧0<(pieces s c d a i).length:=by
  intro d
  induction d with
  |zero=>exact fun a i=>⟨Nat.le_refl 1,Nat.one_pos⟩
  |succ d ih=>
    intro a i
    unfold pieces
    split
    · have:=ih (i+1) (i+1)
      simp only[List.length_cons]
      omega
    · have:=ih a (i+1)
      omega
theorem qN (s:ByteArray) (c:Int):∀(d a i:Nat),∀ x∈pieces s c d a i,x.size≤s.size:=by
  intro d
  induction d with
  |zero=>
    intro a i x hx
    obtain rfl:=List.mem_singleton.mp hx
    rw[size_extract];omega
  |succ d ih=>
    intro a i x hx
    unfold pieces at hx
    split at hx
    · rcases List.mem_cons.mp hx with rfl|hx
      · rw[size_extract];omega
      · exact ih _ _ x hx
    · exact ih _ _ x hx

end Go.Proofs.YtfhllanhldbkkaaGreatDoor.P
end

section
/- Plain laws of our own (Pos): about numbers and lists alone; no condition beyond those written. -/
namespace Go.Proofs.YtfhllanhldbkkaaGreatDoor.P
open Go.RowKit Go.Proofs.YtfhllanhldbkkaaGreatDoorW.ax Go.Proofs.YtfhllanhldbkkaaGreatDoorW.aD Go.Proofs.YtfhllanhldbkkaaGreatDoorW.aH
set_option linter.unusedVariables false
set_option linter.unusedSimpArgs false
set_option maxHeartbeats 2000000
def xe (s:ByteArray) (c:Int):Nat→Nat→Nat
  |0,i=>i
  |d+1,i=>if bt s (i:Int)=c then i else xe s c d (i+1)
theorem uC (s:ByteArray) (c:Int):∀(d i:Nat),i≤xe s c d i∧xe s c d i≤i+d∧(∀ m:Nat,i≤m→m<xe s c d i→bt s (m:Int)≠c)∧(xe s c d i<i+d→bt s (xe s c d i:Int)=c):=by
  intro d
  induction d with
  |zero=>intro i;exact⟨Nat.le_refl _,Nat.le_refl _,fun m a b=>absurd b (by simp[xe];omega),fun h=>absurd h (by simp[xe])⟩
  |succ d ih=>
    intro i
    unfold xe
    by_cases h:bt s (i:Int)=c
    · rw[if_pos h]
      exact⟨Nat.le_refl _,by omega,fun m a b=>absurd b aa,fun _=>h⟩
    · rw[if_neg h]
      obtain⟨a,b,e,f⟩:=ih (i+1)
      refine⟨by omega,by omega,fun m h1 h2=>?_,fun h1=>f aa⟩
      by_cases q:m=i
      · rw[q];exact h
      · exact e m aa h2
def aJ (s:ByteArray) (c:Int):Nat:=xe s c s.size 0
theorem fJ (s:ByteArray) (c:Int):aJ s c≤s.size:=by have:=(uC s c s.size 0).2.1;unfold aJ;omega
theorem o9 (s:ByteArray) (c:Int) (m:Nat) (h:m<aJ s c):bt s (m:Int)≠c:=(uC s c s.size 0).2.2.1 m (Nat.zero_le _) h
theorem qp (s:ByteArray) (c:Int) (h:aJ s c<s.size):bt s (aJ s c:Int)=c:=(uC s c s.size 0).2.2.2 (by unfold aJ at h;omega)
theorem mY (s:ByteArray) (c:Int) (n:Nat) (h1:n≤s.size) (h2:∀ m:Nat,m<n→bt s (m:Int)≠c) (h3:n<s.size→bt s (n:Int)=c):aJ s c=n:=by
  by_cases a:aJ s c<n
  · exact absurd (qp s c aa) (h2 _ a)
  · by_cases b:n<aJ s c
    · exact absurd (h3 (by have:=fJ s c;omega)) (o9 s c n b)
    · omega
def az (s:ByteArray) (c:Int):ByteArray:=s.extract 0 (aJ s c)
theorem jB (s:ByteArray) (c:Int):(az s c).size=aJ s c:=by unfold az;rw[size_extract];have:=fJ s c;omega
theorem ze (s:ByteArray) (hs:s.size≤1048576) (c:Int):∀(d i k:Nat),i+d=s.size→d<k→fV.l0 k s c (i:Int)=some (s.extract 0 (xe s c d i)):=by
  intro d
  induction d with
  |zero=>
    intro i k h hk
    obtain⟨k,rfl⟩:=aQ k aa
    simp only[fV.l0,xe]
    rw[if_neg aa,show i=s.size by omega,extract_all]
  |succ d ih=>
    intro i k h hk
    obtain⟨k,rfl⟩:=aQ k aa
    simp only[fV.l0,xe]
    rw[if_pos aa,if_pos aa]
    by_cases e:bt s (i:Int)=c
    · rw[if_pos e,if_pos e,if_pos aa];rfl
    · rw[if_neg e,if_neg e,bX i aa]
      exact ih (i+1) k aa aa
theorem ow (s:ByteArray) (hs:s.size≤1048576) (c:Int) (k:Nat) (hk:s.size<k):fV.f k s c=some (az s c):=ze s hs c s.size 0 k aa hk
theorem uD (s:ByteArray) (c:UInt8):Lib.indexByte s.data.toList c=if aJ s (c.toNat:Int)<s.size then(aJ s (c.toNat:Int):Int) else -1:=by
  by_cases h:aJ s (c.toNat:Int)<s.size
  · rw[if_pos h]
    exact qo s _ c h (qp _ _ h) (fun m hm=>o9 _ _ m hm)
  · rw[if_neg h]
    exact o8 s c (fun m hm=>o9 _ _ m (by have:=fJ s (c.toNat:Int);omega))
theorem C9 (s:ByteArray) (c:UInt8):strings_Index.f s (⟨#[c]⟩:af)=some (if aJ s (c.toNat:Int)<s.size then(aJ s (c.toNat:Int):Int) else -1):=by
  rw[← uD]
  rfl
theorem rF (s:ByteArray) (c:UInt8):strings_Contains.f s (⟨#[c]⟩:af)=some (decide (aJ s (c.toNat:Int)<s.size)):=by
  unfold strings_Contains.f
  rw[C9,aj]
  congr 1
  by_cases h:aJ s (c.toNat:Int)<s.size
  · rw[if_pos h,aT h,aT aa]
  · rw[if_neg h,aN h,aN aa]
theorem zf (s:ByteArray) (hs:s.size≤1048576) (c:UInt8):strings_Cut.f s (⟨#[c]⟩:af)=some (if aJ s (c.toNat:Int)<s.size then(s.extract 0 (aJ s (c.toNat:Int)),s.extract (aJ s (c.toNat:Int)+1) s.size,true) else(s,(⟨#[]⟩:af),false)):=by
  have hi:stringslite_Index.f s (⟨#[c]⟩:af)=some (if aJ s (c.toNat:Int)<s.size then(aJ s (c.toNat:Int):Int) else -1):=by
    rw[← uD];rfl
  have h1:(⟨#[c]⟩:af).size=1:=rfl
  unfold strings_Cut.f stringslite_Cut.f
  rw[hi,aj,h1]
  by_cases h:aJ s (c.toNat:Int)<s.size
  · rw[if_pos h,if_pos h,if_pos aa,if_pos aa,if_pos aa,show((1:Nat):Int)=1 from rfl,bX _ aa,if_pos aa,if_pos aa]
    rfl
  · rw[if_neg h,if_neg h,if_neg aa];rfl
theorem yj (s:ByteArray) (hs:s.size≤1048576) (c:Int):∀(d a i k:Nat) (out:List ByteArray),i+d=s.size→a≤i→out.length≤i→d+2<k→fZ.l0 k s c out (a:Int) (i:Int)=some (out++pieces s c d a i):=by
  intro d
  induction d with
  |zero=>
    intro a i k out h ha ho hk
    obtain⟨k,rfl⟩:∃ q,k=q+2:=⟨k-2,by omega⟩
    obtain rfl:i=s.size:=by omega
    simp only[fZ.l0,pieces]
    rw[if_pos (Int.le_refl _),if_pos trivial,if_pos aa,if_pos aa,if_pos aa,bX _ aa,if_neg aa]
    rfl
  |succ d ih=>
    intro a i k out h ha ho hk
    obtain⟨k,rfl⟩:=aQ k aa
    simp only[fZ.l0,pieces]
    rw[if_pos aa,if_neg aa,if_pos aa,if_pos aa,bX _ aa]
    by_cases e:bt s (i:Int)=c
    · rw[if_pos e,if_pos e,if_pos aa,if_pos aa,if_pos aa,ih (i+1) (i+1) k _ aa (Nat.le_refl _) (by rw[List.length_append,List.length_singleton];omega) aa]
      simp
    · rw[if_neg e,if_neg e]
      exact ih a (i+1) k out aa aa aa aa
theorem ug (s:ByteArray) (hs:s.size≤1048576) (c:Int) (k:Nat) (hk:s.size+2<k):fZ.f k s c=some (cB s c):=by
  have:=yj s hs c s.size 0 0 k [] aa (Nat.le_refl _) (Nat.le_refl _) hk
  simpa [fZ.f,cB] using this

end Go.Proofs.YtfhllanhldbkkaaGreatDoor.P
end

section
/- Plain laws of our own (Unesc): about numbers and lists alone; no condition beyond those written. -/
namespace Go.Proofs.YtfhllanhldbkkaaGreatDoor.P
open Go.RowKit Go.Proofs.YtfhllanhldbkkaaGreatDoorW.ax Go.Proofs.YtfhllanhldbkkaaGreatDoorW.aD Go.Proofs.YtfhllanhldbkkaaGreatDoorW.aH
set_option linter.unusedVariables false
set_option linter.unusedSimpArgs false
set_option maxHeartbeats 2000000
def zg (c:Int):Bool:=(jV.f c).getD false
theorem EX : ∀ n:Fin 256,jV.f (n.val:Int)=some (zg (n.val:Int)):=by decide +kernel
theorem EY : ∀ n:Fin 256,iP.f 20 (n.val:Int)=some (zg (n.val:Int)):=by decide +kernel
theorem Da (c:Int) (h0:0≤c) (h1:c≤255):jV.f c=some (zg c):=by
  obtain⟨n,rfl⟩:=Int.eq_ofNat_of_zero_le h0
  exact EX ⟨n,by omega⟩
theorem Db (c:Int) (h0:0≤c) (h1:c≤255) (k:Nat) (hk:20≤k):iP.f k c=some (zg c):=by
  obtain⟨n,rfl⟩:=Int.eq_ofNat_of_zero_le h0
  exact yJ (g:=fun k=>iP.f k (n:Int)) (fun k=>iP.mono (n:Int) k) hk (EY ⟨n,by omega⟩)
def Ny : ByteArray:=⟨#[48,49,50,51,52,53,54,55,56,57,65,66,67,68,69,70]⟩
theorem Ki : ∀ n:Fin 256,(decide (jY (n.val:Int)<0)||(oW.f (n.val:Int)==some (bt Ny (jY (n.val:Int)))))=true:=by decide +kernel
theorem PO (c:Int) (h0:0≤c) (h1:c≤255) (h:0≤jY c):oW.f c=some (bt Ny (jY c)):=by
  obtain⟨n,rfl⟩:=Int.eq_ofNat_of_zero_le h0
  have:=Ki ⟨n,by omega⟩
  rw[Bool.or_eq_true,decide_eq_true_eq,beq_iff_eq] at this
  rcases this with h2|h2
  · simp only at h2;omega
  · exact h2
theorem adx (a b:Int) (ha:0≤a∧a≤15) (hb:0≤b∧b≤15):Go.bits .and .u8 (16*a+b) 15=b:=by
  obtain⟨n,rfl⟩:=Int.eq_ofNat_of_zero_le ha.1
  obtain⟨m,rfl⟩:=Int.eq_ofNat_of_zero_le hb.1
  have key:∀ x y:Fin 16,Go.bits .and .u8 (16*(x.val:Int)+(y.val:Int)) 15=(y.val:Int):=by decide +kernel
  exact key ⟨n,by omega⟩ ⟨m,by omega⟩
def rR (s:ByteArray) (i:Nat):Bool:=decide (bt s (i:Int)=37)&&(decide (i+2<s.size)&&(decide (0≤jY (bt s ((i+1:Nat):Int)))&&decide (0≤jY (bt s ((i+2:Nat):Int)))))
def qO (s:ByteArray) (i:Nat):Int:=16*jY (bt s ((i+1:Nat):Int))+jY (bt s ((i+2:Nat):Int))
def AA (s:ByteArray) (i:Nat):List Int:=if zg (qO s i)=true then [qO s i] else [37,bt Ny (jY (bt s ((i+1:Nat):Int))),bt Ny (jY (bt s ((i+2:Nat):Int)))]
def yM (s:ByteArray):Nat→List Int→Nat→List Int
  |0,out,_=>out
  |d+1,out,i=>if i<s.size then(if rR s i=true then yM s d (out++AA s i) (i+3) else yM s d (out ++ [bt s (i:Int)]) (i+1)) else out
def gG (s:ByteArray):ByteArray:=strOfNums (yM s s.size [] 0)
theorem Kj (s:ByteArray) (i:Nat):(AA s i).length≤3:=by unfold AA;split <;> simp
theorem Nz (s:ByteArray):∀(d:Nat) (out:List Int) (i:Nat),out.length≤i→i≤s.size→(yM s d out i).length≤s.size:=by
  intro d
  induction d with
  |zero=>intro out i h1 h2;simp only[yM];omega
  |succ d ih=>
    intro out i h1 h2
    unfold yM
    split
    · split
      · rename_i h
        unfold rR at h
        simp only[Bool.and_eq_true,decide_eq_true_eq] at h
        have:=Kj s i
        exact ih _ _ (by rw[List.length_append];omega) aa
      · exact ih _ _ (by rw[List.length_append,List.length_singleton];omega) aa
    · omega
theorem uE (s:ByteArray):(gG s).size≤s.size:=by
  unfold gG
  rw[strOfNums_size]
  exact Nz s _ _ _ (Nat.le_refl _) (Nat.zero_le _)
theorem IQ {s:ByteArray} {i:Nat} (h:rR s i=true):bt s (i:Int)=37∧i+2<s.size∧0≤jY (bt s ((i+1:Nat):Int))∧0≤jY (bt s ((i+2:Nat):Int)):=by
  unfold rR at h
  simp only[Bool.and_eq_true,decide_eq_true_eq] at h
  exact h
theorem Kk (s:ByteArray) (hs:s.size≤100000):∀(d k i:Nat) (out:List Int),i≤s.size→s.size-i≤d→out.length≤i→2*d+10<k→aV.l0 k s out (i:Int)=some (strOfNums (yM s d out i)):=by
  intro d
  induction d with
  |zero=>
    intro k i out h1 h2 h3 hk
    obtain⟨k,rfl⟩:=aQ k aa
    simp only[aV.l0,yM]
    rw[if_neg aa]
  |succ d ih=>
    intro k i out h1 h2 h3 hk
    obtain⟨k,rfl⟩:∃ q,k=q+2:=⟨k-2,by omega⟩
    by_cases hi:i<s.size
    case neg=>
      simp only[aV.l0,yM]
      rw[if_neg aa,if_neg hi]
    have w1:wrap64 ((i:Int)+1)=((i+1:Nat):Int):=bX i aa
    have w2:wrap64 ((i:Int)+2)=((i+2:Nat):Int):=by rw[au aa aa];rfl
    have w3:wrap64 (((i+2:Nat):Int)+1)=((i+3:Nat):Int):=bX _ aa
    have plain:rR s i=false→aV.j1 (k+1) s out (i:Int) true=some (strOfNums (yM s (d+1) out i)):=by
      intro he
      simp only[aV.j1,yM]
      rw[if_pos trivial,if_pos aa,if_pos aa,if_pos aa,w1,if_pos hi,he,if_neg ak]
      exact ih k (i+1) _ aa aa (by rw[List.length_append,List.length_singleton];omega) aa
    simp only[aV.l0]
    rw[if_pos aa,if_pos aa]
    by_cases c1:bt s (i:Int)=37
    case neg=>rw[if_neg c1];exact plain (by unfold rR;rw[aN c1,Bool.false_and])
    rw[if_pos c1,w2]
    by_cases c2:i+2<s.size
    case neg=>rw[if_pos aa];exact plain (by unfold rR;rw[aN c2,Bool.false_and,Bool.and_false])
    obtain⟨a1,a2,a3⟩:=lN (bt s ((i+1:Nat):Int)) (dx _ _).1 (dx _ _).2 (k+1) aa
    obtain⟨b1,b2,b3⟩:=lN (bt s ((i+2:Nat):Int)) (dx _ _).1 (dx _ _).2 (k+1) aa
    rw[if_neg aa,w1,if_pos aa,if_pos aa,a1,aj]
    by_cases c3:0≤jY (bt s ((i+1:Nat):Int))
    case neg=>rw[if_pos aa];exact plain (by unfold rR;rw[aN c3,Bool.false_and,Bool.and_false,Bool.and_false])
    rw[if_neg aa,if_pos aa,if_pos aa,b1,aj]
    by_cases c4:0≤jY (bt s ((i+2:Nat):Int))
    case neg=>rw[aT aa];exact plain (by unfold rR;rw[aN c4,Bool.and_false,Bool.and_false,Bool.and_false])
    rw[aN aa]
    have he:rR s i=true:=by unfold rR;rw[aT c1,aT c2,aT c3,aT c4];rfl
    obtain⟨a1',-,-⟩:=lN (bt s ((i+1:Nat):Int)) (dx _ _).1 (dx _ _).2 k aa
    obtain⟨b1',-,-⟩:=lN (bt s ((i+2:Nat):Int)) (dx _ _).1 (dx _ _).2 k aa
    have ev:(wrap64 ((wrap64 (16*jY (bt s ((i+1:Nat):Int))))+jY (bt s ((i+2:Nat):Int))))%256=qO s i:=by
      unfold qO
      rw[au (x:=16*_) aa aa,au aa aa]
      omega
    have er:0≤qO s i∧qO s i≤255:=by unfold qO;omega
    simp only[aV.j1,yM]
    rw[if_neg ak,w1,w2,if_pos aa,if_pos aa,a1',aj,if_pos aa,if_pos aa,b1',aj,ev,w3,Da _ er.1 er.2,aj,if_pos hi,he,if_pos rfl]
    have rest:=fun out' (h:out'.length≤i+3)=>ih k (i+3) out' aa aa h aa
    unfold AA
    by_cases c5:zg (qO s i)=true
    · rw[if_pos c5,if_pos c5,if_pos aa]
      exact rest _ (by rw[List.length_append,List.length_singleton];omega)
    · have hd:qO s i / 16=jY (bt s ((i+1:Nat):Int)):=by unfold qO;omega
      have hl:Go.bits .and .u8 (qO s i) 15=jY (bt s ((i+2:Nat):Int)):=adx _ _ ⟨c3,a3⟩ ⟨c4,b3⟩
      rw[if_neg c5,if_neg c5,hd,hl,if_pos c3,if_pos aa,if_pos c4,if_pos aa,aj]
      rw[if_pos (by simp only[List.length_cons,List.length_nil];omega)]
      exact rest _ (by rw[List.length_append];simp only[List.length_cons,List.length_nil];omega)
theorem AB (s:ByteArray) (hs:s.size≤100000) (k:Nat) (hk:2*s.size+10<k):aV.f k s=some (gG s):=
  Kk s hs s.size k 0 [] (Nat.zero_le _) (Nat.le_refl _) (Nat.le_refl _) hk
theorem IU (s:ByteArray) (i:Nat) (h:i+2<s.size) (k:Nat) (hk:10<k):dG.f k (s.extract (i+1) (i+3))=some (if jY (bt s ((i+1:Nat):Int))<0∨jY (bt s ((i+2:Nat):Int))<0 then(0,false) else(qO s i,true)):=by
  obtain⟨k,rfl⟩:∃ q,k=q+6:=⟨k-6,by omega⟩
  have hz:(s.extract (i+1) (i+3)).size=2:=by rw[size_extract];omega
  have e0:bt (s.extract (i+1) (i+3)) 0=bt s ((i+1:Nat):Int):=by rw[fD _ _ _ _ aa aa aa];congr 1
  have e1:bt (s.extract (i+1) (i+3)) 1=bt s ((i+2:Nat):Int):=by rw[fD _ _ _ _ aa aa aa];congr 1
  have hs1:=He (bt s ((i+1:Nat):Int)) (dx _ _).1 (dx _ _).2 0 aa aa (fun x=>dG.l0 (k+4) (s.extract (i+1) (i+3)) x 1)
  obtain⟨-,a2,a3⟩:=lN (bt s ((i+1:Nat):Int)) (dx _ _).1 (dx _ _).2 3 aa
  obtain⟨-,b2,b3⟩:=lN (bt s ((i+2:Nat):Int)) (dx _ _).1 (dx _ _).2 3 aa
  unfold dG.f
  rw[hz,if_neg ak,aN ak]
  simp only[dG.j0]
  rw[if_neg ak,dG.l0,hz,if_pos ak,if_pos ak,e0]
  have w01:wrap64 (0+1)=1:=by rw[au aa aa];rfl
  rw[w01]
  unfold Nt at hs1
  rw[hs1]
  by_cases c:jY (bt s ((i+1:Nat):Int))<0
  · rw[if_pos c,if_pos (Or.inl c)]
  · have hs2:=He (bt s ((i+2:Nat):Int)) (dx _ _).1 (dx _ _).2 (16*0+jY (bt s ((i+1:Nat):Int))) aa aa (fun x=>dG.l0 (k+3) (s.extract (i+1) (i+3)) x 2)
    have w12:wrap64 (1+1)=2:=by rw[au aa aa];rfl
    rw[if_neg c,dG.l0,hz,if_pos ak,if_pos ak,e1,w12]
    unfold Nt at hs2
    rw[hs2]
    by_cases c2:jY (bt s ((i+2:Nat):Int))<0
    · rw[if_pos c2,if_pos (Or.inr c2)]
    · rw[if_neg c2,if_neg aa,dG.l0,hz,if_neg ak]
      unfold qO
      congr 2
      omega
theorem Kl (s:ByteArray) (hs:s.size≤100000):∀(d k i:Nat) (out:List Int),i≤s.size→s.size-i≤d→out.length≤i→2*d+40<k→bu.l0 k s out (i:Int)=some (strOfNums (yM s d out i)):=by
  intro d
  induction d with
  |zero=>
    intro k i out h1 h2 h3 hk
    obtain⟨k,rfl⟩:=aQ k aa
    simp only[bu.l0,yM]
    rw[if_neg aa]
  |succ d ih=>
    intro k i out h1 h2 h3 hk
    obtain⟨k,rfl⟩:∃ q,k=q+2:=⟨k-2,by omega⟩
    by_cases hi:i<s.size
    case neg=>
      simp only[bu.l0,yM]
      rw[if_neg aa,if_neg hi]
    have w1:wrap64 ((i:Int)+1)=((i+1:Nat):Int):=bX i aa
    have w2:wrap64 ((i:Int)+2)=((i+2:Nat):Int):=by rw[au aa aa];rfl
    have w3:wrap64 (((i+2:Nat):Int)+1)=((i+3:Nat):Int):=bX _ aa
    have w4:wrap64 ((i:Int)+3)=((i+3:Nat):Int):=by rw[au aa aa];rfl
    have step:∀ out':List Int,out'.length≤i+1→bu.l0 k s out' ((i+1:Nat):Int)=some (strOfNums (yM s d out' (i+1))):=fun out' h=>ih k (i+1) out' aa aa h aa
    have plain:rR s i=false→bu.j1 (k+1) s out (i:Int) true=some (strOfNums (yM s (d+1) out i)):=by
      intro he
      simp only[bu.j1,yM]
      rw[if_pos trivial,if_pos aa,if_pos aa,if_pos aa,w1,if_pos hi,he,if_neg ak]
      exact step _ (by rw[List.length_append,List.length_singleton];omega)
    simp only[bu.l0]
    rw[if_pos aa,if_pos aa]
    by_cases c1:bt s (i:Int)=37
    case neg=>rw[if_neg c1];exact plain (by unfold rR;rw[aN c1,Bool.false_and])
    rw[if_pos c1,w2]
    by_cases c2:i+2<s.size
    case neg=>rw[aT aa];exact plain (by unfold rR;rw[aN c2,Bool.false_and,Bool.and_false])
    rw[aN aa]
    simp only[bu.j1]
    rw[if_neg ak,w1,w2,w3,w4,if_pos aa,if_pos aa,if_pos aa,Int.toNat_natCast,Int.toNat_natCast,IU s i c2 k aa,aj]
    obtain⟨-,a2,a3⟩:=lN (bt s ((i+1:Nat):Int)) (dx _ _).1 (dx _ _).2 3 aa
    obtain⟨-,b2,b3⟩:=lN (bt s ((i+2:Nat):Int)) (dx _ _).1 (dx _ _).2 3 aa
    by_cases c3:jY (bt s ((i+1:Nat):Int))<0∨jY (bt s ((i+2:Nat):Int))<0
    · have he:rR s i=false:=by
        cases hq:rR s i with
        |false=>rfl
        |true=>have:=IQ hq;omega
      rw[if_pos c3]
      dsimp only
      rw[if_neg ak,if_pos aa,if_pos aa,if_pos aa,yM,if_pos hi,he,if_neg ak]
      exact step _ (by rw[List.length_append,List.length_singleton];omega)
    · have he:rR s i=true:=by unfold rR;rw[aT c1,aT c2,aT aa,aT aa];rfl
      have er:0≤qO s i∧qO s i≤255:=by unfold qO;omega
      have em:qO s i%256=qO s i:=by omega
      have rest:=fun out' (h:out'.length≤i+3)=>ih k (i+3) out' aa aa h aa
      rw[if_neg c3]
      dsimp only
      rw[if_pos rfl,em,Db _ er.1 er.2 k aa,aj,yM,if_pos hi,he,if_pos rfl]
      unfold AA
      by_cases c5:zg (qO s i)=true
      · rw[if_pos c5,if_pos c5,if_pos aa]
        exact rest _ (by rw[List.length_append,List.length_singleton];omega)
      · rw[if_neg c5,if_neg c5,if_pos aa,PO _ (dx _ _).1 (dx _ _).2 aa,aj,if_pos aa,if_pos aa,PO _ (dx _ _).1 (dx _ _).2 aa,aj,aj]
        rw[if_pos (by simp only[List.length_cons,List.length_nil];omega)]
        exact rest _ (by rw[List.length_append];simp only[List.length_cons,List.length_nil];omega)
theorem AJ (s:ByteArray) (hs:s.size≤100000) (k:Nat) (hk:2*s.size+40<k):bu.f k s=some (gG s):=
  Kl s hs s.size k 0 [] (Nat.zero_le _) (Nat.le_refl _) (Nat.le_refl _) hk

end Go.Proofs.YtfhllanhldbkkaaGreatDoor.P
end

section
/- Plain laws of our own (Clean): about numbers and lists alone; no condition beyond those written. -/
namespace Go.Proofs.YtfhllanhldbkkaaGreatDoor.P
open Go.RowKit Go.Proofs.YtfhllanhldbkkaaGreatDoorW.ax Go.Proofs.YtfhllanhldbkkaaGreatDoorW.aD Go.Proofs.YtfhllanhldbkkaaGreatDoorW.aH
set_option linter.unusedVariables false
set_option linter.unusedSimpArgs false
set_option maxHeartbeats 2000000
def tC (x:ByteArray):Bool:=decide (x.toList=([46]:List UInt8))
def FJ (x:ByteArray):Bool:=decide (x.toList=([46,46]:List UInt8))
def qw (out:List ByteArray) (x:ByteArray):List ByteArray:=if tC x=true then out else if FJ x=true then out.take (out.length-1) else out ++ [x]
def vH (l:List ByteArray):Bool:=match l.getLast? with
  |some x=>tC x||FJ x
  |none=>false
def jG (l:List ByteArray):List ByteArray:=l.foldl qw []++(if vH l=true then [(⟨#[]⟩:af)] else [])
def kM (l:List ByteArray):ByteArray:=(⟨#[47]⟩:af)++yl l (⟨#[47]⟩:af)
theorem xg : ∀(l out:List ByteArray),(l.foldl qw out).length≤out.length+l.length:=by
  intro l
  induction l with
  |nil=>intro out;exact Nat.le_refl _
  |cons x r ih=>
    intro out
    have h1:=ih (qw out x)
    have h2:(qw out x).length≤out.length+1:=by
      unfold qw
      split
      · omega
      · split
        · rw[List.length_take];omega
        · rw[List.length_append,List.length_singleton];omega
    simp only[List.foldl_cons,List.length_cons]
    omega
theorem IV (P:ByteArray→Prop):∀(l out:List ByteArray),(∀ x∈out,P x)→(∀ x∈l,P x)→∀ x∈l.foldl qw out,P x:=by
  intro l
  induction l with
  |nil=>intro out h _;exact h
  |cons x r ih=>
    intro out h1 h2
    rw[List.foldl_cons]
    refine ih _ (fun y hy=>?_) (fun y hy=>h2 y (List.mem_cons_of_mem _ hy))
    unfold qw at hy
    split at hy
    · exact h1 y hy
    · split at hy
      · exact h1 y (List.mem_of_mem_take hy)
      · rcases List.mem_append.1 hy with h|h
        · exact h1 y h
        · obtain rfl:=List.mem_singleton.1 h;exact h2 _ (List.mem_cons_self ..)
theorem sV (l:List ByteArray):(jG l).length≤l.length+1:=by
  unfold jG
  have:=xg l []
  rw[List.length_append]
  split <;> simp only[List.length_cons,List.length_nil] at * <;> omega
theorem xh (P:ByteArray→Prop) (l:List ByteArray) (h0:P (⟨#[]⟩:af)) (h:∀ x∈l,P x):∀ x∈jG l,P x:=by
  intro x hx
  unfold jG at hx
  rcases List.mem_append.1 hx with h1|h1
  · exact IV P l [] (fun y hy=>by cases hy) h x h1
  · split at h1
    · obtain rfl:=List.mem_singleton.1 h1;exact h0
    · cases h1
theorem Dc (sep:List UInt8) (M:Nat):∀ l:List (List UInt8),(∀ x∈l,x.length≤M)→(Go.Lib.joinTail sep l).length≤l.length*(M+sep.length):=by
  intro l
  induction l with
  |nil=>intro _;simp[Go.Lib.joinTail]
  |cons x r ih=>
    intro h
    have h1:=ih (fun y hy=>h y (List.mem_cons_of_mem _ hy))
    have h2:=h x (List.mem_cons_self ..)
    have e:Go.Lib.joinTail sep (x::r)=sep++x++Go.Lib.joinTail sep r:=by simp[Go.Lib.joinTail]
    rw[e,List.length_append,List.length_append,List.length_cons,Nat.add_mul]
    omega
theorem zh (l:List ByteArray) (s:ByteArray) (M:Nat) (h:∀ x∈l,x.size≤M):(yl l s).size≤l.length*(M+s.size)+M:=by
  have e:(yl l s).size=(Go.Lib.join (l.map fun x=>x.data.toList) s.data.toList).length:=by simp[yl,ByteArray.size]
  rw[e]
  cases l with
  |nil=>simp[Go.Lib.join]
  |cons x r=>
    rw[List.map_cons,Go.Lib.join_cons,List.length_append]
    have h1:=Dc s.data.toList M (r.map fun x=>x.data.toList) (fun y hy=>by
      obtain⟨z,hz,rfl⟩:=List.mem_map.1 hy
      rw[fK];exact h z (List.mem_cons_of_mem _ hz))
    rw[List.length_map,fK] at h1
    have h2:=h x (List.mem_cons_self ..)
    rw[fK,List.length_cons,Nat.add_mul]
    omega
theorem Hg (l:List ByteArray) (h1:l.length≤1000000) (h2:∀ x∈l,x.size≤100000):strings_Join.f l (⟨#[47]⟩:af)=some (yl l (⟨#[47]⟩:af))∧(yl l (⟨#[47]⟩:af)).size≤200000000000:=by
  have hz:=zh l (⟨#[47]⟩:af) 100000 h2
  have Nw:(⟨#[47]⟩:af).size=1:=rfl
  rw[Nw] at hz
  have hm:l.length*(100000+1)≤1000000*(100000+1):=Nat.mul_le_mul_right _ h1
  unfold strings_Join.f
  rw[if_pos ⟨by omega,by omega⟩]
  exact⟨rfl,by omega⟩
theorem uh (l:List ByteArray) (i:Nat) (x:ByteArray) (h:l[i]? = some x):cZ ByteArray.empty l (i:Int)=x:=by
  unfold cZ
  simp only[Int.toNat_natCast,List.getD_eq_getElem?_getD,h,Option.getD_some]
theorem drop_cons {l r:List ByteArray} {i:Nat} {x:ByteArray} (h:l.drop i=x::r):l[i]? = some x∧i<l.length∧l.drop (i+1)=r∧(i+1=l.length↔r = []):=by
  have hi:i<l.length:=by
    by_cases q:i<l.length
    · exact q
    · rw[List.drop_eq_nil_iff.mpr aa] at h;cases h
  rw[List.drop_eq_getElem_cons hi] at h
  injection h with h1 h2
  refine⟨by rw[List.getElem?_eq_getElem hi,h1],hi,h2,?_⟩
  rw[← h2,List.drop_eq_nil_iff]
  omega
theorem xN (l:List ByteArray) (x:ByteArray) (n:Nat) (hn:n+1=l.length) (h:l[n]? = some x):vH l=(tC x||FJ x):=by
  unfold vH
  rw[List.getLast?_eq_getElem?,← hn,Nat.add_sub_cancel,h]
theorem Ga {α:Type} (x:ByteArray) (a b:α):(if x.toList=([46]:List UInt8) then a else b)=if tC x=true then a else b:=by
  unfold tC
  by_cases h:x.toList=([46]:List UInt8)
  · rw[if_pos h,aT h,if_pos rfl]
  · rw[if_neg h,aN h,if_neg ak]
theorem Km {α:Type} (x:ByteArray) (a b:α):(if x.toList=([46,46]:List UInt8) then a else b)=if FJ x=true then a else b:=by
  unfold FJ
  by_cases h:x.toList=([46,46]:List UInt8)
  · rw[if_pos h,aT h,if_pos rfl]
  · rw[if_neg h,aN h,if_neg ak]
theorem AL (L:List ByteArray) (hL:L.length≤1000) (hne:L≠[]) (hm:∀ x∈L,x.size≤100000):∀(r out:List ByteArray) (i k:Nat),L.drop i=r→out.length≤i→(∀ x∈out,x.size≤100000)→r.foldl qw out=L.foldl qw []→r.length<k→
    bF.l0 k out L L (L.length:Int) (i:Int)=some (kM (jG L)):=by
  intro r
  induction r with
  |nil=>
    intro out i k h1 h2 h3 h4 hk
    obtain⟨k,rfl⟩:=aQ k aa
    have hi:=List.drop_eq_nil_iff.1 h1
    obtain⟨n,hn⟩:∃ n,n+1=L.length:=⟨L.length-1,by have:=List.length_pos_iff.2 hne;omega⟩
    have hx:L[n]? = some L[n]:=List.getElem?_eq_getElem aa
    rw[List.foldl_nil] at h4
    have hj:=Hg (jG L) (by have:=sV L;omega) (xh _ L (Nat.zero_le _) hm)
    have hj1:=Hg out (by rw[h4];have:=xg L [];simp only[List.length_nil] at this;omega) h3
    have hol:out.length≤1000:=by rw[h4];have:=xg L [];simp only[List.length_nil] at this;omega
    simp only[bF.l0]
    rw[if_neg aa,IP _ aa aa,if_pos aa,if_pos aa,show L.length-1=n by omega,uh L n _ hx]
    have hld:=xN L _ n hn hx
    rw[Ga,Km]
    by_cases c1:tC L[n]=true
    · have hk':out ++ [(⟨#[]⟩:af)]=jG L:=by unfold jG;rw[h4,hld,c1];rfl
      rw[if_pos c1,if_pos aa,hk',hj.1,aj,if_pos aa]
      rfl
    · rw[if_neg c1]
      by_cases c2:FJ L[n]=true
      · have hk':out ++ [(⟨#[]⟩:af)]=jG L:=by unfold jG;rw[h4,hld,c2,Bool.or_true];rfl
        rw[if_pos c2,if_pos aa,hk',hj.1,aj,if_pos aa]
        rfl
      · have c1':tC L[n]=false:=by simpa using c1
        have c2':FJ L[n]=false:=by simpa using c2
        have hk':out=jG L:=by unfold jG;rw[h4,hld,c1',c2',if_neg ak,List.append_nil]
        rw[if_neg c2,hj1.1,aj,if_pos aa,hk']
        rfl
  |cons x r ih=>
    intro out i k h1 h2 h3 h4 hk
    obtain⟨k,rfl⟩:=aQ k aa
    obtain⟨hx,hi,hd,-⟩:=drop_cons h1
    simp only[List.length_cons] at hk
    rw[List.foldl_cons] at h4
    have hxm:=hm x (List.mem_of_getElem? hx)
    simp only[bF.l0]
    rw[if_pos aa,if_pos aa,if_pos aa,uh L i x hx,bX i aa,Ga,Km]
    unfold qw at h4
    by_cases c1:tC x=true
    · rw[if_pos c1] at h4 ⊢
      exact ih out (i+1) k hd aa h3 h4 aa
    · rw[if_neg c1] at h4 ⊢
      by_cases c2:FJ x=true
      · rw[if_pos c2] at h4 ⊢
        have hmx:mx 0 (wrap64 ((out.length:Int)-1))=((out.length-1:Nat):Int):=by
          rw[au aa aa]
          unfold mx
          split <;> omega
        rw[hmx,if_pos aa,if_pos aa,Int.toNat_natCast]
        exact ih _ (i+1) k hd (by rw[List.length_take];omega) (fun y hy=>h3 y (List.mem_of_mem_take hy)) h4 aa
      · rw[if_neg c2] at h4 ⊢
        rw[if_pos aa]
        exact ih _ (i+1) k hd (by rw[List.length_append,List.length_singleton];omega) (fun y hy=>by
          rcases List.mem_append.1 hy with h|h
          · exact h3 y h
          · obtain rfl:=List.mem_singleton.1 h;exact hxm) h4 aa
def kN (s:ByteArray) (l:List ByteArray):ByteArray:=l.foldl (fun s x=>(s++(⟨#[47]⟩:af))++x) s
theorem De : ∀(l:List ByteArray) (s:ByteArray),(kN s l).data.toList=s.data.toList++Go.Lib.joinTail [47] (l.map fun x=>x.data.toList):=by
  intro l
  induction l with
  |nil=>intro s;simp[kN,Go.Lib.joinTail]
  |cons x r ih=>
    intro s
    have:=ih ((s++(⟨#[47]⟩:af))++x)
    unfold kN at this ⊢
    rw[List.foldl_cons,this]
    simp[Go.Lib.joinTail]
theorem Kn (l:List ByteArray):(if(kN (⟨#[]⟩:af) l).toList=([]:List UInt8) then(⟨#[47]⟩:af) else kN (⟨#[]⟩:af) l)=kM l:=by
  cases l with
  |nil=>
    have e:kN (⟨#[]⟩:af) []=⟨#[]⟩:=rfl
    rw[e,if_pos (by decide +kernel)]
    decide +kernel
  |cons x r=>
    have h1:=De (x::r) (⟨#[]⟩:af)
    have h2:(kM (x::r)).data.toList=(kN (⟨#[]⟩:af) (x::r)).data.toList:=by
      rw[h1]
      unfold kM yl
      rw[List.map_cons,Go.Lib.join_cons]
      simp[Go.Lib.joinTail]
    have h3:(kN (⟨#[]⟩:af) (x::r)).toList≠([]:List UInt8):=by
      rw[ByteArray.toList_eq,h1]
      simp[Go.Lib.joinTail]
    rw[if_neg h3]
    apply ByteArray.ext
    rw[← Array.toArray_toList (xs:=(kN _ _).data),← h2,Array.toArray_toList]
theorem ym (L:List ByteArray) (hL:L.length≤2000) (hm:∀ x∈L,x.size≤100000):∀(r:List ByteArray) (s:ByteArray) (i k:Nat),L.drop i=r→s.size≤i*100001→r.length<k→
    ay.l2 k L s (i:Int)=some (if(kN s r).toList=([]:List UInt8) then(⟨#[47]⟩:af) else kN s r):=by
  intro r
  induction r with
  |nil=>
    intro s i k h1 h2 hk
    obtain⟨k,rfl⟩:=aQ k aa
    have hi:=List.drop_eq_nil_iff.1 h1
    have e:kN s []=s:=rfl
    simp only[ay.l2]
    rw[if_neg aa,e]
    split <;> rfl
  |cons x r ih=>
    intro s i k h1 h2 hk
    obtain⟨k,rfl⟩:=aQ k aa
    obtain⟨hx,hi,hd,-⟩:=drop_cons h1
    simp only[List.length_cons] at hk
    have hxm:=hm x (List.mem_of_getElem? hx)
    have hb:i*100001≤2000*100001:=Nat.mul_le_mul_right _ aa
    have Nw:(s++(⟨#[47]⟩:af)).size=s.size+1:=by rw[ByteArray.size_append];rfl
    have h2s:((s++(⟨#[47]⟩:af))++x).size=s.size+1+x.size:=by rw[ByteArray.size_append,Nw]
    simp only[ay.l2]
    rw[if_pos aa,if_pos aa,if_pos aa,uh L i x hx,if_pos aa,bX i aa,ih _ (i+1) k hd (by rw[h2s,Nat.add_mul];omega) aa]
    rfl
theorem AO (L:List ByteArray) (hL:L.length≤1000) (hne:L≠[]) (hm:∀ x∈L,x.size≤100000):∀(r out:List ByteArray) (i k:Nat),L.drop i=r→out.length≤i→r≠[]→r.foldl qw out=L.foldl qw []→4*r.length+1100<k→
    ay.l1 k L out (i:Int)=some (kM (jG L)):=by
  intro r
  induction r with
  |nil=>intro out i k _ _ h;exact absurd rfl h
  |cons x r ih=>
    intro out i k h1 h2 _ h4 hk
    obtain⟨k,rfl⟩:∃ q,k=q+4:=⟨k-4,by omega⟩
    obtain⟨hx,hi,hd,hend⟩:=drop_cons h1
    simp only[List.length_cons] at hk
    rw[List.foldl_cons] at h4
    have fin:∀ out',out'=jG L→ay.l1 k L out' ((i+1:Nat):Int)=some (kM (jG L))∨r≠[]:=by
      intro out' h
      by_cases hr:r = []
      · left
        obtain⟨k',rfl⟩:∃ q,k=q+1:=⟨k-1,by omega⟩
        have he:=hend.2 hr
        have hl:=ym (jG L) (by have:=sV L;omega) (xh _ L (Nat.zero_le _) hm) (jG L) (⟨#[]⟩:af) 0 k' rfl (Nat.zero_le _) (by have:=sV L;omega)
        rw[Kn] at hl
        simp only[ay.l1]
        rw[if_neg aa,h]
        exact hl
      · exact Or.inr hr
    have go:∀ out',out'.length≤i+1→r≠[]→r.foldl qw out'=L.foldl qw []→ay.l1 k L out' ((i+1:Nat):Int)=some (kM (jG L)):=fun out' a b c=>ih out' (i+1) k hd a b c aa
    have hlast:r = []→vH L=(tC x||FJ x):=fun hr=>xN L x i (hend.2 hr) hx
    have hred:r = []→qw out x=L.foldl qw []:=fun hr=>by rw[hr] at h4;exact h4
    have wl:wrap64 ((out.length:Int)-1)=((out.length:Int)-1):=au aa aa
    have j5:∀(out':List ByteArray) (b:Bool),b=(tC x||FJ x)→out'.length≤i→qw out x=(if b=true then out' else out' ++ [x])→ay.j5 (k+1) L out' (i:Int) b=some (kM (jG L)):=by
      intro out' b hb ho hs
      simp only[ay.j5]
      rw[bX i aa,uh L i x hx]
      cases b with
      |true=>
        rw[if_pos rfl] at hs ⊢
        by_cases hr:r = []
        · rw[if_pos (by have:=hend.2 hr;omega),if_pos aa]
          rcases fin (out' ++ [(⟨#[]⟩:af)]) (by unfold jG;rw[← hred hr,hs,hlast hr,← hb,if_pos rfl]) with h|h
          · exact h
          · exact absurd hr h
        · rw[if_neg (by have q:¬ i+1=L.length:=fun e=>hr (hend.1 e);omega)]
          exact go out' aa hr (by rw[← hs];exact h4)
      |false=>
        rw[if_neg ak] at hs ⊢
        rw[if_pos aa,if_pos aa,if_pos aa]
        by_cases hr:r = []
        · rcases fin (out' ++ [x]) (by unfold jG;rw[← hred hr,hs,hlast hr,← hb,if_neg ak,List.append_nil]) with h|h
          · exact h
          · exact absurd hr h
        · exact go _ (by rw[List.length_append,List.length_singleton];omega) hr (by rw[← hs];exact h4)
    have j3:∀ b:Bool,b=(tC x||FJ x)→ay.j3 (k+3) L out (i:Int) b=some (kM (jG L)):=by
      intro b hb
      simp only[ay.j3]
      rw[if_pos aa,if_pos aa,uh L i x hx,Km]
      have hnd:FJ x=true→tC x=false:=by
        intro h
        unfold FJ at h
        unfold tC
        rw[bE h]
        decide
      by_cases c2:FJ x=true
      · have c1:=hnd c2
        have hb':b=true:=by rw[hb,c1,c2];rfl
        have hs:qw out x=out.take (out.length-1):=by unfold qw;rw[c1,if_neg ak,if_pos c2]
        rw[if_pos c2]
        simp only[ay.j4]
        by_cases c3:out.length=0
        · rw[aN aa,if_neg ak]
          refine j5 out b hb h2 ?_
          rw[hs,hb',if_pos rfl,List.length_eq_zero_iff.1 c3]
          rfl
        · rw[aT aa,if_pos rfl,wl,if_pos aa,if_pos aa,show((out.length:Int)-1).toNat=out.length-1 by omega]
          refine j5 _ b hb (by rw[List.length_take];omega) ?_
          rw[hs,hb',if_pos rfl]
      · rw[if_neg c2]
        simp only[ay.j4]
        rw[if_neg ak]
        refine j5 out b hb h2 ?_
        unfold qw
        have c2':FJ x=false:=by simpa using c2
        rw[hb,c2',Bool.or_false]
        cases c1:tC x with
        |true=>rfl
        |false=>rfl
    simp only[ay.l1]
    rw[if_pos aa,if_pos aa,uh L i x hx,Ga]
    by_cases c1:tC x=true
    · rw[if_pos c1]
      exact j3 true (by rw[c1];rfl)
    · have c1':tC x=false:=by simpa using c1
      rw[if_neg c1]
      refine j3 _ ?_
      rw[c1',Bool.false_or]
      unfold FJ
      by_cases h:x.toList=([46,46]:List UInt8)
      · rw[aT h,h];rfl
      · rw[aN h,beq_eq_false_iff_ne.2 h]
def kg (p:ByteArray):ByteArray:=
  if 0<p.size∧p.size≤200∧bt p 0=47∧nH p=true∧¬ aJ p 35<p.size∧¬ aJ p 63<p.size then kM (jG (cB ((gG p).extract 1 (gG p).size) 47)) else(⟨#[]⟩:af)

end Go.Proofs.YtfhllanhldbkkaaGreatDoor.P
end

section
/- Plain laws of our own (Url): about numbers and lists alone; no condition beyond those written. -/
namespace Go.Proofs.YtfhllanhldbkkaaGreatDoor.P
open Go.RowKit Go.Proofs.YtfhllanhldbkkaaGreatDoorW.ax Go.Proofs.YtfhllanhldbkkaaGreatDoorW.aD Go.Proofs.YtfhllanhldbkkaaGreatDoorW.aH
set_option linter.unusedVariables false
set_option linter.unusedSimpArgs false
set_option maxHeartbeats 2000000
theorem xk (s:ByteArray) (c:Int):cB s c≠[]:=by
  have:=(uf s c s.size 0 0).2
  intro h
  unfold cB at h
  rw[h] at this
  exact absurd this ak
theorem lQ (s:ByteArray) (c:Int):(cB s c).length≤s.size+1:=(uf s c s.size 0 0).1
theorem Gb (u:ByteArray) (hu:u.size≤200):strings_Split.f (u.extract 1 u.size) (⟨#[47]⟩:af)=some (cB (u.extract 1 u.size) 47):=EW _ 47 (by rw[size_extract];omega)
theorem iJ (u:ByteArray) (a b:Nat) (hu:u.size≤200):(u.extract a b).size≤200:=by rw[size_extract];omega
theorem yn (p:ByteArray) (hp:p.size≤200) (hu:1≤(gG p).size):∀(d i k:Nat),i+d=p.size→(∀ m:Nat,m<i→bt p (m:Int)≠35∧bt p (m:Int)≠63)→d+4000<k→
    ay.l0 k p (i:Int)=some (if ¬ aJ p 35<p.size∧¬ aJ p 63<p.size then kM (jG (cB ((gG p).extract 1 (gG p).size) 47)) else(⟨#[]⟩:af)):=by
  intro d
  induction d with
  |zero=>
    intro i k h hno hk
    obtain⟨k,rfl⟩:=aQ k aa
    have e1:aJ p 35=p.size:=mY _ _ _ (Nat.le_refl _) (fun m hm=>(hno m aa).1) (fun q=>absurd q aa)
    have e2:aJ p 63=p.size:=mY _ _ _ (Nat.le_refl _) (fun m hm=>(hno m aa).2) (fun q=>absurd q aa)
    have hz:=uE p
    have hz2:=iJ (gG p) 1 (gG p).size aa
    have hlen:=lQ ((gG p).extract 1 (gG p).size) 47
    simp only[ay.l0]
    rw[if_neg aa,if_pos ⟨by omega,by omega⟩,AJ p aa k aa,aj,if_pos aa,ug _ aa 47 k aa,aj]
    exact AO (cB ((gG p).extract 1 (gG p).size) 47) aa (xk _ _) (fun x hx=>by have:=qN _ _ _ _ _ x hx;omega) (cB ((gG p).extract 1 (gG p).size) 47) [] 0 k rfl (Nat.le_refl _) (xk _ _) rfl aa
  |succ d ih=>
    intro i k h hno hk
    obtain⟨k,rfl⟩:=aQ k aa
    simp only[ay.l0]
    rw[if_pos aa,if_pos aa,bX i aa]
    by_cases c1:bt p (i:Int)=35
    · have e1:aJ p 35=i:=mY _ _ _ aa (fun m hm=>(hno m hm).1) (fun _=>c1)
      rw[if_pos c1,if_neg (fun q=>q.1 aa)]
    · rw[if_neg c1]
      by_cases c2:bt p (i:Int)=63
      · have e1:aJ p 63=i:=mY _ _ _ aa (fun m hm=>(hno m hm).2) (fun _=>c2)
        rw[if_pos c2,if_neg (fun q=>q.2 aa)]
      · rw[if_neg c2]
        refine ih (i+1) k aa (fun m hm=>?_) aa
        by_cases q:m=i
        · rw[q];exact⟨c1,c2⟩
        · exact hno m aa
theorem BN (s:ByteArray):∀(d:Nat) (out:List Int) (i:Nat),∃ r,yM s d out i=out++r:=by
  intro d
  induction d with
  |zero=>intro out i;exact⟨[],by simp[yM]⟩
  |succ d ih=>
    intro out i
    unfold yM
    split
    · split
      · obtain⟨r,h⟩:=ih (out++AA s i) (i+3);exact⟨AA s i++r,by rw[h,List.append_assoc]⟩
      · obtain⟨r,h⟩:=ih (out ++ [bt s (i:Int)]) (i+1);exact⟨[bt s (i:Int)]++r,by rw[h,List.append_assoc]⟩
    · exact⟨[],by simp⟩
theorem BO (p:ByteArray) (h:0<p.size):1≤(gG p).size:=by
  unfold gG
  rw[strOfNums_size]
  obtain⟨d,hd⟩:∃ d,p.size=d+1:=⟨p.size-1,by omega⟩
  rw[hd,yM,if_pos h]
  split
  · obtain⟨r,hr⟩:=BN p d ([]++AA p 0) (0+3)
    rw[hr,List.length_append]
    have:1≤([]++AA p 0).length:=by
      unfold AA
      split <;> simp
    omega
  · obtain⟨r,hr⟩:=BN p d ([] ++ [bt p ((0:Nat):Int)]) (0+1)
    rw[hr,List.length_append]
    simp
theorem ui (p:ByteArray) (hp:p.size≤1048576) (k:Nat) (hk:1060000<k):ay.f k p=some (kg p):=by
  have no:ay.j0 k p true=some (⟨#[]⟩:af):=by
    obtain⟨k,rfl⟩:=aQ k aa
    simp only[ay.j0];rfl
  unfold ay.f kg
  by_cases c1:0<p.size
  case neg=>rw[if_pos aa,no,if_neg (fun q=>c1 q.1)]
  rw[if_neg aa]
  by_cases c2:p.size≤200
  case neg=>rw[if_pos aa,no,if_neg (fun q=>c2 q.2.1)]
  rw[if_neg aa,if_pos aa]
  by_cases c3:bt p 0=47
  case neg=>rw[if_neg c3,no,if_neg (fun q=>c3 q.2.2.1)]
  rw[if_pos c3,kL p hp k aa,aj,aT c1,Bool.true_and]
  cases c4:nH p with
  |false=>
    rw[if_neg (fun q=>by cases q.2.2.2.1)]
    exact no
  |true=>
    obtain⟨k,rfl⟩:=aQ k aa
    simp only[ay.j0]
    have hs:=yn p c2 (BO p c1) p.size 0 k aa (fun m hm=>absurd hm aa) aa
    rw[show((0:Nat):Int)=0 from rfl] at hs
    rw[if_neg ak,hs]
    congr 1
    by_cases c5:¬ aJ p 35<p.size∧¬ aJ p 63<p.size
    · rw[if_pos c5,if_pos ⟨c1,c2,c3,trivial,c5.1,c5.2⟩]
    · rw[if_neg c5,if_neg (fun q=>c5 ⟨q.2.2.2.2.1,q.2.2.2.2.2⟩)]
theorem Ko (p:Int→Bool) (n:Nat):∀(d i:Nat),i+d=n→mE p d (i:Int)=true→∀ m:Nat,i≤m→m<n→p (m:Int)=true:=by
  intro d
  induction d with
  |zero=>intro i h _ m h1 h2;omega
  |succ d ih=>
    intro i h hb m h1 h2
    unfold mE at hb
    rw[Bool.and_eq_true] at hb
    by_cases e:m=i
    · rw[e];exact hb.1
    · exact ih (i+1) aa hb.2 m aa h2
theorem Kq {s:ByteArray} (h:nH s=true) (m:Nat) (hm:m<s.size):33≤bt s (m:Int)∧bt s (m:Int)≤126:=by
  unfold nH at h
  have:=Ko _ s.size s.size 0 aa h m (Nat.zero_le _) hm
  exact bE this
theorem BP {s:ByteArray} (h:nH s=true):s.data.toList.all (fun b=>decide (b.toNat<128))=true:=by
  rw[List.all_eq_true]
  intro b hb
  obtain⟨n,hn⟩:=List.mem_iff_getElem?.1 hb
  obtain⟨h1,h2⟩:=gV hn
  have:=Kq h n h1
  exact aT aa
theorem vI (s:ByteArray) (c d:UInt8):Lib.indexAny s.data.toList [c,d]=if min (aJ s (c.toNat:Int)) (aJ s (d.toNat:Int))<s.size then((min (aJ s (c.toNat:Int)) (aJ s (d.toNat:Int)):Nat):Int) else -1:=by
  have hc:=fJ s (c.toNat:Int)
  have hd:=fJ s (d.toNat:Int)
  have no:∀ m:Nat,m<min (aJ s (c.toNat:Int)) (aJ s (d.toNat:Int))→bt s (m:Int)≠(c.toNat:Int)∧bt s (m:Int)≠(d.toNat:Int):=fun m hm=>⟨o9 _ _ m aa,o9 _ _ m aa⟩
  have nany:∀ i:Nat,i≤min (aJ s (c.toNat:Int)) (aJ s (d.toNat:Int))→Lib.NoAny s.data.toList [c,d] i:=by
    intro i
    induction i with
    |zero=>intro _;exact Lib.NoAny.zero _ _
    |succ i ih=>
      intro hi
      obtain⟨b,hb1,hb2⟩:=Hd (s:=s) (n:=i) aa
      refine(ih aa).succ hb1 ?_
      have:=no i aa
      rw[hb2] at this
      simp only[List.contains_cons,List.contains_nil,Bool.or_false,Bool.or_eq_false_iff,beq_eq_false_iff_ne,ne_eq]
      exact⟨fun e=>this.1 (by rw[e]),fun e=>this.2 (by rw[e])⟩
  by_cases h:min (aJ s (c.toNat:Int)) (aJ s (d.toNat:Int))<s.size
  · rw[if_pos h]
    obtain⟨b,hb1,hb2⟩:=Hd h
    refine Lib.indexAny_hit (nany _ (Nat.le_refl _)) hb1 ?_
    simp only[List.contains_cons,List.contains_nil,Bool.or_false,Bool.or_eq_true,beq_iff_eq]
    by_cases q:aJ s (c.toNat:Int)≤aJ s (d.toNat:Int)
    · left
      rw[Nat.min_eq_left q] at h hb2
      have:=qp _ _ h
      exact UInt8.toNat_inj.1 aa
    · right
      rw[Nat.min_eq_right aa] at h hb2
      have:=qp _ _ h
      exact UInt8.toNat_inj.1 aa
  · rw[if_neg h]
    exact Lib.indexAny_none (by rw[fK];have:=nany _ (Nat.le_refl _);rwa [show min (aJ s (c.toNat:Int)) (aJ s (d.toNat:Int))=s.size by omega] at this)
theorem uj (p:ByteArray) (hp:p.size≤1048576) (k:Nat) (hk:1060000<k):bF.f k p=some (kg p):=by
  have no:bF.j0 k p true=some (⟨#[]⟩:af):=by
    obtain⟨k,rfl⟩:=aQ k aa
    simp only[bF.j0];rfl
  have Nw:(⟨#[47]⟩:af).size=1:=rfl
  have hpre:strings_HasPrefix.f p (⟨#[47]⟩:af)=some (decide (0<p.size∧bt p 0=47)):=by
    unfold strings_HasPrefix.f stringslite_HasPrefix.f
    rw[Nw]
    by_cases c1:0<p.size
    · rw[if_pos aa,if_pos aa,if_pos aa,aj]
      congr 1
      have e:(p.extract 0 (((1:Nat):Int)).toNat).toList = [p[0]'c1]:=by
        rw[ByteArray.toList_eq,vG]
        have h3:0<p.data.toList.length:=by rw[fK];exact c1
        match hd:p.data.toList,h3 with
        |a::r,_=>
          have:p[0]'c1=a:=by
            have h4:p.data.toList[0]? = some a:=by rw[hd];rfl
            obtain⟨h5,h6⟩:=List.getElem?_eq_some_iff.1 h4
            rw[← h6];rfl
          rw[this];rfl
      rw[e]
      have hb:bt p 0=((p[0]'c1).toNat:Int):=by
        unfold bt
        rw[dif_pos (show((0:Int)).toNat<p.size from c1)]
        rfl
      have hl:(⟨#[47]⟩:af).toList = [47]:=by decide +kernel
      rw[hl,hb]
      by_cases q:p[0]'c1=47
      · rw[q,aT ⟨c1,by decide⟩];rfl
      · rw[aN (fun z=>q (UInt8.toNat_inj.1 (by have:=z.2;show _=47;omega)))]
        exact beq_eq_false_iff_ne.2 (fun z=>q (List.head_eq_of_cons_eq z))
    · rw[if_neg aa,aj,aN (fun q=>c1 q.1)]
  unfold bF.f kg
  rw[hpre,aj]
  by_cases c1:0<p.size∧bt p 0=47
  case neg=>rw[aN c1,if_neg ak,no,if_neg (fun q=>c1 ⟨q.1,q.2.2.1⟩)]
  rw[aT c1,if_pos rfl]
  by_cases c2:p.size≤200
  case neg=>rw[if_pos aa,no,if_neg (fun q=>c2 q.2.1)]
  rw[if_neg aa,kK p hp k aa,aj]
  cases c4:nH p with
  |false=>rw[if_neg ak,no,if_neg (fun q=>by cases q.2.2.2.1)]
  |true=>
    have hany:strings_ContainsAny.f p (⟨#[35,63]⟩:af)=some (decide (aJ p 35<p.size∨aJ p 63<p.size)):=by
      unfold strings_ContainsAny.f strings_IndexAny.f
      have hl:(⟨#[35,63]⟩:af).data.toList = [35,63]:=rfl
      rw[hl,if_neg (fun q=>absurd q.1 ak),if_pos ⟨Or.inr rfl,BP c4,by omega⟩,aj,vI p 35 63]
      congr 1
      have a:=fJ p 35
      have b:=fJ p 63
      show decide ((if min (aJ p 35) (aJ p 63)<p.size then((min (aJ p 35) (aJ p 63):Nat):Int) else -1)≥0)=_
      by_cases h:min (aJ p 35) (aJ p 63)<p.size
      · rw[if_pos h,aT aa,aT aa]
      · rw[if_neg h,aN aa,aN aa]
    rw[if_pos rfl,hany,aj]
    by_cases c5:aJ p 35<p.size∨aJ p 63<p.size
    · rw[aT c5,no,if_neg (fun q=>c5.elim q.2.2.2.2.1 q.2.2.2.2.2)]
    · obtain⟨k,rfl⟩:=aQ k aa
      have hz:=uE p
      have hz1:=BO p c1.1
      have hz2:=iJ (gG p) 1 (gG p).size aa
      have hlen:=lQ ((gG p).extract 1 (gG p).size) 47
      rw[aN c5,if_pos ⟨c1.1,c2,c1.2,rfl,fun q=>c5 (Or.inl q),fun q=>c5 (Or.inr q)⟩]
      simp only[bF.j0]
      rw[if_neg ak,AB p aa k aa,aj,if_pos aa,Gb _ aa,aj]
      exact AL (cB ((gG p).extract 1 (gG p).size) 47) aa (xk _ _) (fun x hx=>by have:=qN _ _ _ _ _ x hx;omega) (cB ((gG p).extract 1 (gG p).size) 47) [] 0 k rfl (Nat.le_refl _) (fun x hx=>by cases hx) rfl aa

end Go.Proofs.YtfhllanhldbkkaaGreatDoor.P
end

section
/- Plain laws of our own (Host): about numbers and lists alone; no condition beyond those written. -/
namespace Go.Proofs.YtfhllanhldbkkaaGreatDoor.P
open Go.RowKit Go.Proofs.YtfhllanhldbkkaaGreatDoorW.ax Go.Proofs.YtfhllanhldbkkaaGreatDoorW.aD Go.Proofs.YtfhllanhldbkkaaGreatDoorW.aH
set_option linter.unusedVariables false
set_option linter.unusedSimpArgs false
set_option maxHeartbeats 2000000
def Es (c:Int):Bool:=decide (97≤c∧c≤122)||(decide (48≤c∧c≤57)||decide (c=45))
theorem xm (c:Int):kI.f c=some (Es c||decide (c=46)):=by
  unfold kI.f nC.f eZ.f Es
  by_cases a:c≥97
  · rw[if_pos a,aj]
    by_cases b:c≤122
    · rw[aT b,if_pos rfl,aT ⟨a,b⟩];rfl
    · rw[aN b,if_neg ak,if_pos aa,aj,aN aa,if_neg ak,if_neg aa]
      rw[aN (fun q:97≤c∧c≤122=>b q.2),aN (fun q:48≤c∧c≤57=>by omega),aN (by omega:¬ c=45),aN (by omega:¬ c=46),beq_eq_false_iff_ne.2 aa];rfl
  · rw[if_neg a,aj,if_neg ak,aN (fun q:97≤c∧c≤122=>a q.1),Bool.false_or]
    by_cases d:c≥48
    · rw[if_pos d,aj]
      by_cases e:c≤57
      · rw[aT e,if_pos rfl,aT ⟨d,e⟩];rfl
      · rw[aN e,if_neg ak,if_neg aa,aN (fun q:48≤c∧c≤57=>e q.2),aN (by omega:¬ c=45),aN (by omega:¬ c=46),beq_eq_false_iff_ne.2 aa];rfl
    · rw[if_neg d,aj,if_neg ak,aN (fun q:48≤c∧c≤57=>d q.1),Bool.false_or]
      by_cases f:c=45
      · rw[if_pos f,aT f];rfl
      · rw[if_neg f,aN f,Bool.false_or]
        by_cases g:c=46
        · rw[aT g,g];rfl
        · rw[aN g,beq_eq_false_iff_ne.2 g]
theorem yo (s:ByteArray) (hs:s.size≤1048576) (k:Nat) (hk:s.size+1<k):dA.f k s=some (mE (fun i=>Es (bt s i)||decide (bt s i=46)) s.size 0):=by
  refine lM (fun k i=>dA.l0 k s i) s.size _ 1 (fun k i hi=>by simp only[dA.l0];rw[if_neg aa]) (fun k i h0 h1 hk=>?_) k aa
  simp only[dA.l0]
  rw[if_pos h1,if_pos h0,xm,aj,au aa aa]
def lS (x:ByteArray):Bool:=!decide (x.size=0)&&mE (fun i=>Es (bt x i)) x.size 0
theorem iB (x:ByteArray):x.toList=([]:List UInt8)↔x.size=0:=toList_nil x
theorem zi (L:List ByteArray) (i:Nat) (x:ByteArray) (hx:L[i]? = some x) (hxs:x.size≤1048576) (hi:i<L.length) (hl:L.length≤1048576):∀(d j k:Nat),j+d=x.size→d<k→
    bG.l1 (k+1) L (i:Int) (j:Int)=if mE (fun q=>Es (bt x q)) d (j:Int)=true then bG.l0 (k-d) L ((i+1:Nat):Int) else some false:=by
  intro d
  induction d with
  |zero=>
    intro j k h hk
    simp only[bG.l1,mE]
    rw[if_pos aa,if_pos aa,uh L i x hx,if_neg aa,bX i aa]
    rfl
  |succ d ih=>
    intro j k h hk
    obtain⟨k,rfl⟩:=aQ k aa
    have hw:wrap64 ((j:Int)+1)=((j+1:Nat):Int):=bX j aa
    have nx:=ih (j+1) k aa aa
    rw[show k+1-(d+1)=k-d by omega]
    have e:∀ b:Bool,mE (fun q=>Es (bt x q)) (d+1) (j:Int)=(Es (bt x (j:Int))&&mE (fun q=>Es (bt x q)) d ((j:Int)+1)):=fun _=>rfl
    have e2:((j:Int)+1)=((j+1:Nat):Int):=by omega
    rw[e true,e2]
    rw[bG.l1]
    rw[if_pos aa,if_pos aa,uh L i x hx,if_pos aa,if_pos aa,hw,nx]
    generalize hc:bt x (j:Int)=c
    unfold Es bS.f
    by_cases a:c≥97
    · rw[if_pos a]
      by_cases b:c≤122
      · rw[if_pos b,aT ⟨a,b⟩,Bool.true_or,Bool.true_and]
      · rw[if_neg b,if_pos aa,aj,aN aa,if_neg ak,if_neg aa,aN (fun q:97≤c∧c≤122=>b q.2),aN (fun q:48≤c∧c≤57=>by omega),aN (by omega:¬ c=45)]
        rfl
    · rw[if_neg a,aN (fun q:97≤c∧c≤122=>a q.1),Bool.false_or]
      by_cases d':c≥48
      · rw[if_pos d',aj]
        by_cases e':c≤57
        · rw[aT e',if_pos rfl,aT ⟨d',e'⟩,Bool.true_or,Bool.true_and]
        · rw[aN e',if_neg ak,if_neg aa,aN (fun q:48≤c∧c≤57=>e' q.2),aN (by omega:¬ c=45)]
          rfl
      · rw[if_neg d',aj,if_neg ak,aN (fun q:48≤c∧c≤57=>d' q.1),Bool.false_or]
        by_cases f:c=45
        · rw[if_pos f,aT f,Bool.true_and]
        · rw[if_neg f,aN f,Bool.false_and]
          rfl
theorem zk (L:List ByteArray) (hL:L.length≤1048576) (hm:∀ x∈L,x.size≤1048576):∀(r:List ByteArray) (i k:Nat),L.drop i=r→r.length*1048600<k→bG.l0 k L (i:Int)=some (r.all lS):=by
  intro r
  induction r with
  |nil=>
    intro i k h hk
    obtain⟨k,rfl⟩:=aQ k aa
    have hi:=List.drop_eq_nil_iff.1 h
    simp only[bG.l0]
    rw[if_neg aa];rfl
  |cons x r ih=>
    intro i k h hk
    obtain⟨hx,hi,hd,-⟩:=drop_cons h
    have hxm:=hm x (List.mem_of_getElem? hx)
    rw[List.length_cons,Nat.add_mul,Nat.one_mul] at hk
    obtain⟨z,hz⟩:∃ z,z=r.length*1048600:=⟨_,rfl⟩
    rw[← hz] at hk
    obtain⟨k,rfl⟩:∃ q,k=q+2:=⟨k-2,by omega⟩
    rw[bG.l0,if_pos aa,if_pos aa,uh L i x hx]
    rw[List.all_cons]
    unfold lS
    by_cases c:x.size=0
    · rw[if_pos ((iB x).2 c),aT c];rfl
    · rw[if_neg (fun q=>c ((iB x).1 q)),aN c]
      have hb:=zi L i x hx hxm hi hL x.size 0 k aa aa
      rw[show((0:Nat):Int)=0 from rfl] at hb
      rw[hb]
      cases hq:mE (fun q=>Es (bt x q)) x.size 0 with
      |false=>rw[if_neg ak];rfl
      |true=>
        rw[if_pos rfl,ih (i+1) (k-x.size) hd (by rw[← hz];omega)]
        rfl
theorem su (p:Int→Bool) (n:Nat):mE p n 0=true↔∀ m:Nat,m<n→p (m:Int)=true:=by
  constructor
  · intro h m hm
    exact Ko p n n 0 aa h m (Nat.zero_le _) hm
  · intro h
    have key:∀ d i:Nat,i+d=n→mE p d (i:Int)=true:=by
      intro d
      induction d with
      |zero=>intro i _;rfl
      |succ d ih=>
        intro i hi
        unfold mE
        rw[h i aa,Bool.true_and]
        exact ih (i+1) aa
    exact key n 0 aa
theorem EZ (s:ByteArray):∀(d a i:Nat),i+d=s.size→a≤i→(∀ m:Nat,a≤m→m<i→Es (bt s (m:Int))=true)→
    ((pieces s 46 d a i).all lS=true↔((pieces s 46 d a i).all (fun x=>!decide (x.size=0))=true∧∀ m:Nat,i≤m→m<s.size→(Es (bt s (m:Int))||decide (bt s (m:Int)=46))=true)):=by
  have ext:∀(a b:Nat),a≤b→b≤s.size→(∀ m:Nat,a≤m→m<b→Es (bt s (m:Int))=true)→(lS (s.extract a b)=true↔(!decide ((s.extract a b).size=0))=true):=by
    intro a b h1 h2 h3
    have hz:(s.extract a b).size=b-a:=by rw[size_extract];omega
    have:mE (fun i=>Es (bt (s.extract a b) i)) (s.extract a b).size 0=true:=by
      rw[su]
      intro m hm
      rw[fD _ _ _ _ aa aa aa,show((a:Int)+(m:Int))=((a+m:Nat):Int) by omega]
      exact h3 (a+m) aa aa
    unfold lS
    rw[this,Bool.and_true]
  intro d
  induction d with
  |zero=>
    intro a i h1 h2 h3
    simp only[pieces,List.all_cons,List.all_nil,Bool.and_true]
    rw[ext a s.size aa (Nat.le_refl _) (fun m q1 q2=>h3 m q1 aa)]
    constructor
    · intro h;exact⟨h,fun m q1 q2=>by omega⟩
    · intro h;exact h.1
  |succ d ih=>
    intro a i h1 h2 h3
    unfold pieces
    by_cases c:bt s (i:Int)=46
    · rw[if_pos c]
      simp only[List.all_cons,Bool.and_eq_true]
      rw[ext a i h2 aa h3,ih (i+1) (i+1) aa (Nat.le_refl _) (fun m q1 q2=>by omega)]
      constructor
      · rintro⟨x,y,z⟩
        refine⟨⟨x,y⟩,fun m q1 q2=>?_⟩
        by_cases e:m=i
        · rw[e,c];rfl
        · exact z m aa q2
      · rintro⟨⟨x,y⟩,z⟩
        exact⟨x,y,fun m q1 q2=>z m aa q2⟩
    · rw[if_neg c]
      by_cases e:Es (bt s (i:Int))=true
      · rw[ih a (i+1) aa aa (fun m q1 q2=>by
          by_cases z:m=i
          · rw[z];exact e
          · exact h3 m q1 aa)]
        constructor
        · rintro⟨x,y⟩
          refine⟨x,fun m q1 q2=>?_⟩
          by_cases z:m=i
          · rw[z,e];rfl
          · exact y m aa q2
        · rintro⟨x,y⟩
          exact⟨x,fun m q1 q2=>y m aa q2⟩
      · have bad:∀(d a j:Nat),j+d=s.size→a≤i→i<j→(∀ m:Nat,a≤m→m<j→bt s (m:Int)≠46)→(pieces s 46 d a j).all lS=false:=by
          intro d
          induction d with
          |zero=>
            intro a j q1 q2 q3 q4
            simp only[pieces,List.all_cons,List.all_nil,Bool.and_true]
            cases hp:lS (s.extract a s.size) with
            |false=>rfl
            |true=>
              exfalso
              unfold lS at hp
              rw[Bool.and_eq_true,su] at hp
              have hz:(s.extract a s.size).size=s.size-a:=by rw[size_extract];omega
              have:=hp.2 (i-a) aa
              rw[fD _ _ _ _ aa aa aa,show((a:Int)+((i-a:Nat):Int))=(i:Int) by omega] at this
              exact e this
          |succ d ih2=>
            intro a j q1 q2 q3 q4
            unfold pieces
            by_cases c2:bt s (j:Int)=46
            · rw[if_pos c2,List.all_cons]
              cases hp:lS (s.extract a j) with
              |false=>rfl
              |true=>
                exfalso
                unfold lS at hp
                rw[Bool.and_eq_true,su] at hp
                have hz:(s.extract a j).size=j-a:=by rw[size_extract];omega
                have:=hp.2 (i-a) aa
                rw[fD _ _ _ _ aa aa aa,show((a:Int)+((i-a:Nat):Int))=(i:Int) by omega] at this
                exact e this
            · rw[if_neg c2]
              refine ih2 a (j+1) aa q2 aa (fun m z1 z2=>?_)
              by_cases z:m=j
              · rw[z];exact c2
              · exact q4 m z1 aa
        rw[bad d a (i+1) aa h2 aa (fun m z1 z2 hm=>by
          by_cases z:m=i
          · rw[z] at hm;exact c hm
          · have:=h3 m z1 aa;rw[hm] at this;exact absurd this ak)]
        constructor
        · intro h;cases h
        · rintro⟨_,y⟩
          have:=y i (Nat.le_refl _) aa
          rw[aN c,Bool.or_false] at this
          exact absurd this e
def zl (s:ByteArray):Bool:=decide (1≤s.size∧s.size≤60)&&(cB s 46).all lS
theorem Df (s:ByteArray) (hs:s.size≤1048576) (k:Nat) (hk:70000000<k):bG.f k s=some (zl s):=by
  obtain⟨k,rfl⟩:=aQ k aa
  unfold bG.f zl
  by_cases c1:s.size=0
  · rw[if_pos aa,aN aa]
    simp only[bG.j0];rfl
  · rw[if_neg aa]
    by_cases c2:s.size≤60
    · rw[aN aa,aT aa,Bool.true_and]
      have hl:=lQ s 46
      simp only[bG.j0]
      rw[if_neg ak,ug s hs 46 k aa,aj]
      exact zk (cB s 46) aa (fun x hx=>by have:=qN _ _ _ _ _ x hx;omega) (cB s 46) 0 k rfl (by
        have:(cB s 46).length*1048600≤61*1048600:=Nat.mul_le_mul_right _ aa
        omega)
    · rw[aT aa,aN aa]
      simp only[bG.j0];rfl
theorem Gc (L:List ByteArray) (hL:L.length≤1048576):∀(r:List ByteArray) (i k:Nat),L.drop i=r→r.length<k→∃ v:Int,bW.l0 k L (⟨#[]⟩:af) (L.length:Int) (i:Int)=some v∧(decide (v≥0) = !(r.all fun x=>!decide (x.size=0))):=by
  intro r
  induction r with
  |nil=>
    intro i k h hk
    obtain⟨k,rfl⟩:=aQ k aa
    have hi:=List.drop_eq_nil_iff.1 h
    simp only[bW.l0]
    rw[if_neg aa]
    exact⟨-1,rfl,by rfl⟩
  |cons x r ih=>
    intro i k h hk
    obtain⟨k,rfl⟩:=aQ k aa
    obtain⟨hx,hi,hd,-⟩:=drop_cons h
    rw[List.length_cons] at hk
    have he:(⟨#[]⟩:af).toList=([]:List UInt8):=by decide +kernel
    simp only[bW.l0]
    rw[if_pos aa,if_pos aa,if_pos aa,uh L i x hx,he,bX i aa,List.all_cons]
    by_cases c:x.size=0
    · rw[if_pos ((iB x).2 c).symm]
      refine⟨(i:Int),rfl,?_⟩
      rw[aT c,aT aa];rfl
    · rw[if_neg (fun q=>c ((iB x).1 q.symm)),aN c,Bool.not_false,Bool.true_and]
      exact ih (i+1) k hd aa
theorem Dh (s:ByteArray) (hs:s.size≤1048576) (k:Nat) (hk:1060000<k):iQ.f k s=some (zl s):=by
  obtain⟨k,rfl⟩:=aQ k aa
  have no:iQ.j0 (k+1) s true=some false:=by simp only[iQ.j0];rfl
  unfold iQ.f zl
  rw[mF,aj]
  by_cases c1:1≤s.size∧s.size≤60
  case neg=>rw[if_neg (by rw[aN aa];decide),no,aN c1,Bool.false_and]
  rw[if_pos (aT aa),yo s hs (k+1) aa,aj,aT c1,Bool.true_and]
  have hp:=EZ s s.size 0 0 aa (Nat.le_refl _) (fun m a b=>by omega)
  have hall:(mE (fun i=>Es (bt s i)||decide (bt s i=46)) s.size 0=true)↔∀ m:Nat,0≤m→m<s.size→(Es (bt s (m:Int))||decide (bt s (m:Int)=46))=true:=by
    rw[su]
    exact⟨fun h m _ b=>h m b,fun h m b=>h m (Nat.zero_le _) b⟩
  have hl:=lQ s 46
  cases hq:mE (fun i=>Es (bt s i)||decide (bt s i=46)) s.size 0 with
  |false=>
    have:(cB s 46).all lS=false:=by
      cases hz:(cB s 46).all lS with
      |false=>rfl
      |true=>
        have:=hall.2 (hp.1 hz).2
        rw[hq] at this;cases this
    rw[this]
    exact no
  |true=>
    simp only[iQ.j0]
    obtain⟨v,hv1,hv2⟩:=Gc (cB s 46) aa (cB s 46) 0 k rfl aa
    have hcon:gH.f k (cB s 46) (⟨#[]⟩:af)=some (!((cB s 46).all fun x=>!decide (x.size=0))):=by
      unfold gH.f bW.f
      rw[show((0:Nat):Int)=0 from rfl] at hv1
      rw[hv1,aj,hv2]
    have hsp:strings_Split.f s (⟨#[46]⟩:af)=some (cB s 46):=EW s 46 aa
    rw[if_neg ak,hsp,aj,hcon,aj,Bool.not_not]
    congr 1
    have hq':=hall.1 hq
    cases hz:(cB s 46).all lS with
    |true=>exact(hp.1 hz).1
    |false=>
      cases hy:(cB s 46).all (fun x=>!decide (x.size=0)) with
      |false=>rfl
      |true=>
        have:=hp.2 ⟨hy,hq'⟩
        unfold cB at hz
        rw[hz] at this;cases this

end Go.Proofs.YtfhllanhldbkkaaGreatDoor.P
end

section
/- Plain laws of our own (DecText): about numbers and lists alone; no condition beyond those written. -/
namespace Go.Proofs.YtfhllanhldbkkaaGreatDoor.P
open Go.RowKit Go.Proofs.YtfhllanhldbkkaaGreatDoorW.ax Go.Proofs.YtfhllanhldbkkaaGreatDoorW.aD Go.Proofs.YtfhllanhldbkkaaGreatDoorW.aH
set_option linter.unusedVariables false
set_option linter.unusedSimpArgs false
set_option maxHeartbeats 2000000
theorem xn (x:Nat) (hx:x<10):strOfNums [(wrap64 (48+(x:Int)))%256]=(⟨#[UInt8.ofNat (48+x)]⟩:af):=by
  rw[au aa aa]
  unfold strOfNums
  have e:((48+(x:Int))%256).toNat=48+x:=by omega
  simp[e]
theorem Kr : ∀(d u:Nat),u<10 ^ (d+1)→u≤999999999999999→d≤20→∀ k,2*d+2≤k→bU.f k (u:Int)=some ⟨(Lib.decDigits u).toArray⟩:=by
  intro d
  induction d with
  |zero=>
    intro u hu hu2 hd k hk
    obtain⟨k,rfl⟩:∃ m,k=m+2:=⟨k-2,by omega⟩
    have h10:u<10:=by simpa using hu
    rw[bU.f.eq_def]
    dsimp only
    rw[if_neg aa,aN aa,bU.j0.eq_def]
    dsimp only
    rw[if_neg ak,if_pos aa,xn u h10,Lib.decDigits_one h10]
  |succ d ih=>
    intro u hu hu2 hd k hk
    obtain⟨k,rfl⟩:∃ m,k=m+2:=⟨k-2,by omega⟩
    rw[bU.f.eq_def]
    dsimp only
    rw[if_neg aa,aN aa,bU.j0.eq_def]
    dsimp only
    rw[if_neg ak]
    by_cases h10:u<10
    · rw[if_pos aa,xn u h10,Lib.decDigits_one h10]
    · have e1:wrap64 (Int.tdiv (u:Int) 10)=((u / 10:Nat):Int):=by
        have:Int.tdiv (u:Int) 10=((u / 10:Nat):Int):=rfl
        rw[this,au aa aa]
      have e2:Int.tmod (u:Int) 10=((u%10:Nat):Int):=rfl
      have hq:u / 10<10 ^ (d+1):=by
        rw[Nat.pow_succ] at hu
        omega
      rw[if_neg aa,e1,ih (u / 10) hq aa aa k aa,aj,aj,e2,xn (u%10) aa]
      have hl:(Lib.decDigits (u / 10)).length≤21:=by
        have h1:=Lib.itoa_length_le ((u / 10:Nat):Int) aa aa
        unfold Lib.itoa at h1
        rw[if_neg aa,Int.toNat_natCast] at h1
        exact h1
      have hs1:(⟨(Lib.decDigits (u / 10)).toArray⟩:ByteArray).size≤21:=by simpa [ByteArray.size] using hl
      have hs2:(⟨#[UInt8.ofNat (48+u%10)]⟩:af).size=1:=rfl
      have e3:Lib.decDigits u=Lib.decDigits (u / 10) ++ [UInt8.ofNat (48+u%10)]:=by rw[Lib.decDigits,dif_neg h10]
      rw[if_pos aa,e3]
      congr 1
theorem gP (n:Int) (h0:0≤n) (h1:n≤999999999999999) (k:Nat) (hk:100≤k):bU.f k n=some (gY n):=by
  obtain⟨u,rfl⟩:=Int.eq_ofNat_of_zero_le h0
  rw[Kr 15 u aa aa ak k aa]
  unfold gY Lib.itoa
  rw[if_neg aa,Int.toNat_natCast]

end Go.Proofs.YtfhllanhldbkkaaGreatDoor.P
end

section
/- Plain laws of our own (ReadDec): about numbers and lists alone; no condition beyond those written. -/
namespace Go.Proofs.YtfhllanhldbkkaaGreatDoor.P
open Go.RowKit Go.Proofs.YtfhllanhldbkkaaGreatDoorW.ax Go.Proofs.YtfhllanhldbkkaaGreatDoorW.aD Go.Proofs.YtfhllanhldbkkaaGreatDoorW.aH
set_option linter.unusedVariables false
set_option linter.unusedSimpArgs false
set_option maxHeartbeats 2000000
theorem BQ : ∀(l r:List UInt8) (acc m:Nat),Lib.parseUint10 acc l = .ok m→Lib.parseUint10 acc (l++r)=Lib.parseUint10 m r
  |[],r,acc,m,h=>by
    simp only[Lib.parseUint10] at h
    injection h with h
    rw[h];rfl
  |c::l,r,acc,m,h=>by
    simp only[Lib.parseUint10,List.cons_append] at h ⊢
    split at h
    · rename_i h1
      rw[if_pos h1]
      split at h
      · cases h
      · rename_i h2
        rw[if_neg h2]
        split at h
        · cases h
        · rename_i h3
          rw[if_neg h3]
          exact BQ l r _ m h
    · cases h
theorem sw (acc d:Nat) (hd:d<10) (ha:acc≤999999999999999):Lib.parseUint10 acc [UInt8.ofNat (48+d)] = .ok (acc*10+d):=by
  have e:(UInt8.ofNat (48+d)).toNat=48+d:=by
    rw[UInt8.toNat_ofNat']
    omega
  simp only[Lib.parseUint10,e]
  rw[if_pos aa,if_neg aa,if_neg aa]
  congr 1;omega
theorem IW : ∀(d u:Nat),u<10 ^ (d+1)→u≤999999999999999→Lib.parseUint10 0 (Lib.decDigits u) = .ok u∧(Lib.decDigits u).length≤d+1∧Lib.decDigits u≠[]:=by
  intro d
  induction d with
  |zero=>
    intro u hu h15
    have h10:u<10:=by simpa using hu
    rw[Lib.decDigits_one h10]
    exact⟨by rw[sw 0 u h10 aa];congr 1;omega,by simp,by simp⟩
  |succ d ih=>
    intro u hu h15
    by_cases h10:u<10
    · rw[Lib.decDigits_one h10]
      exact⟨by rw[sw 0 u h10 aa];congr 1;omega,by simp,by simp⟩
    · have e3:Lib.decDigits u=Lib.decDigits (u / 10) ++ [UInt8.ofNat (48+u%10)]:=by rw[Lib.decDigits,dif_neg h10]
      obtain⟨h1,h2,h3⟩:=ih (u / 10) (by rw[Nat.pow_succ] at hu;omega) aa
      rw[e3]
      refine⟨?_,by simp;omega,by simp⟩
      rw[BQ _ _ _ _ h1,sw (u / 10) (u%10) aa aa]
      congr 1;omega
theorem E5 {c:UInt8} {r:List UInt8} {acc m:Nat} (h:Lib.parseUint10 acc (c::r) = .ok m):48≤c.toNat∧c.toNat≤57:=by
  simp only[Lib.parseUint10] at h
  split at h
  · assumption
  · cases h
theorem xq {l:List UInt8} {u:Nat} (hl:l≠[]) (h:Lib.parseUint10 0 l = .ok u) (hu:u≤999999999999999):Lib.atoiAll l = .ok (u:Int):=by
  cases l with
  |nil=>exact absurd rfl hl
  |cons c r=>
    have hc:=E5 h
    unfold Lib.atoiAll Lib.parseMag
    simp only
    rw[if_neg (show ¬ (c.toNat=43∨c.toNat=45) by omega),if_neg (show ¬ (c::r = []) by simp),h]
    simp only
    rw[if_neg aa,if_neg aa,if_neg aa]
theorem Gd (v:Int) (h0:0≤v):(gY v).toList=Lib.decDigits v.toNat:=by
  rw[ByteArray.toList_eq]
  unfold gY Lib.itoa
  rw[if_neg aa]
theorem Kt (s:ByteArray) (h:(lC s).2=true):lC s=((lC s).1,true)∧0≤(lC s).1∧(lC s).1≤999999999999999∧s.data.toList=Lib.decDigits (lC s).1.toNat:=by
  unfold lC at h ⊢
  rcases hA:Lib.atoiAll s.data.toList with v|_|_
  · rw[hA] at h
    simp only at h ⊢
    by_cases hc:0≤v∧v≤999999999999999∧(gY v).toList=s.toList
    · rw[if_pos hc]
      exact⟨rfl,hc.1,hc.2.1,by rw[← ByteArray.toList_eq,← hc.2.2,Gd v hc.1]⟩
    · rw[if_neg hc] at h;cases h
  · rw[hA] at h;cases h
  · rw[hA] at h;cases h
theorem uF (s:ByteArray) (h:(lC s).2=false):lC s=(0,false):=by
  unfold lC at h ⊢
  rcases hA:Lib.atoiAll s.data.toList with v|_|_
  · rw[hA] at h
    simp only at h ⊢
    split
    · rename_i hc;rw[if_pos hc] at h;cases h
    · rfl
  · rfl
  · rfl
def Ku (s:ByteArray):Lib.NumEnd Nat→Int×Bool
  |.ok n=>if(gY (n:Int)).toList=s.toList then((n:Int),true) else(0,false)
  |_=>(0,false)
theorem xu (acc i m:Nat) (ha:acc<10 ^ i) (hi:i≤m):acc<10 ^ m:=Nat.lt_of_lt_of_le ha (Nat.pow_le_pow_right ak hi)
theorem Rv : (10:Nat) ^ 14=100000000000000:=by decide
theorem Kv : (10:Nat) ^ 15=1000000000000000:=by decide
theorem Kw (acc x i:Nat) (ha:acc<10 ^ i) (hx:x≤9):acc*10+x<10 ^ (i+1):=by
  rw[Nat.pow_succ]
  have h:(acc+1)*10≤10 ^ i*10:=Nat.mul_le_mul_right 10 ha
  omega
theorem Ky (s:ByteArray) (hs:s.size≤15):∀(d:Nat) (acc i:Nat),i≤s.size→s.size-i=d→ae (acc<10 ^ i)→∀ k,d+120<k→
    dK.l0 k s (acc:Int) (i:Int)=some (Ku s (Lib.parseUint10 acc (s.data.toList.drop i)))∧(∀ n,Lib.parseUint10 acc (s.data.toList.drop i) = .ok n→n<10 ^ s.size):=by
  intro d
  induction d with
  |zero=>
    intro acc i h0 hd ha k hk
    have hi:i=s.size:=by omega
    have hp2:acc≤999999999999999:=by
      have h1:=xu acc i 15 ha.out aa
      rw[Kv] at h1
      omega
    rw[List.drop_of_length_le (by rw[wY];omega)]
    obtain⟨k,rfl⟩:=aQ k aa
    refine⟨?_,fun n hn=>?_⟩
    · simp only[dK.l0,Lib.parseUint10,Ku]
      rw[if_neg aa,gP (acc:Int) aa aa k aa,aj]
      split <;> rfl
    · simp only[Lib.parseUint10] at hn
      injection hn with hn
      rw[← hn,← hi];exact ha.out
  |succ d ih=>
    intro acc i h0 hd ha k hk
    obtain⟨k,rfl⟩:=aQ k aa
    obtain⟨b,hb1,hb2⟩:=Hd (s:=s) (n:=i) aa
    obtain⟨hb3,hb4⟩:=List.getElem?_eq_some_iff.mp hb1
    have hp:acc≤99999999999999:=by
      have h1:=xu acc i 14 ha.out aa
      rw[Rv] at h1
      omega
    have hwi:=bX i aa
    rw[List.drop_eq_getElem_cons hb3,hb4]
    clear hb1 hb3 hb4
    simp only[dK.l0,Lib.parseUint10]
    rw[if_pos aa,if_pos aa,hb2,Ay,aj,hwi]
    clear hwi hb2
    by_cases hd2:48≤b.toNat∧b.toNat≤57
    · have hdg:dg b=true:=aT hd2
      have hwv:wrap64 (wrap64 ((acc:Int)*10)+((b.toNat:Int)-48)%256)=((acc*10+(b.toNat-48):Nat):Int):=by
        rw[au (x:=(acc:Int)*10) aa aa,au aa aa]
        omega
      rw[if_pos hdg,if_pos hd2,if_neg aa,if_neg aa,hwv]
      exact ih (acc*10+(b.toNat-48)) (i+1) aa aa ⟨Kw acc (b.toNat-48) i ha.out aa⟩ k aa
    · have hdg:dg b=false:=aN hd2
      rw[hdg,if_neg ak,if_neg hd2]
      exact⟨rfl,fun n hn=>by cases hn⟩
theorem yt (s:ByteArray) (k:Nat) (hk:200<k):dK.f k s=some (lC s):=by
  have inv:(lC s).2=true→1≤s.size∧s.size≤15∧Lib.parseUint10 0 s.data.toList = .ok (lC s).1.toNat:=by
    intro h
    obtain⟨_,h1,h2,h3⟩:=Kt s h
    obtain⟨p1,p2,p3⟩:=IW 14 (lC s).1.toNat (by
      have e:10 ^ (14+1)=1000000000000000:=by decide
      omega) aa
    rw[← h3] at p1 p2 p3
    rw[wY] at p2
    refine⟨?_,by omega,p1⟩
    rcases Nat.eq_zero_or_pos s.size with h0|h0
    · exact absurd (List.eq_nil_of_length_eq_zero (by rw[wY];exact h0)) p3
    · exact h0
  obtain⟨k,rfl⟩:=aQ k aa
  unfold dK.f
  have no:(lC s).2=false→some ((0:Int),false)=some (lC s):=fun h=>by rw[uF s h]
  by_cases h0:s.size=0
  · rw[if_pos aa]
    simp only[dK.j0]
    exact no (by cases hb:(lC s).2 with|false=>rfl|true=>have:=inv hb;omega)
  · rw[if_neg aa]
    by_cases h15:s.size>15
    · rw[aT aa]
      simp only[dK.j0]
      exact no (by cases hb:(lC s).2 with|false=>rfl|true=>have:=inv hb;omega)
    · rw[aN aa]
      simp only[dK.j0]
      rw[if_neg ak]
      have hl:=Ky s aa s.size 0 0 (Nat.zero_le _) aa ⟨by decide⟩ k aa
      rw[List.drop_zero] at hl
      refine hl.1.trans ?_
      congr 1
      rcases hP:Lib.parseUint10 0 s.data.toList with n|_|_
      · have hn:=hl.2 n hP
        have ady:n≤999999999999999:=by
          have h1:=xu n s.size 15 hn aa
          rw[Kv] at h1
          clear hn hP hl
          omega
        clear hn
        have hne:s.data.toList≠[]:=fun e=>h0 (by rw[← wY,e];rfl)
        unfold lC
        rw[xq hne hP ady]
        simp only[Ku]
        by_cases he:(gY (n:Int)).toList=s.toList
        · rw[if_pos he,if_pos ⟨by omega,by omega,he⟩]
        · rw[if_neg he,if_neg (fun x=>he x.2.2)]
      · have hb:(lC s).2=false:=by cases hb:(lC s).2 with|false=>rfl|true=>have:=(inv hb).2.2;rw[hP] at this;cases this
        rw[uF s hb];rfl
      · have hb:(lC s).2=false:=by cases hb:(lC s).2 with|false=>rfl|true=>have:=(inv hb).2.2;rw[hP] at this;cases this
        rw[uF s hb];rfl

end Go.Proofs.YtfhllanhldbkkaaGreatDoor.P
end

section
/- Plain laws of our own (UrlRead): about numbers and lists alone; no condition beyond those written. -/
namespace Go.Proofs.YtfhllanhldbkkaaGreatDoor.P
open Go.RowKit Go.Proofs.YtfhllanhldbkkaaGreatDoorW.ax Go.Proofs.YtfhllanhldbkkaaGreatDoorW.aD Go.Proofs.YtfhllanhldbkkaaGreatDoorW.aH
set_option linter.unusedVariables false
set_option linter.unusedSimpArgs false
set_option maxHeartbeats 2000000
def qx (p:Int):ByteArray:=if p=80 then(⟨#[]⟩:af) else(⟨#[58]⟩:af)++gY p
def sD (q:ByteArray) (hq:Bool):ByteArray:=if hq=true then(⟨#[63]⟩:af)++q else(⟨#[]⟩:af)
def zm (h:ByteArray) (p:Int) (path q:ByteArray) (hq:Bool):ByteArray:=((((⟨#[104,116,116,112,58,47,47]⟩:af)++h)++qx p)++path)++sD q hq
theorem qP (p:Int) (h0:0≤p) (h1:p≤999999999999999):(qx p).size≤22:=by
  unfold qx
  split
  · exact Nat.zero_le _
  · have h:=Lib.itoa_length_le p aa aa
    have e:(gY p).size=(Lib.itoa p).length:=by simp[gY,ByteArray.size]
    have e2:(⟨#[58]⟩:af).size=1:=rfl
    rw[ByteArray.size_append,e2]
    omega
theorem E8 (q:ByteArray) (hq:Bool):(sD q hq).size≤1+q.size:=by
  unfold sD
  split
  · rw[ByteArray.size_append];exact Nat.le_refl _
  · exact Nat.zero_le _
theorem Di (h:ByteArray) (p:Int) (path q:ByteArray) (hq:Bool) (h0:0≤p) (h1:p≤999999999999999) (k:Nat) (hk:100≤k):pg.f k h p path q hq=some (qx p):=by
  have hz:=qP p h0 h1
  unfold pg.f
  unfold qx at hz ⊢
  by_cases e:p=80
  · rw[if_pos e,if_pos e]
  · rw[if_neg e] at hz
    rw[if_neg e,if_neg e,gP p h0 h1 k hk,aj,if_pos (by rw[ByteArray.size_append] at hz;omega)]
theorem Dj (h:ByteArray) (p:Int) (path q:ByteArray) (hq:Bool) (h0:0≤p) (h1:p≤999999999999999):mZ.f h p path q hq=some (qx p):=by
  have hz:=qP p h0 h1
  unfold mZ.f
  unfold qx at hz ⊢
  by_cases e:p=80
  · rw[if_pos e,if_pos e]
  · rw[if_neg e] at hz
    have hi:ig.f p=some (gY p):=if_pos ⟨by omega,by omega⟩
    rw[if_neg e,if_neg e,hi,aj,if_pos (by rw[ByteArray.size_append] at hz;omega)]
theorem PQ : (⟨#[104,116,116,112,58,47,47]⟩:af).size=7:=rfl
theorem vJ (h:ByteArray) (p:Int) (path q:ByteArray) (hq:Bool) (h0:0≤p) (h1:p≤999999999999999) (hh:h.size≤1048576) (hp:path.size≤1048576) (hqs:q.size≤1048576) (k:Nat) (hk:100≤k) :
    jH.f k h p path q hq=some (zm h p path q hq):=by
  have z1:=qP p h0 h1
  have s1:((⟨#[104,116,116,112,58,47,47]⟩:af)++h).size=7+h.size:=by rw[ByteArray.size_append,PQ]
  have s2:(((⟨#[104,116,116,112,58,47,47]⟩:af)++h)++qx p).size=7+h.size+(qx p).size:=by rw[ByteArray.size_append,s1]
  have s3:((((⟨#[104,116,116,112,58,47,47]⟩:af)++h)++qx p)++path).size=7+h.size+(qx p).size+path.size:=by rw[ByteArray.size_append,s2]
  have hq1:nO.f h p path q hq=some (sD q hq):=by
    unfold nO.f sD
    cases hq with
    |true=>rw[if_pos rfl,if_pos rfl,if_pos aa]
    |false=>rfl
  have z2:=E8 q hq
  unfold jH.f
  rw[if_pos aa,Di h p path q hq h0 h1 k hk,aj,if_pos aa,if_pos aa,hq1,aj,if_pos aa]
  rfl
theorem vK (h:ByteArray) (p:Int) (path q:ByteArray) (hq:Bool) (h0:0≤p) (h1:p≤999999999999999) (hh:h.size≤1048576) (hp:path.size≤1048576) (hqs:q.size≤1048576) :
    iX.f h p path q hq=some (zm h p path q hq):=by
  have z1:=qP p h0 h1
  have s1:((⟨#[104,116,116,112,58,47,47]⟩:af)++h).size=7+h.size:=by rw[ByteArray.size_append,PQ]
  have s2:(((⟨#[104,116,116,112,58,47,47]⟩:af)++h)++qx p).size=7+h.size+(qx p).size:=by rw[ByteArray.size_append,s1]
  have qs:(⟨#[63]⟩:af).size=1:=rfl
  unfold iX.f
  rw[if_pos aa,Dj h p path q hq h0 h1,aj,if_pos aa]
  unfold pG.f zm sD
  cases hq with
  |true=>
    have s3:(path++(⟨#[63]⟩:af)).size=path.size+1:=by rw[ByteArray.size_append,qs]
    have s4:((path++(⟨#[63]⟩:af))++q).size=path.size+1+q.size:=by rw[ByteArray.size_append,s3]
    rw[if_pos rfl,if_pos rfl,if_pos aa,if_pos aa,aj,if_pos aa]
    congr 1
    apply ByteArray.ext
    simp[Array.append_assoc]
  |false=>
    rw[if_neg ak,if_neg ak,aj,if_pos aa]
    congr 1
    apply ByteArray.ext
    simp
def AP (h:ByteArray) (p:Int) (path q:ByteArray) (hq:Bool):Bool:=
  zl h&&(decide (1≤p∧p≤65535)&&(!decide (path.size=0)&&(decide (kg path=path)&&((hq||decide (q.size=0))&&(nH q&&(decide (aJ q 35=q.size)&&decide ((zm h p path q hq).size≤200)))))))
theorem bA (a b:ByteArray):a.toList=b.toList↔a=b:=by
  constructor
  · intro h
    rw[ByteArray.toList_eq,ByteArray.toList_eq] at h
    apply ByteArray.ext
    rw[← Array.toArray_toList (xs:=a.data),h,Array.toArray_toList]
  · intro h;rw[h]
theorem NA (q:ByteArray) (h:q.size=0):nH q=true:=by unfold nH;rw[h];rfl
theorem qy (q:ByteArray) (c:Int):az q c=q↔aJ q c=q.size:=by
  constructor
  · intro h
    have:=jB q c
    rw[h] at this
    exact this.symm
  · intro h
    unfold az
    rw[h]
    exact extract_all q
theorem pI (h:ByteArray) (p:Int) (path q:ByteArray) (hq:Bool) (hh:h.size≤1048576) (hp:path.size≤1048576) (hqs:q.size≤200) (k:Nat) (hk:80000000<k):bL.f k h p path q hq=some (AP h p path q hq):=by
  obtain⟨k,rfl⟩:=aQ k aa
  have no:bL.j0 (k+1) true h p path q hq=some false:=by simp only[bL.j0];rfl
  unfold bL.f AP
  rw[Df h hh (k+1) aa,aj]
  cases c1:zl h with
  |false=>rw[if_neg ak,no];rfl
  |true=>
    rw[if_pos rfl,Bool.true_and]
    by_cases c2:p<1
    · rw[if_pos c2,no,aN aa];rfl
    rw[if_neg c2]
    by_cases c3:p>65535
    · rw[if_pos c3,no,aN aa];rfl
    rw[if_neg c3,aT aa,Bool.true_and]
    by_cases c4:path.size=0
    · rw[if_pos ((iB path).2 c4),no,aT c4];rfl
    rw[if_neg (fun z=>c4 ((iB path).1 z)),aN c4,Bool.not_false,Bool.true_and,ui path hp (k+1) aa,aj]
    by_cases c5:kg path=path
    case neg=>rw[if_neg (fun z=>c5 ((bA _ _).1 z)),no,aN c5];rfl
    rw[if_pos ((bA _ _).2 c5),aT c5,Bool.true_and]
    have tail:(hq||decide (q.size=0))=true→bL.j0 (k+1) false h p path q hq=some (nH q&&(decide (aJ q 35=q.size)&&decide ((zm h p path q hq).size≤200))):=by
      intro _
      simp only[bL.j0]
      rw[if_neg ak,if_neg aa,vJ h p path q hq aa aa hh hp aa k aa,ow q aa 35 k aa,aj,aj]
      have mid:(if(az q 35).toList=q.toList then some (decide (((zm h p path q hq).size:Int)≤200)) else some false)=some (decide (aJ q 35=q.size)&&decide ((zm h p path q hq).size≤200)):=by
        by_cases e:aJ q 35=q.size
        · rw[if_pos ((bA _ _).2 ((qy q 35).2 e)),aT e,Bool.true_and]
          exact congrArg some (decide_eq_decide.2 aa)
        · rw[if_neg (fun z=>e ((qy q 35).1 ((bA _ _).1 z))),aN e,Bool.false_and]
      by_cases z:q.size=0
      · rw[if_pos ((iB q).2 z),NA q z,Bool.true_and]
        exact mid
      · rw[if_neg (fun y=>z ((iB q).1 y)),kL q aa k aa,aj,aT (by omega:0<q.size),Bool.true_and]
        cases hv:nH q with
        |false=>rfl
        |true=>rw[if_pos rfl,Bool.true_and];exact mid
    cases hq with
    |true=>rw[if_pos rfl,tail rfl];rfl
    |false=>
      rw[if_neg ak]
      by_cases z:q.size=0
      · have:(q.toList != ([]:List UInt8))=false:=bne_eq_false_iff_eq.2 ((iB q).2 z)
        rw[this,tail (by rw[aT z];rfl),aT z];rfl
      · have:(q.toList != ([]:List UInt8))=true:=bne_iff_ne.2 (fun y=>z ((iB q).1 y))
        rw[this,no,aN z];rfl
theorem AQ (h:ByteArray) (p:Int) (path q:ByteArray) (hq:Bool) (hh:h.size≤1048576) (hp:path.size≤1048576) (hqs:q.size≤200) (k:Nat) (hk:80000000<k):eG.f k h p path q hq=some (AP h p path q hq):=by
  obtain⟨k,rfl⟩:=aQ k aa
  have no:eG.j0 (k+1) true h p path q hq=some false:=by simp only[eG.j0];rfl
  unfold eG.f AP
  rw[Dh h hh (k+1) aa,aj,mF,aj]
  cases c1:zl h with
  |false=>rw[if_neg ak,no];rfl
  |true=>
    rw[if_pos rfl,Bool.true_and]
    by_cases c2:1≤p∧p≤65535
    case neg=>rw[aN c2,if_neg ak,no];rfl
    rw[aT c2,if_pos rfl,Bool.true_and]
    by_cases c4:path.size=0
    · rw[if_pos ((iB path).2 c4),no,aT c4];rfl
    rw[if_neg (fun z=>c4 ((iB path).1 z)),aN c4,Bool.not_false,Bool.true_and,uj path hp (k+1) aa,aj]
    by_cases c5:kg path=path
    case neg=>
      have:((kg path).toList != path.toList)=true:=bne_iff_ne.2 (fun z=>c5 ((bA _ _).1 z))
      rw[this,no,aN c5];rfl
    have e5:((kg path).toList != path.toList)=false:=bne_eq_false_iff_eq.2 ((bA _ _).2 c5)
    rw[e5,aT c5,Bool.true_and]
    simp only[eG.j0]
    have hc:=rF q 35
    have h35:((35:UInt8).toNat:Int)=35:=rfl
    rw[h35] at hc
    have hle:=fJ q 35
    rw[if_neg ak,kK q aa k aa,aj,hc,aj,vK h p path q hq aa aa hh hp aa,aj]
    have hd:decide (((zm h p path q hq).size:Int)≤200)=decide ((zm h p path q hq).size≤200):=decide_eq_decide.2 aa
    rw[hd]
    cases hv:nH q with
    |false=>rw[if_neg ak,Bool.false_and,Bool.and_false]
    |true=>
      rw[if_pos rfl,Bool.true_and]
      by_cases e:aJ q 35<q.size
      · rw[aT e,if_pos rfl,show decide (aJ q 35=q.size)=false from aN aa,Bool.false_and,Bool.and_false]
      · rw[aN e,if_neg ak,show decide (aJ q 35=q.size)=true from aT aa,Bool.true_and]
        cases hq with
        |true=>rw[if_pos rfl];rfl
        |false=>
          rw[if_neg ak]
          by_cases z:q.size=0
          · rw[if_pos ((iB q).2 z),aT z];rfl
          · rw[if_neg (fun y=>z ((iB q).1 y)),aN z];rfl

end Go.Proofs.YtfhllanhldbkkaaGreatDoor.P
end

section
/- Plain laws of our own (Canon): about numbers and lists alone; no condition beyond those written. -/
namespace Go.Proofs.YtfhllanhldbkkaaGreatDoor.P
open Go.RowKit Go.Proofs.YtfhllanhldbkkaaGreatDoorW.ax Go.Proofs.YtfhllanhldbkkaaGreatDoorW.aD Go.Proofs.YtfhllanhldbkkaaGreatDoorW.aH
set_option linter.unusedVariables false
set_option linter.unusedSimpArgs false
set_option maxHeartbeats 2000000
abbrev NB := ByteArray×Int×ByteArray×ByteArray×Bool×Bool
def BR : NB:=((⟨#[]⟩:af),0,(⟨#[]⟩:af),(⟨#[]⟩:af),false,false)
def uG (h:ByteArray) (p:Int) (path q:ByteArray) (hq:Bool):NB:=if AP h p path q hq=true then(h,p,path,q,hq,true) else BR
def BS (f:ByteArray) (n:Nat):ByteArray:=if n<f.size then kg (f.extract n f.size) else(⟨#[47]⟩:af)
def xO (r:ByteArray):NB:=
  if aJ (az (az r 63) 47) 58<(az (az r 63) 47).size then
    (if(lC ((az (az r 63) 47).extract (aJ (az (az r 63) 47) 58+1) (az (az r 63) 47).size)).2=true then
      uG (iN (az (az (az r 63) 47) 58)) (lC ((az (az r 63) 47).extract (aJ (az (az r 63) 47) 58+1) (az (az r 63) 47).size)).1 (BS (az r 63) (az (az r 63) 47).size) (if aJ r 63<r.size then r.extract (aJ r 63+1) r.size else(⟨#[]⟩:af)) (decide (aJ r 63<r.size))
    else BR)
  else uG (iN (az (az (az r 63) 47) 58)) 80 (BS (az r 63) (az (az r 63) 47).size) (if aJ r 63<r.size then r.extract (aJ r 63+1) r.size else(⟨#[]⟩:af)) (decide (aJ r 63<r.size))
theorem uH (s:ByteArray):(iN s).size=s.size:=by unfold iN;rw[strOfNums_size,List.length_map,bytesOf_length]
theorem extract_congr (s:ByteArray) {a b c d:Nat} (h1:a=c) (h2:b=d):s.extract a b=s.extract c d:=by rw[h1,h2]
theorem Gf : kg (⟨#[47]⟩:af)=(⟨#[47]⟩:af):=by decide +kernel
theorem zn (p:ByteArray):(kg p).size≤1048576:=by
  unfold kg
  split
  · rename_i h
    have hz:=uE p
    have hl:=lQ ((gG p).extract 1 (gG p).size) 47
    have hk:=sV (cB ((gG p).extract 1 (gG p).size) 47)
    have he:=iJ (gG p) 1 (gG p).size aa
    have hm:=xh (fun x=>x.size≤200) (cB ((gG p).extract 1 (gG p).size) 47) (Nat.zero_le _) (fun x hx=>by have:=qN _ _ _ _ _ x hx;omega)
    have hj:=zh _ (⟨#[47]⟩:af) 200 hm
    have h1:(⟨#[47]⟩:af).size=1:=rfl
    unfold kM
    rw[ByteArray.size_append,h1]
    rw[h1] at hj
    omega
  · exact Nat.zero_le _
theorem Hl (r f:ByteArray) (h:ByteArray) (p:Int) (path:ByteArray) (hr:r.size≤200) (hf:f.size=aJ r 63) (hh:h.size≤200) (hp:path.size≤1048576) (k:Nat) (hk:80000000<k) :
    bH.j2 (k+1) r f h p path (⟨#[]⟩:af) false=some (uG h p path (if aJ r 63<r.size then r.extract (aJ r 63+1) r.size else(⟨#[]⟩:af)) (decide (aJ r 63<r.size))):=by
  have hle:=fJ r 63
  simp only[bH.j2]
  unfold uG
  by_cases c:aJ r 63<r.size
  · have he:(r.extract (aJ r 63+1) r.size).size≤200:=iJ _ _ _ hr
    rw[if_pos aa,hf,bX _ aa,if_pos aa,if_pos aa,Int.toNat_natCast,pI _ _ _ _ _ aa hp he k hk,aj,if_pos c,aT c]
    split <;> rfl
  · rw[if_neg aa,pI h p path (⟨#[]⟩:af) false aa hp (Nat.zero_le _) k hk,aj,if_neg c,aN c]
    split <;> rfl
theorem Hm (r:ByteArray) (h:ByteArray) (p:Int) (hr:r.size≤200) (hh:h.size≤200) (k:Nat) (hk:80000000<k) :
    bH.j1 (k+2) r (az r 63) (az (az r 63) 47) h p (⟨#[47]⟩:af) (⟨#[]⟩:af) false =
      some (uG h p (BS (az r 63) (az (az r 63) 47).size) (if aJ r 63<r.size then r.extract (aJ r 63+1) r.size else(⟨#[]⟩:af)) (decide (aJ r 63<r.size))):=by
  have h1:=jB r 63
  have h2:=jB (az r 63) 47
  have h3:=fJ r 63
  have h4:=fJ (az r 63) 47
  simp only[bH.j1]
  unfold BS
  by_cases c:(az (az r 63) 47).size<(az r 63).size
  · rw[if_pos aa,if_pos aa,if_pos aa,Int.toNat_natCast,ui _ (by rw[size_extract];omega) (k+1) aa,aj,if_pos c]
    exact Hl r _ h p _ hr h1 hh (zn _) k hk
  · rw[if_neg aa,if_neg c]
    exact Hl r _ h p _ hr h1 hh ak k hk
theorem IX (s:ByteArray) (hs:s.size≤200) (h7:7≤s.size) (k:Nat) (hk:80000000<k):bH.j0 (k+3) s false=some (xO (s.extract 7 s.size)):=by
  have hr:=iJ s 7 s.size hs
  have hz:(s.extract 7 s.size).size≤200:=hr
  generalize hg:s.extract 7 s.size=r at hr hz
  have h1:=jB r 63
  have h2:=jB (az r 63) 47
  have h3:=jB (az (az r 63) 47) 58
  have a1:=fJ r 63
  have a2:=fJ (az r 63) 47
  have a3:=fJ (az (az r 63) 47) 58
  simp only[bH.j0]
  rw[if_neg ak,if_pos aa,hg,ow r aa 63 (k+2) aa,aj,ow _ aa 47 (k+2) aa,aj,ow _ aa 58 (k+2) aa,aj]
  have hf:lq.f (az (az (az r 63) 47) 58)=some (iN (az (az (az r 63) 47) 58)):=if_pos aa
  have hfs:=uH (az (az (az r 63) 47) 58)
  rw[hf,aj]
  unfold xO
  by_cases c:aJ (az (az r 63) 47) 58<(az (az r 63) 47).size
  · rw[if_pos aa,if_pos c,h3,bX _ aa,if_pos aa,if_pos aa,Int.toNat_natCast,yt _ (k+2) aa,aj]
    cases hd:(lC ((az (az r 63) 47).extract (aJ (az (az r 63) 47) 58+1) (az (az r 63) 47).size)).2 with
    |true=>
      rw[if_pos rfl,if_pos rfl]
      exact Hm r _ _ hr aa k hk
    |false=>
      rw[if_neg ak,if_neg ak];rfl
  · rw[if_neg aa,if_neg c]
    exact Hm r _ _ hr aa k hk
def Ho : List UInt8:=[104,116,116,112,58,47,47]
def fE (s:ByteArray):NB:=if s.size≤200∧7≤s.size∧nH s=true∧aJ s 35=s.size∧(iN (s.extract 0 7)).toList=Ho then xO (s.extract 7 s.size) else BR
theorem Gg : xO (⟨#[]⟩:af)=BR:=by decide +kernel
theorem yu (s:ByteArray) (hs:s.size≤1048576) (k:Nat) (hk:80000010<k):bH.f k s=some (fE s):=by
  obtain⟨k,rfl⟩:∃ q,k=q+3:=⟨k-3,by omega⟩
  have no:bH.j0 (k+3) s true=some BR:=by simp only[bH.j0];rfl
  unfold bH.f fE
  by_cases c1:s.size≤200
  case neg=>rw[if_pos aa,no,if_neg (fun q=>c1 q.1)]
  rw[if_neg aa]
  by_cases c2:s.size<8
  · rw[if_pos aa,no]
    by_cases c3:s.size≤200∧7≤s.size∧nH s=true∧aJ s 35=s.size∧(iN (s.extract 0 7)).toList=Ho
    · rw[if_pos c3]
      have:s.extract 7 s.size=(⟨#[]⟩:af):=by
        have hz:(s.extract 7 s.size).size=0:=by rw[size_extract];omega
        exact(bA _ _).1 (((iB _).2 hz).trans ((iB _).2 rfl).symm)
      rw[this,Gg]
    · rw[if_neg c3]
  rw[if_neg aa,kL s hs (k+3) aa,aj,aT (by omega:0<s.size),Bool.true_and]
  cases c3:nH s with
  |false=>rw[if_neg ak,no,if_neg (fun q=>by cases q.2.2.1)]
  |true=>
    rw[if_pos rfl,ow s hs 35 (k+3) aa,aj]
    by_cases c4:aJ s 35=s.size
    case neg=>rw[if_neg (fun z=>c4 ((qy s 35).1 ((bA _ _).1 z))),no,if_neg (fun q=>c4 q.2.2.2.1)]
    have hf:lq.f (s.extract 0 7)=some (iN (s.extract 0 7)):=if_pos (by rw[size_extract];omega)
    rw[if_pos ((bA _ _).2 ((qy s 35).2 c4)),if_pos ak,if_pos aa,hf,aj]
    by_cases c5:(iN (s.extract 0 7)).toList=Ho
    · have:((iN (s.extract 0 7)).toList != ([104,116,116,112,58,47,47]:List UInt8))=false:=bne_eq_false_iff_eq.2 c5
      rw[this,if_pos ⟨c1,by omega,rfl,c4,c5⟩]
      exact IX s c1 aa k aa
    · have:((iN (s.extract 0 7)).toList != ([104,116,116,112,58,47,47]:List UInt8))=true:=bne_iff_ne.2 c5
      rw[this,no,if_neg (fun q=>c5 q.2.2.2.2)]
theorem Kz (r:ByteArray) (c d:Int):aJ (az r d) c=min (aJ r c) (aJ r d):=by
  have h1:=jB r d
  have a:=fJ r d
  have b:=fJ r c
  have e:∀ m:Nat,m<aJ r d→bt (az r d) (m:Int)=bt r (m:Int):=by
    intro m hm
    unfold az
    rw[fD _ _ _ _ aa aa a]
    congr 1
    omega
  apply mY
  · omega
  · intro m hm
    rw[e m aa]
    exact o9 r c m aa
  · intro h
    rw[e _ aa]
    have hm:min (aJ r c) (aJ r d)=aJ r c:=by omega
    rw[hm]
    exact qp r c aa
theorem Hq (h:ByteArray) (p:Int) (path q:ByteArray) (hq:Bool) (hh:h.size≤200) (hp:path.size≤1048576) (hqs:q.size≤200) (k:Nat) (hk:80000000<k):bn.j3 (k+1) h p path q hq=some (uG h p (kg path) q hq):=by
  simp only[bn.j3]
  rw[uj path hp k aa,aj,AQ h p _ q hq aa (zn _) hqs k hk,aj]
  unfold uG
  split <;> rfl
theorem Hr (h:ByteArray) (p:Int) (path q:ByteArray) (hq:Bool) (hh:h.size≤200) (hp:path.size≤1048576) (hqs:q.size≤200) (k:Nat) (hk:80000000<k):bn.j2 (k+2) h p path q hq=some (uG h p (if path.size=0 then(⟨#[47]⟩:af) else kg path) q hq):=by
  simp only[bn.j2]
  by_cases c:path.size=0
  · rw[if_pos ((iB path).2 c),if_pos c,Hq h p _ q hq hh ak hqs k hk,Gf]
  · rw[if_neg (fun z=>c ((iB path).1 z)),if_neg c]
    exact Hq h p path q hq hh hp hqs k hk
theorem IY (s:ByteArray) (hs:s.size≤200) (h7:7≤s.size) (hv:nH s=true) (k:Nat) (hk:80000000<k):bn.j0 (k+4) s false=some (xO (s.extract 7 s.size)):=by
  have hr:=iJ s 7 s.size hs
  have hvis:nH (s.extract 7 s.size)=true:=by
    unfold nH
    rw[su]
    intro m hm
    rw[size_extract] at hm
    rw[fD _ _ _ _ aa aa aa,show(((7:Nat):Int)+(m:Int))=((7+m:Nat):Int) by omega]
    exact aT (Kq hv (7+m) aa)
  generalize hg:s.extract 7 s.size=r at hr hvis
  have h1:=jB r 63
  have h2:=jB (az r 63) 47
  have h3:=jB (az (az r 63) 47) 58
  have a1:=fJ r 63
  have a2:=fJ (az r 63) 47
  have a3:=fJ (az (az r 63) 47) 58
  have b1:=fJ r 47
  have hmin:=Kz r 47 63
  have hauth:az (az r 63) 47=r.extract 0 (min (aJ r 47) (aJ r 63)):=by
    show(az r 63).extract 0 (aJ (az r 63) 47)=_
    rw[hmin]
    unfold az
    rw[sU _ _ _ _ _ aa]
    simp only[Nat.zero_add]
  have hany:strings_IndexAny.f r (⟨#[47,63]⟩:af)=some (if min (aJ r 47) (aJ r 63)<r.size then((min (aJ r 47) (aJ r 63):Nat):Int) else -1):=by
    unfold strings_IndexAny.f
    have hl:(⟨#[47,63]⟩:af).data.toList = [47,63]:=rfl
    rw[hl,if_neg (fun q=>absurd q.1 ak),if_pos ⟨Or.inl rfl,BP hvis,by omega⟩,vI r 47 63]
    rfl
  have hmid:bn.j1 (k+3) r ((min (aJ r 47) (aJ r 63):Nat):Int)=some (xO r):=by
    simp only[bn.j1]
    rw[if_pos aa,if_pos aa,Int.toNat_natCast,← hauth]
    have hc:=zf (az (az r 63) 47) aa 58
    have h58:((58:UInt8).toNat:Int)=58:=rfl
    rw[h58] at hc
    rw[hc,aj]
    have hbz:(r.extract (min (aJ r 47) (aJ r 63)) r.size).size=r.size-min (aJ r 47) (aJ r 63):=by rw[size_extract];omega
    have hp:=zf (r.extract (min (aJ r 47) (aJ r 63)) r.size) aa 63
    have h63:((63:UInt8).toNat:Int)=63:=rfl
    rw[h63] at hp
    have hpos:aJ (r.extract (min (aJ r 47) (aJ r 63)) r.size) 63=aJ r 63-min (aJ r 47) (aJ r 63):=by
      have e:∀ m:Nat,m<r.size-min (aJ r 47) (aJ r 63)→bt (r.extract (min (aJ r 47) (aJ r 63)) r.size) (m:Int)=bt r ((min (aJ r 47) (aJ r 63)+m:Nat):Int):=by
        intro m hm
        rw[fD _ _ _ _ aa aa (Nat.le_refl _)]
        congr 1
      apply mY
      · omega
      · intro m hm
        rw[e m aa]
        exact o9 r 63 _ aa
      · intro h
        rw[e _ aa,show min (aJ r 47) (aJ r 63)+(aJ r 63-min (aJ r 47) (aJ r 63))=aJ r 63 by omega]
        exact qp r 63 aa
    have hpath:(az r 63).extract (az (az r 63) 47).size (az r 63).size=(r.extract (min (aJ r 47) (aJ r 63)) r.size).extract 0 (aJ r 63-min (aJ r 47) (aJ r 63)):=by
      rw[h2,h1,hmin]
      unfold az
      rw[sU _ _ _ _ _ aa,sU _ _ _ _ _ aa]
      exact extract_congr r aa aa
    have hread:pJ.f (r.extract (min (aJ r 47) (aJ r 63)) r.size)=some ((⟨#[]⟩:af),0,(az r 63).extract (az (az r 63) 47).size (az r 63).size,(if aJ r 63<r.size then r.extract (aJ r 63+1) r.size else(⟨#[]⟩:af)),decide (aJ r 63<r.size)):=by
      unfold pJ.f
      rw[hp,aj,hpos]
      by_cases c:aJ r 63<r.size
      · rw[if_pos aa,if_pos c,aT c,hpath]
        dsimp only
        have he:(r.extract (min (aJ r 47) (aJ r 63)) r.size).extract (aJ r 63-min (aJ r 47) (aJ r 63)+1) (r.extract (min (aJ r 47) (aJ r 63)) r.size).size=r.extract (aJ r 63+1) r.size:=by
          rw[hbz,sU _ _ _ _ _ aa]
          exact extract_congr r aa aa
        rw[he]
      · rw[if_neg aa,if_neg c,aN c,hpath]
        dsimp only
        have he:(r.extract (min (aJ r 47) (aJ r 63)) r.size).extract 0 (aJ r 63-min (aJ r 47) (aJ r 63))=r.extract (min (aJ r 47) (aJ r 63)) r.size:=by
          rw[show aJ r 63-min (aJ r 47) (aJ r 63)=(r.extract (min (aJ r 47) (aJ r 63)) r.size).size by omega]
          exact extract_all _
        rw[he]
    have hpv:(if((az r 63).extract (az (az r 63) 47).size (az r 63).size).size=0 then(⟨#[47]⟩:af) else kg ((az r 63).extract (az (az r 63) 47).size (az r 63).size))=BS (az r 63) (az (az r 63) 47).size:=by
      unfold BS
      by_cases c:(az (az r 63) 47).size<(az r 63).size
      · rw[if_pos c,if_neg (by rw[size_extract];omega)]
      · rw[if_neg c,if_pos (by rw[size_extract];omega)]
    have hqz:(if aJ r 63<r.size then r.extract (aJ r 63+1) r.size else(⟨#[]⟩:af)).size≤200:=by
      split
      · exact iJ _ _ _ hr
      · exact Nat.zero_le _
    have hpz:((az r 63).extract (az (az r 63) 47).size (az r 63).size).size≤1048576:=by rw[size_extract];omega
    rw[hread,aj]
    unfold xO
    by_cases c:aJ (az (az r 63) 47) 58<(az (az r 63) 47).size
    · have hf:mI.f ((az (az r 63) 47).extract 0 (aJ (az (az r 63) 47) 58))=some (iN (az (az (az r 63) 47) 58)):=if_pos (by rw[size_extract];omega)
      have hfs:=uH (az (az (az r 63) 47) 58)
      have hdec:nP.f ((az (az r 63) 47).extract (aJ (az (az r 63) 47) 58+1) (az (az r 63) 47).size)=some (lC ((az (az r 63) 47).extract (aJ (az (az r 63) 47) 58+1) (az (az r 63) 47).size)):=if_pos (by rw[size_extract];omega)
      rw[if_pos c,if_pos c]
      dsimp only
      rw[hf,aj,if_pos rfl,hdec,aj]
      cases hd:(lC ((az (az r 63) 47).extract (aJ (az (az r 63) 47) 58+1) (az (az r 63) 47).size)).2 with
      |true=>
        rw[if_pos rfl,if_pos rfl,Hr _ _ _ _ _ aa hpz hqz k hk,hpv]
      |false=>
        rw[if_neg ak,if_neg ak];rfl
    · have hself:az (az (az r 63) 47) 58=az (az r 63) 47:=(qy _ _).2 aa
      have hf:mI.f (az (az r 63) 47)=some (iN (az (az r 63) 47)):=if_pos aa
      have hfs:=uH (az (az r 63) 47)
      rw[if_neg c,if_neg c,hself]
      dsimp only
      rw[hf,aj,if_neg ak,Hr _ _ _ _ _ aa hpz hqz k hk,hpv]
  simp only[bn.j0]
  rw[if_neg ak,if_pos aa,hg,hany,aj]
  by_cases c:min (aJ r 47) (aJ r 63)<r.size
  · rw[if_pos c,if_neg aa]
    exact hmid
  · rw[if_neg c,if_pos ak,show(r.size:Int)=((min (aJ r 47) (aJ r 63):Nat):Int) by omega]
    exact hmid
theorem yw (s:ByteArray) (hs:s.size≤1048576) (k:Nat) (hk:80000010<k):bn.f k s=some (fE s):=by
  obtain⟨k,rfl⟩:∃ q,k=q+4:=⟨k-4,by omega⟩
  have no:bn.j0 (k+4) s true=some BR:=by simp only[bn.j0];rfl
  unfold bn.f fE
  by_cases c1:s.size≤200
  case neg=>rw[if_pos aa,no,if_neg (fun q=>c1 q.1)]
  rw[if_neg aa,kK s hs (k+4) aa,aj]
  cases c3:nH s with
  |false=>rw[if_neg ak,no,if_neg (fun q=>by cases q.2.2.1)]
  |true=>
    have hc:=rF s 35
    have h35:((35:UInt8).toNat:Int)=35:=rfl
    rw[h35] at hc
    have hle:=fJ s 35
    rw[if_pos rfl,hc,aj]
    by_cases c4:aJ s 35=s.size
    case neg=>rw[aT aa,if_pos rfl,no,if_neg (fun q=>c4 q.2.2.2.1)]
    rw[aN aa,if_neg ak]
    by_cases c2:7≤s.size
    case neg=>rw[if_pos aa,no,if_neg (fun q=>c2 q.2.1)]
    have hf:mI.f (s.extract 0 7)=some (iN (s.extract 0 7)):=if_pos (by rw[size_extract];omega)
    rw[if_neg aa,if_pos ak,if_pos aa,hf,aj]
    by_cases c5:(iN (s.extract 0 7)).toList=Ho
    · have:((iN (s.extract 0 7)).toList != ([104,116,116,112,58,47,47]:List UInt8))=false:=bne_eq_false_iff_eq.2 c5
      rw[this,if_pos ⟨c1,c2,rfl,c4,c5⟩]
      exact IY s c1 c2 c3 k aa
    · have:((iN (s.extract 0 7)).toList != ([104,116,116,112,58,47,47]:List UInt8))=true:=bne_iff_ne.2 c5
      rw[this,no,if_neg (fun q=>c5 q.2.2.2.2)]
theorem uk (s:ByteArray) (h:(fE s).2.2.2.2.2=true):AP (fE s).1 (fE s).2.1 (fE s).2.2.1 (fE s).2.2.2.1 (fE s).2.2.2.2.1=true:=by
  have key:∀(a:ByteArray) (b:Int) (c d:ByteArray) (e:Bool),(uG a b c d e).2.2.2.2.2=true→AP (uG a b c d e).1 (uG a b c d e).2.1 (uG a b c d e).2.2.1 (uG a b c d e).2.2.2.1 (uG a b c d e).2.2.2.2.1=true:=by
    intro a b c d e h
    unfold uG at h ⊢
    by_cases q:AP a b c d e=true
    · rw[if_pos q];exact q
    · rw[if_neg q] at h;cases h
  unfold fE at h ⊢
  split at h
  · rename_i hc
    rw[if_pos hc]
    unfold xO at h ⊢
    split at h
    · rename_i h1
      rw[if_pos h1]
      split at h
      · rename_i h2
        rw[if_pos h2]
        exact key _ _ _ _ _ h
      · cases h
    · rename_i h1
      rw[if_neg h1]
      exact key _ _ _ _ _ h
  · cases h
theorem zo {h:ByteArray} {p:Int} {path q:ByteArray} {hq:Bool} (hv:AP h p path q hq=true):1≤p∧p≤65535∧h.size≤200∧path.size≤200∧q.size≤200:=by
  unfold AP at hv
  simp only[Bool.and_eq_true,decide_eq_true_eq,Bool.or_eq_true] at hv
  obtain⟨a,b,c,d,e,f,g,i⟩:=hv
  unfold zm at i
  rw[ByteArray.size_append,ByteArray.size_append,ByteArray.size_append,ByteArray.size_append] at i
  refine⟨b.1,b.2,by omega,by omega,?_⟩
  rcases e with e|e
  · have:(sD q hq).size=1+q.size:=by unfold sD;rw[if_pos e,ByteArray.size_append];rfl
    omega
  · omega
def sF (s:ByteArray):ByteArray×Bool:=if(fE s).2.2.2.2.2=true then(zm (fE s).1 (fE s).2.1 (fE s).2.2.1 (fE s).2.2.2.1 (fE s).2.2.2.2.1,true) else((⟨#[]⟩:af),false)
theorem AR (s:ByteArray) (hs:s.size≤1048576) (k:Nat) (hk:80000010<k):qf.f k s=some (sF s):=by
  unfold qf.f sF
  rw[yu s hs k hk,aj]
  cases h:(fE s).2.2.2.2.2 with
  |false=>rfl
  |true=>
    have hv:=uk s h
    obtain⟨a,b,c,d,e⟩:=zo hv
    rw[if_pos rfl,if_pos rfl]
    unfold qQ.f
    rw[pI _ _ _ _ _ aa aa e k aa,aj,hv,if_pos rfl,vJ _ _ _ _ _ aa aa aa aa aa k aa]
    rfl
theorem AU (s:ByteArray) (hs:s.size≤1048576) (k:Nat) (hk:80000010<k):qg.f k s=some (sF s):=by
  unfold qg.f sF
  rw[yw s hs k hk,aj]
  cases h:(fE s).2.2.2.2.2 with
  |false=>rfl
  |true=>
    have hv:=uk s h
    obtain⟨a,b,c,d,e⟩:=zo hv
    rw[if_pos rfl,if_pos rfl,vK _ _ _ _ _ aa aa aa aa aa]
    rfl
def uI (s:ByteArray):Bool:=(sF s).2&&((sF s).1.toList==s.toList)
theorem AV (s:ByteArray) (hs:s.size≤1048576) (k:Nat) (hk:80000010<k):nD.f k s=some (uI s):=by
  unfold nD.f uI
  rw[AR s hs k hk,aj]
  cases(sF s).2 <;> rfl
theorem AX (s:ByteArray) (hs:s.size≤1048576) (k:Nat) (hk:80000010<k):jJ.f k s=some (uI s):=by
  unfold jJ.f uI
  rw[AU s hs k hk,aj]
  cases(sF s).2 <;> rfl

end Go.Proofs.YtfhllanhldbkkaaGreatDoor.P
end

section
/- Plain laws of our own (FieldEq): about numbers and lists alone; no condition beyond those written. -/
namespace Go.Proofs.YtfhllanhldbkkaaGreatDoor.P
open Go.RowKit Go.Proofs.YtfhllanhldbkkaaGreatDoorW.ax Go.Proofs.YtfhllanhldbkkaaGreatDoorW.aD Go.Proofs.YtfhllanhldbkkaaGreatDoorW.aH
set_option linter.unusedVariables false
set_option linter.unusedSimpArgs false
set_option maxHeartbeats 2000000
theorem zt : ∀(d k:Nat) (l:List nV) (i:Int),0≤i→(l.length:Int)-i=d→l.length≤281474976710656→d<k→dM.l0 k l l i=some true:=by
  intro d
  induction d with
  |zero=>
    intro k l i h0 hd hl hk
    obtain⟨k,rfl⟩:∃ m,k=m+1:=⟨k-1,by omega⟩
    simp only[dM.l0]
    rw[if_neg aa]
  |succ d ih=>
    intro k l i h0 hd hl hk
    obtain⟨k,rfl⟩:∃ m,k=m+1:=⟨k-1,by omega⟩
    simp only[dM.l0]
    rw[if_pos aa,if_pos h0,if_pos aa,show mi.f (bg l i).f0 (bg l i).f1 (bg l i).f0 (bg l i).f1=some true by unfold mi.f;simp,aj,if_pos rfl,au aa aa]
    exact ih k l (i+1) aa aa hl aa
theorem sG (k:Nat) (l:List nV) (hl:l.length≤281474976710656) (hk:l.length<k):dM.f k l l=some true:=by
  unfold dM.f
  rw[if_pos rfl]
  exact zt l.length k l 0 aa aa hl hk

end Go.Proofs.YtfhllanhldbkkaaGreatDoor.P
end

section
/- Plain laws of our own (Values): about numbers and lists alone; no condition beyond those written. -/
namespace Go.Proofs.YtfhllanhldbkkaaGreatDoor.P
open Go.RowKit Go.Proofs.YtfhllanhldbkkaaGreatDoorW.ax Go.Proofs.YtfhllanhldbkkaaGreatDoorW.aD Go.Proofs.YtfhllanhldbkkaaGreatDoorW.aH
set_option linter.unusedVariables false
set_option linter.unusedSimpArgs false
set_option maxHeartbeats 2000000
def jW (l:List aW) (a:ByteArray):Nat→Nat→List ByteArray→List ByteArray
  |0,_,out=>out
  |d+1,i,out=>jW l a d (i+1) (if iO (bg l (i:Int)).f0 a=true then out ++ [(bg l (i:Int)).f1] else out)
theorem IZ (l:List aW) (a:ByteArray) (ha:a.size≤140737488351232) (hok:bQ l=true):∀(d k i:Nat) (out:List ByteArray),i≤l.length→l.length-i=d→out.length≤i→d<k→
    iw.l0 k a out l (l.length:Int) (i:Int)=some (jW l a d i out):=by
  have hl:=dL hok
  intro d
  induction d with
  |zero=>
    intro k i out h1 hd ho hk
    obtain⟨k,rfl⟩:∃ m,k=m+1:=⟨k-1,by omega⟩
    simp only[iw.l0]
    rw[if_neg aa]
    rfl
  |succ d ih=>
    intro k i out h1 hd ho hk
    obtain⟨k,rfl⟩:∃ m,k=m+1:=⟨k-1,by omega⟩
    have hn:=mX hok i aa
    have hw:wrap64 ((i:Int)+1)=((i+1:Nat):Int):=by rw[au aa aa];omega
    simp only[iw.l0,jW]
    rw[if_pos aa,if_pos aa,if_pos aa,wZ _ a aa aa,aj,hw]
    by_cases hb:iO (bg l (i:Int)).f0 a=true
    · rw[if_pos hb,if_pos hb,if_pos aa]
      exact ih k (i+1) _ aa aa (by simp;omega) aa
    · rw[if_neg hb,if_neg hb]
      exact ih k (i+1) out aa aa aa aa
theorem I1 (l:List aW) (a:ByteArray) (ha:a.size≤140737488351232) (hok:bQ l=true):∀(d k i:Nat) (out:List ByteArray),i≤l.length→l.length-i=d→out.length≤i→d<k→
    iH.l0 k l a out (i:Int)=some (jW l a d i out):=by
  have hl:=dL hok
  intro d
  induction d with
  |zero=>
    intro k i out h1 hd ho hk
    obtain⟨k,rfl⟩:∃ m,k=m+1:=⟨k-1,by omega⟩
    simp only[iH.l0]
    rw[if_neg aa]
    rfl
  |succ d ih=>
    intro k i out h1 hd ho hk
    obtain⟨k,rfl⟩:∃ m,k=m+1:=⟨k-1,by omega⟩
    have hn:=mX hok i aa
    have hw:wrap64 ((i:Int)+1)=((i+1:Nat):Int):=by rw[au aa aa];omega
    simp only[iH.l0,jW]
    rw[if_pos aa,if_pos aa,xc _ a aa aa,aj,hw]
    by_cases hb:iO (bg l (i:Int)).f0 a=true
    · rw[if_pos hb,if_pos hb,if_pos aa]
      exact ih k (i+1) _ aa aa (by simp;omega) aa
    · rw[if_neg hb,if_neg hb]
      exact ih k (i+1) out aa aa aa aa
def valuesOf (l:List aW) (a:ByteArray):List ByteArray:=if bQ l=true then jW l a l.length 0 [] else []
theorem sH (l:List aW) (a:ByteArray) (ha:a.size≤140737488351232) (k:Nat) (hk:6000<k):iw.f k l a=some (valuesOf l a):=by
  unfold iw.f valuesOf
  rw[mG l k hk,aj]
  by_cases h:bQ l=true
  · have:=dL h
    rw[if_pos h,if_pos h]
    exact IZ l a ha h l.length k 0 [] (Nat.zero_le _) aa (Nat.le_refl _) aa
  · rw[if_neg h,if_neg h]
theorem zu (l:List aW) (a:ByteArray) (ha:a.size≤140737488351232) (k:Nat) (hk:6000<k):iH.f k l a=some (valuesOf l a):=by
  unfold iH.f valuesOf
  rw[mH l k hk,aj]
  by_cases h:bQ l=true
  · have:=dL h
    rw[if_pos h,if_pos h]
    exact I1 l a ha h l.length k 0 [] (Nat.zero_le _) aa (Nat.le_refl _) aa
  · rw[if_neg h,if_neg h]

end Go.Proofs.YtfhllanhldbkkaaGreatDoor.P
end

section
/- Plain laws of our own (Joined): about numbers and lists alone; no condition beyond those written. -/
namespace Go.Proofs.YtfhllanhldbkkaaGreatDoor.P
open Go.RowKit Go.Proofs.YtfhllanhldbkkaaGreatDoorW.ax Go.Proofs.YtfhllanhldbkkaaGreatDoorW.aD Go.Proofs.YtfhllanhldbkkaaGreatDoorW.aH
set_option linter.unusedVariables false
set_option linter.unusedSimpArgs false
set_option maxHeartbeats 2000000
theorem zw (l:List aW) (a:ByteArray) (hok:bQ l=true):∀ d i out,i+d≤l.length→(∀ x∈out,x.size≤190)→∀ x∈jW l a d i out,x.size≤190:=by
  intro d
  induction d with
  |zero=>intro i out _ h;exact h
  |succ d ih=>
    intro i out hi h
    simp only[jW]
    refine ih (i+1) _ aa ?_
    split
    · intro x hx
      rcases List.mem_append.mp hx with h1|h1
      · exact h x h1
      · obtain rfl:=List.mem_singleton.mp h1
        exact(mX hok i aa).2
    · exact h
theorem zx (l:List aW) (a:ByteArray):∀ x∈valuesOf l a,x.size≤190:=by
  unfold valuesOf
  split
  · rename_i h
    exact zw l a h l.length 0 [] aa (fun x hx=>by cases hx)
  · intro x hx;cases hx
end Go.Proofs.YtfhllanhldbkkaaGreatDoor.P
end

section
/- Plain laws of our own (Words): about numbers and lists alone; no condition beyond those written. -/
namespace Go.Proofs.YtfhllanhldbkkaaGreatDoor.P
open Go.RowKit Go.Proofs.YtfhllanhldbkkaaGreatDoorW.ax Go.Proofs.YtfhllanhldbkkaaGreatDoorW.aD Go.Proofs.YtfhllanhldbkkaaGreatDoorW.aH
set_option linter.unusedVariables false
set_option linter.unusedSimpArgs false
set_option maxHeartbeats 2000000
end Go.Proofs.YtfhllanhldbkkaaGreatDoor.P
end

section
/- Plain laws of our own (Framing): about numbers and lists alone; no condition beyond those written. -/
namespace Go.Proofs.YtfhllanhldbkkaaGreatDoor.P
open Go.RowKit Go.Proofs.YtfhllanhldbkkaaGreatDoorW.ax Go.Proofs.YtfhllanhldbkkaaGreatDoorW.aD Go.Proofs.YtfhllanhldbkkaaGreatDoorW.aH
set_option linter.unusedVariables false
set_option linter.unusedSimpArgs false
set_option maxHeartbeats 2000000
theorem KA {l:List ByteArray} {i:Nat} (h:i<l.length):cZ ByteArray.empty l (i:Int)∈l:=by
  unfold cZ
  rw[Int.toNat_natCast,List.getD_eq_getElem?_getD,List.getElem?_eq_getElem h]
  exact List.getElem_mem h
def BV : ByteArray:=(⟨#[99,111,110,116,101,110,116,45,108,101,110,103,116,104]⟩:af)
def BX : ByteArray:=(⟨#[116,114,97,110,115,102,101,114,45,101,110,99,111,100,105,110,103]⟩:af)
def hasB (l:List aW) (a:ByteArray):Bool:=decide (0<(valuesOf l a).length)
theorem sI (l:List aW) (a:ByteArray) (ha:a.size≤140737488351232) (k:Nat) (hk:6000<k):oP.f k l a=some (hasB l a):=by
  unfold oP.f hasB
  rw[sH l a ha k hk,aj]
  congr 1
  exact decide_eq_decide.2 aa
end Go.Proofs.YtfhllanhldbkkaaGreatDoor.P
end

section
/- Plain laws of our own (WithoutS): about numbers and lists alone; no condition beyond those written. -/
namespace Go.Proofs.YtfhllanhldbkkaaGreatDoor.P
open Go.RowKit Go.Proofs.YtfhllanhldbkkaaGreatDoorW.ax Go.Proofs.YtfhllanhldbkkaaGreatDoorW.aD Go.Proofs.YtfhllanhldbkkaaGreatDoorW.aH
set_option linter.unusedVariables false
set_option linter.unusedSimpArgs false
set_option maxHeartbeats 2000000
-- the reference's side alone (Without.lean has both: use one of them in a seat)
end Go.Proofs.YtfhllanhldbkkaaGreatDoor.P
end

section
/- Plain laws of our own (KeptF): about numbers and lists alone; no condition beyond those written. -/
namespace Go.Proofs.YtfhllanhldbkkaaGreatDoor.P
open Go.RowKit Go.Proofs.YtfhllanhldbkkaaGreatDoorW.ax Go.Proofs.YtfhllanhldbkkaaGreatDoorW.aD Go.Proofs.YtfhllanhldbkkaaGreatDoorW.aH
set_option linter.unusedVariables false
set_option linter.unusedSimpArgs false
set_option maxHeartbeats 2000000
def BZ : ByteArray:=(⟨#[116,114,97,105,108,101,114]⟩:af)
def Rw (n:ByteArray):Bool:=(iN n).toList==([99,111,110,116,101,110,116,45,108,101,110,103,116,104]:List UInt8)||((iN n).toList==([116,114,97,110,115,102,101,114,45,101,110,99,111,100,105,110,103]:List UInt8)||(iN n).toList==([116,114,97,105,108,101,114]:List UInt8))
theorem vL (l:List aW):bQ l=true↔l.length≤20∧∀ f∈l,kH f.f0 f.f1=true:=by
  have back:∀(d i:Nat),i+d=l.length→(∀ f∈l,kH f.f0 f.f1=true)→mE (fun i=>kH (bg l i).f0 (bg l i).f1) d (i:Int)=true:=by
    intro d
    induction d with
    |zero=>intro i _ _;rfl
    |succ d ih=>
      intro i hi hf
      have hlt:i<l.length:=by omega
      have e:bg l (i:Int)=l[i]:=by
        unfold bg
        rw[Int.toNat_natCast,List.getD_eq_getElem?_getD,List.getElem?_eq_getElem hlt]
        rfl
      simp only[mE]
      rw[e,hf _ (List.getElem_mem hlt),Bool.true_and]
      exact ih (i+1) aa hf
  constructor
  · intro h
    refine⟨dL h,fun f hf=>?_⟩
    obtain⟨j,hj,rfl⟩:=List.getElem_of_mem hf
    unfold bQ at h
    have h2:=Hf _ _ (Bool.and_eq_true_iff.1 h).2 j hj
    rw[Int.zero_add] at h2
    have e:bg l (j:Int)=l[j]:=by
      unfold bg
      rw[Int.toNat_natCast,List.getD_eq_getElem?_getD,List.getElem?_eq_getElem hj]
      rfl
    rw[e] at h2
    exact h2
  · intro h
    unfold bQ
    rw[aT h.1,Bool.true_and]
    exact back l.length 0 aa h.2
theorem NC : (iN BV).toList=([99,111,110,116,101,110,116,45,108,101,110,103,116,104]:List UInt8):=by decide +kernel
theorem ND : (iN BX).toList=([116,114,97,110,115,102,101,114,45,101,110,99,111,100,105,110,103]:List UInt8):=by decide +kernel
theorem NF : (iN BZ).toList=([116,114,97,105,108,101,114]:List UInt8):=by decide +kernel
end Go.Proofs.YtfhllanhldbkkaaGreatDoor.P
end

section
/- Plain laws of our own (MsgOk): about numbers and lists alone; no condition beyond those written. -/
namespace Go.Proofs.YtfhllanhldbkkaaGreatDoor.P
open Go.RowKit Go.Proofs.YtfhllanhldbkkaaGreatDoorW.ax Go.Proofs.YtfhllanhldbkkaaGreatDoorW.aD Go.Proofs.YtfhllanhldbkkaaGreatDoorW.aH
set_option linter.unusedVariables false
set_option linter.unusedSimpArgs false
set_option maxHeartbeats 2000000
theorem yx (l:List aW) (a:ByteArray):∀(d i:Nat) (out:List ByteArray),i≤l.length→l.length-i=d→jW l a d i out=out++((l.drop i).filter (fun f=>iO f.f0 a)).map (fun f=>f.f1):=by
  intro d
  induction d with
  |zero=>
    intro i out h0 hd
    rw[List.drop_of_length_le aa]
    simp[jW]
  |succ d ih=>
    intro i out h0 hd
    have hi:i<l.length:=by omega
    have e:bg l (i:Int)=l[i]:=by
      unfold bg
      rw[Int.toNat_natCast,List.getD_eq_getElem?_getD,List.getElem?_eq_getElem hi]
      rfl
    simp only[jW]
    rw[ih (i+1) _ aa aa,List.drop_eq_getElem_cons hi,List.filter_cons,e]
    cases hb:iO l[i].f0 a with
    |true=>simp
    |false=>simp
theorem KC {l:List aW} (h:bQ l=true) (a:ByteArray):hasB l a=l.any (fun f=>iO f.f0 a):=by
  unfold hasB valuesOf
  rw[if_pos h,yx l a l.length 0 [] (Nat.zero_le _) aa]
  simp only[List.nil_append,List.length_map,List.drop_zero]
  cases ha:l.any (fun f=>iO f.f0 a) with
  |true=>
    obtain⟨f,hf,hs⟩:=List.any_eq_true.1 ha
    exact aT (List.length_pos_of_mem (List.mem_filter.2 ⟨hf,hs⟩))
  |false=>
    have:l.filter (fun f=>iO f.f0 a) = []:=List.filter_eq_nil_iff.2 (fun f hf hs=>by
      have:=List.any_eq_false.1 ha f hf
      exact this hs)
    rw[this];rfl
theorem WR (l:List aW):l.any (fun f=>Rw f.f0)=(l.any (fun f=>iO f.f0 BV)||(l.any (fun f=>iO f.f0 BX)||l.any (fun f=>iO f.f0 BZ))):=by
  induction l with
  |nil=>rfl
  |cons f l ih=>
    simp only[List.any_cons,ih]
    have e:Rw f.f0=(iO f.f0 BV||(iO f.f0 BX||iO f.f0 BZ)):=by
      unfold Rw iO
      rw[NC,ND,NF]
    rw[e]
    cases iO f.f0 BV <;> cases iO f.f0 BX <;> cases iO f.f0 BZ <;> simp
theorem xw (l:List aW) (hok:bQ l=true):∀(d i:Nat),i≤l.length→l.length-i=d→∀ k,d<k→gK.l0 k l (i:Int)=some ((l.drop i).any (fun f=>Rw f.f0)):=by
  have hl:=dL hok
  intro d
  induction d with
  |zero=>
    intro i h0 hd k hk
    obtain⟨k,rfl⟩:=aQ k aa
    rw[List.drop_of_length_le aa]
    simp only[gK.l0]
    rw[if_neg aa]
    rfl
  |succ d ih=>
    intro i h0 hd k hk
    obtain⟨k,rfl⟩:=aQ k aa
    have hi:i<l.length:=by omega
    have hn:=mX hok i hi
    have hwi:=bX i aa
    have e:bg l (i:Int)=l[i]:=by
      unfold bg
      rw[Int.toNat_natCast,List.getD_eq_getElem?_getD,List.getElem?_eq_getElem hi]
      rfl
    rw[e] at hn
    simp only[gK.l0]
    unfold lq.f
    rw[if_pos aa,if_pos aa,e,if_pos aa,aj,hwi,List.drop_eq_getElem_cons hi,List.any_cons]
    unfold Rw
    by_cases h1:(iN l[i].f0).toList=([99,111,110,116,101,110,116,45,108,101,110,103,116,104]:List UInt8)
    · rw[if_pos h1,h1];rfl
    · rw[if_neg h1,beq_eq_false_iff_ne.2 h1]
      by_cases h2:(iN l[i].f0).toList=([116,114,97,110,115,102,101,114,45,101,110,99,111,100,105,110,103]:List UInt8)
      · rw[if_pos h2,h2];rfl
      · rw[if_neg h2,beq_eq_false_iff_ne.2 h2]
        by_cases h3:(iN l[i].f0).toList=([116,114,97,105,108,101,114]:List UInt8)
        · rw[if_pos h3,h3];rfl
        · rw[if_neg h3,beq_eq_false_iff_ne.2 h3,ih (i+1) aa aa k aa]
          rfl
def uJ : List aW→Nat
  |[]=>0
  |f::l=>f.f0.size+f.f1.size+4+uJ l
def Dk (m0 m1:ByteArray) (m2:Int) (m3:ByteArray):Nat:=if m0.toList=([]:List UInt8) then 9+(gY m2).size+1+m3.size+2 else m0.size+1+m1.size+11
def zy (m0 m1:ByteArray) (m2:Int) (m3:ByteArray) (m4:Bool) (l:List aW) (m6:ByteArray):Nat:=Dk m0 m1 m2 m3+uJ l+(if nE m0 m4 m6=true then 16+(gY (m6.size:Int)).size+2 else 0)+2
theorem vM : ∀(l:List aW) (t:ByteArray),(Ai t l).size=t.size+uJ l
  |[],t=>rfl
  |f::l,t=>by
    have h1:=vM l (t++Dl f)
    have h2:(Dl f).size=f.f0.size+f.f1.size+4:=by
      unfold Dl
      simp only[cK]
      show f.f0.size+2+f.f1.size+2=_
      omega
    rw[cK] at h1
    show(Ai (t++Dl f) l).size=t.size+(f.f0.size+f.f1.size+4+uJ l)
    omega
theorem Gh (m0 m1:ByteArray) (m2:Int) (m3:ByteArray) (m4:Bool) (l:List aW) (m6:ByteArray):(Et m0 m1 m2 m3 m4 l m6).size=zy m0 m1 m2 m3 m4 l m6:=by
  have h1:(firstT m0 m1 m2 m3).size=Dk m0 m1 m2 m3:=by
    unfold firstT Dk
    split
    · simp only[cK];rfl
    · simp only[cK];rfl
  have h2:(Ju m6).size=16+(gY (m6.size:Int)).size+2:=by
    unfold Ju
    simp only[cK];rfl
  have h3:=vM l ((⟨#[]⟩:af)++firstT m0 m1 m2 m3)
  rw[cK,h1] at h3
  have h4:(⟨#[]⟩:af).size=0:=rfl
  have h5:(⟨#[13,10]⟩:af).size=2:=rfl
  unfold Et zy
  simp only
  rw[cK,h5]
  split
  · rw[cK,h2];omega
  · omega
theorem sJ {l:List aW} (h:bQ l=true):∀ f∈l,f.f0.size≤40∧f.f1.size≤190:=by
  intro f hf
  have:=((vL l).1 h).2 f hf
  unfold kH at this
  simp only[Bool.and_eq_true,decide_eq_true_eq] at this
  exact⟨this.1,this.2.2.1⟩
theorem yN : (⟨#[13,10]⟩:af).size=2:=rfl
theorem KD : (⟨#[67,111,110,116,101,110,116,45,76,101,110,103,116,104,58,32]⟩:af).size=16:=rfl
theorem NG : (⟨#[58,32]⟩:af).size=2:=rfl
theorem I4 (t d:ByteArray) (ht:t.size≤2000000) (hd:d.size≤21) (o:Option ByteArray) (ho:o=some d):∃ r:ByteArray,
    (if t.size+16≤9223372036854775807 then(o.bind fun KE=>(if(t++(⟨#[67,111,110,116,101,110,116,45,76,101,110,103,116,104,58,32]⟩:af)).size+KE.size≤9223372036854775807 then(if((t++(⟨#[67,111,110,116,101,110,116,45,76,101,110,103,116,104,58,32]⟩:af))++KE).size+2≤9223372036854775807 then(if(((t++(⟨#[67,111,110,116,101,110,116,45,76,101,110,103,116,104,58,32]⟩:af))++KE)++(⟨#[13,10]⟩:af)).size+2≤9223372036854775807 then(some ((((t++(⟨#[67,111,110,116,101,110,116,45,76,101,110,103,116,104,58,32]⟩:af))++KE)++(⟨#[13,10]⟩:af))++(⟨#[13,10]⟩:af))) else(none)) else(none)) else(none))) else(none))=some r∧r.size=t.size+16+d.size+2+2:=by
  have e1:(t++(⟨#[67,111,110,116,101,110,116,45,76,101,110,103,116,104,58,32]⟩:af)).size=t.size+16:=by rw[cK,KD]
  have e2:((t++(⟨#[67,111,110,116,101,110,116,45,76,101,110,103,116,104,58,32]⟩:af))++d).size=t.size+16+d.size:=by rw[cK,e1]
  have e3:(((t++(⟨#[67,111,110,116,101,110,116,45,76,101,110,103,116,104,58,32]⟩:af))++d)++(⟨#[13,10]⟩:af)).size=t.size+16+d.size+2:=by rw[cK,e2,yN]
  have e4:((((t++(⟨#[67,111,110,116,101,110,116,45,76,101,110,103,116,104,58,32]⟩:af))++d)++(⟨#[13,10]⟩:af))++(⟨#[13,10]⟩:af)).size=t.size+16+d.size+2+2:=by rw[cK,e3,yN]
  rw[ho,if_pos aa,aj,if_pos (by rw[e1];omega),if_pos (by rw[e2];omega),if_pos (by rw[e3];omega)]
  exact⟨_,rfl,e4⟩
theorem I5 (t:ByteArray) (ht:t.size≤2000000):∃ r:ByteArray,(if t.size+2≤9223372036854775807 then(some (t++(⟨#[13,10]⟩:af))) else(none))=some r∧r.size=t.size+2:=by
  rw[if_pos aa]
  exact⟨_,rfl,by rw[cK,yN]⟩
theorem Gi (t a b:ByteArray) (ht:t.size≤2000000) (ha:a.size≤40) (hb:b.size≤190) :
    a.size+2≤9223372036854775807∧(a++(⟨#[58,32]⟩:af)).size+b.size≤9223372036854775807∧t.size+((a++(⟨#[58,32]⟩:af))++b).size≤9223372036854775807∧(t++((a++(⟨#[58,32]⟩:af))++b)).size+2≤9223372036854775807∧
    ((t++((a++(⟨#[58,32]⟩:af))++b))++(⟨#[13,10]⟩:af)).size=t.size+(a.size+b.size+4):=by
  have e1:(a++(⟨#[58,32]⟩:af)).size=a.size+2:=by rw[cK,NG]
  have e2:((a++(⟨#[58,32]⟩:af))++b).size=a.size+2+b.size:=by rw[cK,e1]
  have e3:(t++((a++(⟨#[58,32]⟩:af))++b)).size=t.size+(a.size+2+b.size):=by rw[cK,e2]
  have e4:((t++((a++(⟨#[58,32]⟩:af))++b))++(⟨#[13,10]⟩:af)).size=t.size+(a.size+2+b.size)+2:=by rw[cK,e3,yN]
  rw[e1,e2,e3,e4]
  refine⟨?_,?_,?_,?_,?_⟩ <;> omega
theorem sK (m0 m1:ByteArray) (m2:Int) (m3:ByteArray) (m4:Bool) (l:List aW) (m6:ByteArray) (hok:bQ l=true) (h6:m6.size≤600):∀(d i:Nat),i≤l.length→l.length-i=d→∀(t:ByteArray),t.size≤1000000+300*i→
    ∀ k,d+5200<k→∃ r:ByteArray,dB.l0 k t (i:Int) m0 m1 m2 m3 m4 l m6=some r∧r.size=t.size+uJ (l.drop i)+(if nE m0 m4 m6=true then 16+(gY (m6.size:Int)).size+2 else 0)+2:=by
  have hl:=dL hok
  have hi21:=xX (m6.size:Int) aa aa
  intro d
  induction d with
  |zero=>
    intro i h0 hd t ht k hk
    obtain⟨k,rfl⟩:=aQ k aa
    have ht2:t.size≤2000000:=by omega
    have hdec:=gP (m6.size:Int) aa aa k aa
    rw[List.drop_of_length_le aa]
    obtain⟨ra,ha1,ha2⟩:=I4 t _ ht2 hi21 _ hdec
    obtain⟨rb,hb1,hb2⟩:=I5 t ht2
    clear ht hk hdec ht2
    simp only[dB.l0,uJ]
    rw[if_neg aa]
    by_cases e0:m0.toList=([]:List UInt8)
    · rw[if_pos e0]
      cases m4 with
      |true=>
        rw[if_pos rfl,if_neg (show ¬ nE m0 true m6=true by unfold nE;rw[if_pos e0];decide)]
        exact⟨rb,hb1,by rw[hb2]⟩
      |false=>
        rw[if_neg ak,if_pos (show nE m0 false m6=true by unfold nE;rw[if_pos e0];rfl)]
        exact⟨ra,ha1,by rw[ha2];omega⟩
    · rw[if_neg e0]
      by_cases e6:m6.toList=([]:List UInt8)
      · rw[if_pos e6,if_neg (show ¬ nE m0 m4 m6=true by unfold nE;rw[if_neg e0,e6];decide)]
        exact⟨rb,hb1,by rw[hb2]⟩
      · rw[if_neg e6,if_pos (show nE m0 m4 m6=true by unfold nE;rw[if_neg e0];exact bne_iff_ne.2 e6)]
        exact⟨ra,ha1,by rw[ha2];omega⟩
  |succ d ih=>
    intro i h0 hd t ht k hk
    obtain⟨k,rfl⟩:=aQ k aa
    have hi:i<l.length:=by omega
    have hwi:=bX i aa
    have e:bg l (i:Int)=l[i]:=by
      unfold bg
      rw[Int.toNat_natCast,List.getD_eq_getElem?_getD,List.getElem?_eq_getElem hi]
      rfl
    have hf:=((vL l).1 hok).2 l[i] (List.getElem_mem hi)
    have hs:=sJ hok l[i] (List.getElem_mem hi)
    obtain⟨q1,q2,q3,q4,q5⟩:=Gi t l[i].f0 l[i].f1 aa hs.1 hs.2
    have hft:lT.f k l[i].f0 l[i].f1=some ((l[i].f0++(⟨#[58,32]⟩:af))++l[i].f1):=by
      unfold lT.f
      rw[rE _ _ k aa,aj,if_pos hf,if_pos q1,if_pos q2]
    have hih:=ih (i+1) aa aa (((t++((l[i].f0++(⟨#[58,32]⟩:af))++l[i].f1))++(⟨#[13,10]⟩:af))) (by rw[q5];omega) k aa
    rw[q5] at hih
    obtain⟨r,hr1,hr2⟩:=hih
    clear ht hk ih
    simp only[dB.l0]
    rw[if_pos aa,if_pos aa,e,hft,aj,if_pos q3,if_pos q4,hwi]
    refine⟨r,hr1,?_⟩
    rw[hr2,List.drop_eq_getElem_cons hi]
    simp only[uJ]
    omega
theorem vN (m0 m1:ByteArray) (m2:Int) (m3:ByteArray) (m4:Bool) (l:List aW) (m6:ByteArray) (hok:bQ l=true) (h6:m6.size≤600) (h0:m0.size≤20) (h1:m1.size≤200) (h2:0≤m2∧m2≤599) (h3:m3.size≤40) (k:Nat) (hk:6000<k) :
    ∃ r:ByteArray,dB.f k m0 m1 m2 m3 m4 l m6=some r∧r.size=zy m0 m1 m2 m3 m4 l m6:=by
  have hi21:=xX m2 h2.1 aa
  have c1:(⟨#[32]⟩:af).size=1:=rfl
  have c2:(⟨#[13,10]⟩:af).size=2:=rfl
  have c9:(⟨#[72,84,84,80,47,49,46,49,32]⟩:af).size=9:=rfl
  have c11:(⟨#[32,72,84,84,80,47,49,46,49,13,10]⟩:af).size=11:=rfl
  obtain⟨k,rfl⟩:=aQ k aa
  unfold dB.f zy Dk
  rw[if_pos aa,if_pos (by rw[cK,c1];omega),if_pos (by simp only[cK,c1];omega)]
  by_cases e0:m0.toList=([]:List UInt8)
  · rw[if_pos e0,if_pos e0,gP m2 h2.1 aa (k+1) aa,aj,if_pos aa,if_pos (by simp only[cK,c9];omega),if_pos (by simp only[cK,c9,c1];omega),if_pos (by simp only[cK,c9,c1];omega)]
    simp only[dB.j0]
    obtain⟨r,hr1,hr2⟩:=sK m0 m1 m2 m3 m4 l m6 hok h6 l.length 0 (Nat.zero_le _) aa (((((⟨#[72,84,84,80,47,49,46,49,32]⟩:af)++gY m2)++(⟨#[32]⟩:af))++m3)++(⟨#[13,10]⟩:af)) (by simp only[cK,c9,c1,c2];omega) k (by have:=dL hok;omega)
    refine⟨r,hr1,?_⟩
    rw[hr2,List.drop_zero]
    simp only[cK,c9,c1,c2]
  · rw[if_neg e0,if_neg e0]
    simp only[dB.j0]
    obtain⟨r,hr1,hr2⟩:=sK m0 m1 m2 m3 m4 l m6 hok h6 l.length 0 (Nat.zero_le _) aa (((m0++(⟨#[32]⟩:af))++m1)++(⟨#[32,72,84,84,80,47,49,46,49,13,10]⟩:af)) (by simp only[cK,c1,c11];omega) k (by have:=dL hok;omega)
    refine⟨r,hr1,?_⟩
    rw[hr2,List.drop_zero]
    simp only[cK,c1,c11]
theorem vO (m0 m1:ByteArray) (m2:Int) (m3:ByteArray) (m4:Bool) (l:List aW) (m6:ByteArray) (hok:bQ l=true) (h6:m6.size≤600) (h0:m0.size≤20) (h1:m1.size≤200) (h2:0≤m2∧m2≤599) (h3:m3.size≤40) :
    ∃ r:ByteArray,iF.f m0 m1 m2 m3 m4 l m6=some r∧r.size=zy m0 m1 m2 m3 m4 l m6:=by
  have hl:=dL hok
  have hs:=sJ hok
  refine⟨Et m0 m1 m2 m3 m4 l m6,?_,Gh _ _ _ _ _ _ _⟩
  unfold iF.f
  rw[if_pos]
  exact⟨by omega,by omega,⟨h2.1,by omega⟩,by omega,by omega,by omega,fun f hf=>⟨by have:=(hs f hf).1;omega,by have:=(hs f hf).2;omega⟩⟩

end Go.Proofs.YtfhllanhldbkkaaGreatDoor.P
end

section
/- Plain laws of our own (MsgOk2): about numbers and lists alone; no condition beyond those written. -/
namespace Go.Proofs.YtfhllanhldbkkaaGreatDoor.P
open Go.RowKit Go.Proofs.YtfhllanhldbkkaaGreatDoorW.ax Go.Proofs.YtfhllanhldbkkaaGreatDoorW.aD Go.Proofs.YtfhllanhldbkkaaGreatDoorW.aH
set_option linter.unusedVariables false
set_option linter.unusedSimpArgs false
set_option maxHeartbeats 2000000
def qR (m1:ByteArray) (m2:Int) (m3:ByteArray) (m4:Bool) (m6:ByteArray):Bool:=
  decide (m1.toList=([]:List UInt8))&&(decide (200≤m2∧m2≤599)&&(decide (m3.size≤40)&&(pF m3&&(if m4=true then decide (m6.toList=([]:List UInt8)) else !(m2==204||m2==304)))))
def oz (m0 m1:ByteArray) (m2:Int) (m3:ByteArray) (m4:Bool):Bool:=Nu m0 m1&&(decide (m2=0)&&(decide (m3.toList=([]:List UInt8)) && !m4))
def uK (m0 m1:ByteArray) (m2:Int) (m3:ByteArray) (m4:Bool) (l:List aW) (m6:ByteArray):Bool:=
  bQ l&&(decide (l.length<20)&&(!(l.any fun f=>Rw f.f0)&&(decide (m6.size≤600)&&((if m0.toList=([]:List UInt8) then qR m1 m2 m3 m4 m6 else oz m0 m1 m2 m3 m4)&&decide (zy m0 m1 m2 m3 m4 l m6≤1500)))))
theorem bare_eq (n:Int):jg.f n=some (n==204||n==304):=by
  unfold jg.f
  by_cases h:n=204
  · rw[if_pos h,h];rfl
  · rw[if_neg h,beq_eq_false_iff_ne.2 h,Bool.false_or]
theorem Dm (n:Int):xP.f n=some (n==204||n==304):=bare_eq n
theorem mJ {s:ByteArray} (h:s.toList=([]:List UInt8)):s.size=0:=(toList_nil s).1 h
theorem zz (m0 m1:ByteArray) (m2:Int) (m3:ByteArray) (m4:Bool) (l:List aW) (m6:ByteArray) (k:Nat) (hk:5500<k):je.f k m0 m1 m2 m3 m4 l m6=some (qR m1 m2 m3 m4 m6):=by
  unfold je.f qR
  by_cases h1:m1.toList=([]:List UInt8)
  · rw[if_pos h1,aT h1,Bool.true_and]
    by_cases h2:m2<200
    · rw[if_pos h2,aN aa,Bool.false_and]
    · rw[if_neg h2]
      by_cases h2':m2>599
      · rw[if_pos h2',aN aa,Bool.false_and]
      · rw[if_neg h2',aT aa,Bool.true_and]
        by_cases h3:m3.size≤40
        · rw[if_neg aa,aT h3,Bool.true_and,tZ m3 aa k aa,aj]
          by_cases h4:pF m3=true
          · rw[if_pos h4,h4,Bool.true_and]
            cases m4 with
            |true=>
              rw[if_pos rfl,if_pos rfl]
              split
              · rename_i h;rw[aT h]
              · rename_i h;rw[aN h]
            |false=>rw[if_neg ak,if_neg ak,Dm,aj]
          · rw[if_neg h4];simp[h4]
        · rw[if_pos aa,aN h3,Bool.false_and]
  · rw[if_neg h1,aN h1,Bool.false_and]
theorem xx (m0 m1:ByteArray) (m2:Int) (m3:ByteArray) (m4:Bool) (l:List aW) (m6:ByteArray) (k:Nat) (hk:5500<k):iW.f k m0 m1 m2 m3 m4 l m6=some (oz m0 m1 m2 m3 m4):=by
  unfold iW.f oz Nu
  by_cases h1:m0.size≤20
  · rw[if_pos aa,aT h1,Bool.true_and,tX m0 k aa,aj]
    by_cases h2:Aw m0=true
    · rw[if_pos h2,h2,Bool.true_and]
      by_cases h3:m1.size≤200
      · rw[if_pos aa,aT h3,Bool.true_and,kL m1 aa k aa,aj]
        by_cases h4:(decide (0<m1.size)&&nH m1)=true
        · rw[if_pos h4,h4,Bool.true_and]
          by_cases h5:m2=0
          · rw[if_pos h5,aT h5,Bool.true_and]
            by_cases h6:m3.toList=([]:List UInt8)
            · rw[if_pos h6,aT h6,Bool.true_and]
            · rw[if_neg h6,aN h6,Bool.false_and]
          · rw[if_neg h5,aN h5,Bool.false_and]
        · rw[if_neg h4]
          have:(decide (0<m1.size)&&nH m1)=false:=by simpa using h4
          rw[this,Bool.false_and]
      · rw[if_neg aa,aN h3,Bool.false_and,Bool.false_and]
    · rw[if_neg h2];simp[h2]
  · rw[if_neg aa,aN h1,Bool.false_and,Bool.false_and]
theorem Dn {m1:ByteArray} {m2:Int} {m3:ByteArray} {m4:Bool} {m6:ByteArray} (h:qR m1 m2 m3 m4 m6=true):m1.size=0∧200≤m2∧m2≤599∧m3.size≤40:=by
  unfold qR at h
  simp only[Bool.and_eq_true,decide_eq_true_eq] at h
  exact⟨mJ h.1,h.2.1.1,h.2.1.2,h.2.2.1⟩
theorem AY {m0 m1:ByteArray} {m2:Int} {m3:ByteArray} {m4:Bool} (h:oz m0 m1 m2 m3 m4=true):m0.size≤20∧m1.size≤200∧m2=0∧m3.size=0:=by
  unfold oz Nu at h
  simp only[Bool.and_eq_true,decide_eq_true_eq] at h
  exact⟨h.1.1,h.1.2.2.1,h.2.1,mJ h.2.2.1⟩
theorem AZ (m0 m1:ByteArray) (m2:Int) (m3:ByteArray) (m4:Bool) (l:List aW) (m6:ByteArray) (k:Nat) (hk:7000<k):gQ.f k m0 m1 m2 m3 m4 l m6=some (uK m0 m1 m2 m3 m4 l m6):=by
  obtain⟨k,rfl⟩:=aQ k aa
  have no:gQ.j0 (k+1) true m0 m1 m2 m3 m4 l m6=some false:=by simp only[gQ.j0];rfl
  unfold gQ.f uK
  rw[mH l (k+1) aa,aj]
  by_cases hf:bQ l=true
  case neg=>rw[if_neg hf,no];simp[hf]
  have hl:=dL hf
  rw[if_pos hf,hf,Bool.true_and]
  by_cases h20:l.length=20
  · rw[if_pos aa,no,aN aa,Bool.false_and]
  rw[if_neg aa,show decide (l.length<20)=true from aT aa,Bool.true_and]
  unfold gK.f
  have hfr:=xw l hf l.length 0 (Nat.zero_le _) aa (k+1) aa
  rw[List.drop_zero] at hfr
  rw[show((0:Nat):Int)=0 from rfl] at hfr
  rw[hfr,aj]
  cases hb:l.any (fun f=>Rw f.f0) with
  |true=>rw[if_pos rfl,no];rfl
  |false=>
    rw[if_neg ak]
    simp only[Bool.not_false,Bool.true_and]
    by_cases h6:m6.size≤600
    case neg=>rw[show decide ((m6.size:Int)>600)=true from aT aa,no,aN h6,Bool.false_and]
    rw[show decide ((m6.size:Int)>600)=false from aN aa,aT h6,Bool.true_and]
    simp only[gQ.j0]
    rw[if_neg ak]
    by_cases e0:m0.toList=([]:List UInt8)
    · rw[if_pos e0,if_pos e0,zz m0 m1 m2 m3 m4 l m6 k aa,aj]
      cases ha:qR m1 m2 m3 m4 m6 with
      |false=>rw[if_neg ak,Bool.false_and]
      |true=>
        obtain⟨s1,s2,s3,s4⟩:=Dn ha
        have s0:=mJ e0
        obtain⟨r,hr1,hr2⟩:=vN m0 m1 m2 m3 m4 l m6 hf h6 aa aa ⟨by omega,s3⟩ s4 k aa
        rw[if_pos rfl,hr1,aj,Bool.true_and]
        congr 1
        exact decide_eq_decide.2 aa
    · rw[if_neg e0,if_neg e0,xx m0 m1 m2 m3 m4 l m6 k aa,aj]
      cases ha:oz m0 m1 m2 m3 m4 with
      |false=>rw[if_neg ak,Bool.false_and]
      |true=>
        obtain⟨s1,s2,s3,s4⟩:=AY ha
        obtain⟨r,hr1,hr2⟩:=vN m0 m1 m2 m3 m4 l m6 hf h6 s1 s2 ⟨by omega,by omega⟩ aa k aa
        rw[if_pos rfl,hr1,aj,Bool.true_and]
        congr 1
        exact decide_eq_decide.2 aa
theorem Ba (m0 m1:ByteArray) (m2:Int) (m3:ByteArray) (m4:Bool) (l:List aW) (m6:ByteArray) (k:Nat) (hk:7000<k):bI.f k m0 m1 m2 m3 m4 l m6=some (uK m0 m1 m2 m3 m4 l m6):=by
  obtain⟨k,rfl⟩:∃ q,k=q+5:=⟨k-5,by omega⟩
  have no:bI.j0 (k+5) true m0 m1 m2 m3 m4 l m6=some false:=by simp only[bI.j0];rfl
  unfold bI.f uK
  rw[mG l (k+5) aa,aj]
  by_cases hf:bQ l=true
  case neg=>rw[if_neg hf,no];simp[hf]
  have hl:=dL hf
  rw[if_pos hf,hf,Bool.true_and]
  by_cases h20:l.length=20
  · rw[if_pos aa,no,aN aa,Bool.false_and]
  rw[if_neg aa,show decide (l.length<20)=true from aT aa,Bool.true_and]
  by_cases h6:m6.size≤600
  case neg=>
    rw[show decide ((m6.size:Int)>600)=true from aT aa,no,aN h6,Bool.false_and,Bool.and_false]
  rw[show decide ((m6.size:Int)>600)=false from aN aa,aT h6,Bool.true_and]
  simp only[bI.j0]
  rw[if_neg ak]
  unfold xQ.f
  rw[aj]
  have w0:wrap64 (0+1)=1:=by unfold wrap64;omega
  have w1:wrap64 (1+1)=2:=by unfold wrap64;omega
  have w2:wrap64 (2+1)=3:=by unfold wrap64;omega
  have hl3:(([BV,BX,BZ]:List ByteArray).length:Int)=3:=rfl
  have r0:cZ ByteArray.empty [BV,BX,BZ] 0=BV:=rfl
  have r1:cZ ByteArray.empty [BV,BX,BZ] 1=BX:=rfl
  have r2:cZ ByteArray.empty [BV,BX,BZ] 2=BZ:=rfl
  have a1:=sI l BV ak (k+3) aa
  have a2:=sI l BX ak (k+2) aa
  have a3:=sI l BZ ak (k+1) aa
  rw[KC hf] at a1 a2 a3
  show bI.l0 (k+4) [BV,BX,BZ] (([BV,BX,BZ]:List ByteArray).length:Int) 0 m0 m1 m2 m3 m4 l m6=_
  rw[WR l,hl3]
  have s0:bI.l0 (k+4) [BV,BX,BZ] 3 0 m0 m1 m2 m3 m4 l m6=if l.any (fun f=>iO f.f0 BV)=true then some false else bI.l0 (k+3) [BV,BX,BZ] 3 1 m0 m1 m2 m3 m4 l m6:=by
    rw[bI.l0,if_pos ak,if_pos ak,if_pos (by rw[hl3];decide),r0,a1,aj,w0]
  have s1:bI.l0 (k+3) [BV,BX,BZ] 3 1 m0 m1 m2 m3 m4 l m6=if l.any (fun f=>iO f.f0 BX)=true then some false else bI.l0 (k+2) [BV,BX,BZ] 3 2 m0 m1 m2 m3 m4 l m6:=by
    rw[bI.l0,if_pos ak,if_pos ak,if_pos (by rw[hl3];decide),r1,a2,aj,w1]
  have s2:bI.l0 (k+2) [BV,BX,BZ] 3 2 m0 m1 m2 m3 m4 l m6=if l.any (fun f=>iO f.f0 BZ)=true then some false else bI.l0 (k+1) [BV,BX,BZ] 3 3 m0 m1 m2 m3 m4 l m6:=by
    rw[bI.l0,if_pos ak,if_pos ak,if_pos (by rw[hl3];decide),r2,a3,aj,w2]
  rw[s0,s1,s2]
  cases l.any (fun f=>iO f.f0 BV) with
  |true=>rfl
  |false=>
  rw[if_neg ak]
  cases l.any (fun f=>iO f.f0 BX) with
  |true=>rfl
  |false=>
  rw[if_neg ak]
  cases l.any (fun f=>iO f.f0 BZ) with
  |true=>rfl
  |false=>
  rw[if_neg ak]
  simp only[Bool.or_self,Bool.not_false,Bool.true_and]
  rw[bI.l0,if_neg ak]
  by_cases e0:m0.toList=([]:List UInt8)
  · rw[if_pos e0,if_pos e0]
    unfold qR
    by_cases h1:m1.toList=([]:List UInt8)
    case neg=>rw[if_neg h1,aN h1,Bool.false_and,Bool.false_and]
    rw[if_pos h1,aT h1,Bool.true_and]
    unfold rX.f
    rw[mF,aj,aj]
    by_cases h2:200≤m2∧m2≤599
    case neg=>rw[if_neg (by rw[aN h2];decide),aN h2,Bool.false_and,Bool.false_and]
    rw[if_pos (aT h2),aT h2,Bool.true_and]
    unfold rY.f
    by_cases h3:m3.size≤40
    case neg=>rw[if_neg aa,aj,if_neg ak,aN h3,Bool.false_and,Bool.false_and]
    rw[if_pos aa,aT h3,Bool.true_and,tY m3 aa k aa]
    simp only[aj]
    have s0:=mJ e0
    have s1:=mJ h1
    obtain⟨r,hr1,hr2⟩:=vO m0 m1 m2 m3 m4 l m6 hf h6 aa aa ⟨by omega,h2.2⟩ h3
    have hd:decide ((r.size:Int)≤1500)=decide (zy m0 m1 m2 m3 m4 l m6≤1500):=decide_eq_decide.2 aa
    rw[bare_eq,hr1]
    simp only[aj]
    rw[hd]
    cases pF m3 <;> cases m4 <;> cases(m2==204||m2==304) <;> by_cases h6e:m6.toList=([]:List UInt8) <;> simp[h6e]
  · rw[if_neg e0,if_neg e0]
    unfold oz Nu oQ.f
    rw[tV m0 k aa,aj]
    by_cases t1:Aw m0=true
    case neg=>rw[if_neg t1,aj,if_neg ak];simp[t1]
    rw[if_pos t1,aj,t1,Bool.true_and]
    by_cases h1:m0.size≤20
    case neg=>rw[if_neg (by rw[aN aa];decide),aN h1];simp
    rw[if_pos (aT aa),aT h1,Bool.true_and]
    unfold oU.f
    rw[mF,aj]
    by_cases h3:0<m1.size∧m1.size≤200
    case neg=>
      rw[if_neg (by rw[aN aa];decide),aj,if_neg ak]
      by_cases h4:m1.size≤200
      · rw[aN (show ¬ 0<m1.size by omega)];simp
      · rw[aN h4];simp
    rw[if_pos (aT aa),aT h3.2,aT h3.1,kK m1 aa k aa]
    simp only[aj,Bool.true_and]
    by_cases hv:nH m1=true
    case neg=>rw[if_neg hv];simp[hv]
    rw[if_pos hv,hv,Bool.true_and]
    by_cases h5:m2=0
    case neg=>rw[if_neg h5];simp[h5]
    rw[if_pos h5,aT h5,Bool.true_and]
    by_cases h7:m3.toList=([]:List UInt8)
    case neg=>rw[if_neg h7];simp[h7]
    rw[if_pos h7,aT h7,Bool.true_and]
    cases m4 with
    |true=>rw[if_pos rfl];rfl
    |false=>
      rw[if_neg ak]
      obtain⟨r,hr1,hr2⟩:=vO m0 m1 m2 m3 false l m6 hf h6 h1 h3.2 ⟨by omega,by omega⟩ (by rw[mJ h7];omega)
      rw[hr1,aj]
      simp only[Bool.not_false,Bool.true_and]
      congr 1
      exact decide_eq_decide.2 aa

end Go.Proofs.YtfhllanhldbkkaaGreatDoor.P
end

section
/- Plain laws of our own (ToFields): about numbers and lists alone; no condition beyond those written. -/
namespace Go.Proofs.YtfhllanhldbkkaaGreatDoor.P
open Go.RowKit Go.Proofs.YtfhllanhldbkkaaGreatDoorW.ax Go.Proofs.YtfhllanhldbkkaaGreatDoorW.aD Go.Proofs.YtfhllanhldbkkaaGreatDoorW.aH
set_option linter.unusedVariables false
set_option linter.unusedSimpArgs false
set_option maxHeartbeats 2000000
abbrev jC := EM
def Rx (x:jC):aW:=⟨x.f0,x.f1⟩
theorem Gj (l:List jC) (hl:l.length≤4398046511104):∀(d k i:Nat) (out:List aW),out.length=l.length→i≤l.length→l.length-i=d→(∀ j,j<i→out[j]? = (l.map Rx)[j]?)→d<k→
    fO.l0 k l out (i:Int)=some (l.map Rx):=by
  intro d
  induction d with
  |zero=>
    intro k i out ho h1 hd hj hk
    obtain⟨k,rfl⟩:∃ m,k=m+1:=⟨k-1,by omega⟩
    simp only[fO.l0]
    rw[if_neg aa]
    congr 1
    apply List.ext_getElem?
    intro j
    by_cases h:j<l.length
    · exact hj j aa
    · rw[List.getElem?_eq_none aa,List.getElem?_eq_none (by simp;omega)]
  |succ d ih=>
    intro k i out ho h1 hd hj hk
    obtain⟨k,rfl⟩:∃ m,k=m+1:=⟨k-1,by omega⟩
    have hw:wrap64 ((i:Int)+1)=((i+1:Nat):Int):=by rw[au aa aa];omega
    simp only[fO.l0]
    unfold vP.f
    rw[if_pos aa,if_pos aa,aj,if_pos aa,hw,Int.toNat_natCast]
    refine ih k (i+1) _ (by rw[List.length_set];exact ho) aa aa (fun j hji=>?_) aa
    rw[List.getElem?_set]
    by_cases e:i=j
    · subst e
      rw[if_pos rfl,if_pos aa,List.getElem?_map]
      unfold rT
      rw[Int.toNat_natCast,List.getD_eq_getElem?_getD,List.getElem?_eq_getElem aa]
      rfl
    · rw[if_neg e]
      exact hj j aa
theorem xR (l:List jC) (hl:l.length≤4398046511104) (k:Nat) (hk:l.length<k):fO.f k l=some (l.map Rx):=by
  unfold fO.f
  rw[if_pos aa,if_pos aa]
  exact Gj l hl l.length k 0 _ (by simp) (Nat.zero_le _) aa (fun j hj=>by omega) hk
theorem Dp (a b:ByteArray) (n:Int):∃ t,mo.f a b n=some t:=by
  unfold mo.f
  split
  · exact⟨_,rfl⟩
  · split <;> exact⟨_,rfl⟩
theorem Gl (l:List jC) (hl:l.length≤4398046511104):∀(d k:Nat) (n i:Int),0≤i→(l.length:Int)-i=d→d<k→∃ t,fP.l0 k l n i=some t:=by
  intro d
  induction d with
  |zero=>
    intro k n i h0 hd hk
    obtain⟨k,rfl⟩:∃ m,k=m+1:=⟨k-1,by omega⟩
    simp only[fP.l0]
    rw[if_neg aa]
    exact⟨_,rfl⟩
  |succ d ih=>
    intro k n i h0 hd hk
    obtain⟨k,rfl⟩:∃ m,k=m+1:=⟨k-1,by omega⟩
    simp only[fP.l0]
    obtain⟨t,ht⟩:=Dp (rT l i).f0 (rT l i).f1 n
    rw[if_pos aa,if_pos h0,ht,aj]
    by_cases h:t<0
    · rw[if_pos h];exact⟨_,rfl⟩
    · rw[if_neg h,au (x:=i+1) aa aa]
      exact ih k t (i+1) aa aa aa
theorem um (l:List jC) (hl:l.length≤4398046511104) (n:Int) (k:Nat) (hk:l.length<k):∃ t,fP.f k l n=some t:=by
  unfold fP.f
  split
  · exact⟨_,rfl⟩
  · exact Gl l hl l.length k _ 0 aa aa hk

end Go.Proofs.YtfhllanhldbkkaaGreatDoor.P
end

section
/- Plain laws of our own (Entry): about numbers and lists alone; no condition beyond those written. -/
namespace Go.Proofs.YtfhllanhldbkkaaGreatDoor.P
open Go.RowKit Go.Proofs.YtfhllanhldbkkaaGreatDoorW.ax Go.Proofs.YtfhllanhldbkkaaGreatDoorW.aD Go.Proofs.YtfhllanhldbkkaaGreatDoorW.aH
set_option linter.unusedVariables false
set_option linter.unusedSimpArgs false
set_option maxHeartbeats 2000000
def ng (t:Int):Bool:=decide (0≤t∧t≤253402300799)
theorem kZ (t:Int):jq.f t=some (ng t):=by
  unfold jq.f ng
  by_cases h:t≥0
  · rw[if_pos h];congr 1;exact decide_eq_decide.2 aa
  · rw[if_neg h,aN aa]
theorem jP (t:Int):iy.f t=some (ng t):=by
  unfold iy.f ng
  rw[mF]
  rfl
def oZ (u:ByteArray) (t1 t2:Int) (l:List aW) (m0 m1:ByteArray) (m2:Int) (m3:ByteArray) (m4:Bool) (ml:List aW) (m6:ByteArray):Bool:=
  uI u&&(ng t1&&(ng t2&&(decide (t1≤t2)&&(bQ l&&(uK m0 m1 m2 m3 m4 ml m6&&(decide (m0.toList=([]:List UInt8)) && !m4))))))
theorem rG (u:ByteArray) (t1 t2:Int) (l:List aW) (m0 m1:ByteArray) (m2:Int) (m3:ByteArray) (m4:Bool) (ml:List aW) (m6:ByteArray) (hu:u.size≤1048576) (k:Nat) (hk:80000010<k) :
    il.f k u t1 t2 l m0 m1 m2 m3 m4 ml m6=some (oZ u t1 t2 l m0 m1 m2 m3 m4 ml m6):=by
  unfold il.f oZ
  rw[AV u hu k hk,aj]
  cases uI u with
  |false=>rfl
  |true=>
    rw[if_pos rfl,Bool.true_and,kZ,aj]
    cases ng t1 with
    |false=>rfl
    |true=>
      rw[if_pos rfl,Bool.true_and,kZ,aj]
      cases ng t2 with
      |false=>rfl
      |true=>
        rw[if_pos rfl,Bool.true_and]
        by_cases c:t1≤t2
        case neg=>rw[if_neg c,aN c,Bool.false_and]
        rw[if_pos c,aT c,Bool.true_and,mH l k aa,aj]
        cases bQ l with
        |false=>rfl
        |true=>
          rw[if_pos rfl,Bool.true_and,AZ m0 m1 m2 m3 m4 ml m6 k aa,aj]
          cases uK m0 m1 m2 m3 m4 ml m6 with
          |false=>rfl
          |true=>
            rw[if_pos rfl,Bool.true_and]
            by_cases d:m0.toList=([]:List UInt8)
            · rw[if_pos d,aT d,Bool.true_and]
            · rw[if_neg d,aN d,Bool.false_and]
theorem yz (u:ByteArray) (t1 t2:Int) (l:List aW) (m0 m1:ByteArray) (m2:Int) (m3:ByteArray) (m4:Bool) (ml:List aW) (m6:ByteArray) (hu:u.size≤1048576) (k:Nat) (hk:80000010<k) :
    iq.f k u t1 t2 l m0 m1 m2 m3 m4 ml m6=some (oZ u t1 t2 l m0 m1 m2 m3 m4 ml m6):=by
  unfold iq.f oZ
  rw[AX u hu k hk,aj]
  cases uI u with
  |false=>rfl
  |true=>
    rw[if_pos rfl,Bool.true_and,jP,aj]
    cases ng t1 with
    |false=>rfl
    |true=>
      rw[if_pos rfl,Bool.true_and,jP,aj]
      cases ng t2 with
      |false=>rfl
      |true=>
        rw[if_pos rfl,Bool.true_and]
        by_cases c:t1≤t2
        case neg=>rw[if_neg c,aN c,Bool.false_and]
        rw[if_pos c,aT c,Bool.true_and,mG l k aa,aj]
        cases bQ l with
        |false=>rfl
        |true=>
          rw[if_pos rfl,Bool.true_and,Ba m0 m1 m2 m3 m4 ml m6 k aa,aj]
          cases uK m0 m1 m2 m3 m4 ml m6 with
          |false=>rfl
          |true=>
            rw[if_pos rfl,Bool.true_and]
            by_cases d:m0.toList=([]:List UInt8)
            · rw[if_pos d,aT d,Bool.true_and]
            · rw[if_neg d,aN d,Bool.false_and]
theorem Gm (m0 m1:ByteArray) (m2:Int) (m3:ByteArray) (m4:Bool) (l:List jC) (m6:ByteArray) (n:Int) (hl:l.length≤4398046511104) (k:Nat) (hk:l.length<k):∃ t,nL.f k m0 m1 m2 m3 m4 l m6 n=some t:=by
  unfold nL.f
  split
  · exact⟨_,rfl⟩
  · split
    · exact⟨_,rfl⟩
    · split
      · exact⟨_,rfl⟩
      · obtain⟨t,ht⟩:=um l hl (wrap64 (wrap64 (wrap64 (n-(m0.size:Int))-(m1.size:Int))-(m3.size:Int))) k hk
        rw[ht,aj]
        split
        · exact⟨_,rfl⟩
        · split <;> exact⟨_,rfl⟩
theorem Dq (u:ByteArray) (t1 t2:Int) (l:List jC) (m0 m1:ByteArray) (m2:Int) (m3:ByteArray) (m4:Bool) (ml:List jC) (m6:ByteArray) (hu:u.size≤140737488351232) (hl:l.length≤4398046511104) (hm:ml.length≤4398046511104) (k:Nat) (hk:l.length+ml.length<k) :
    ∃ t,jh.f k u t1 t2 l m0 m1 m2 m3 m4 ml m6 1048576=some t∧(¬ t<0→u.size≤1048576):=by
  unfold jh.f
  have hw:wrap64 (1048576-(u.size:Int))=1048576-(u.size:Int):=au aa aa
  rw[hw]
  by_cases c:1048576-(u.size:Int)<0
  · rw[if_pos c];exact⟨-1,rfl,fun h=>absurd ak h⟩
  · rw[if_neg c]
    obtain⟨t,ht⟩:=um l hl (1048576-(u.size:Int)) k aa
    rw[ht,aj]
    split
    · exact⟨-1,rfl,fun h=>absurd ak h⟩
    · obtain⟨t2,ht2⟩:=Gm m0 m1 m2 m3 m4 ml m6 t hm k aa
      rw[ht2,aj]
      split
      · exact⟨-1,rfl,fun h=>absurd ak h⟩
      · exact⟨t2,rfl,fun _=>by omega⟩
theorem Gn (u:ByteArray) (t1 t2:Int) (l:List jC) (m0 m1:ByteArray) (m2:Int) (m3:ByteArray) (m4:Bool) (ml:List jC) (m6:ByteArray) (hl:l.length≤4398046511104) (hm:ml.length≤4398046511104) (k:Nat) (hk:l.length+ml.length<k) :
    iD.f k u t1 t2 l m0 m1 m2 m3 m4 ml m6=some (u,t1,t2,l.map Rx,m0,m1,m2,m3,m4,ml.map Rx,m6):=by
  unfold iD.f zA.f
  rw[xR l hl k aa,aj,xR ml hm k aa,aj,aj]
theorem Dr (u:ByteArray) (t1 t2:Int) (l:List aW) (m0 m1:ByteArray) (m2:Int) (m3:ByteArray) (m4:Bool) (ml:List aW) (m6:ByteArray) (hl:l.length≤4398046511104) (hm:ml.length≤4398046511104) (k:Nat) (hk:l.length+ml.length<k) :
    jE.f k u t1 t2 l m0 m1 m2 m3 m4 ml m6 u t1 t2 l m0 m1 m2 m3 m4 ml m6=some true:=by
  have h1:=sG k l aa aa
  have h2:=sG k ml aa aa
  unfold jE.f nM.f
  rw[if_pos rfl,if_pos rfl,if_pos rfl,h1,aj,if_pos rfl,if_pos rfl,if_pos rfl,if_pos rfl,if_pos rfl,if_neg (by simp),h2,aj,if_pos rfl,if_pos rfl,aj,if_pos rfl]

end Go.Proofs.YtfhllanhldbkkaaGreatDoor.P
end

section
/- Plain laws of our own (DateText): about numbers and lists alone; no condition beyond those written. -/
namespace Go.Proofs.YtfhllanhldbkkaaGreatDoor.P
open Go.RowKit Go.Proofs.YtfhllanhldbkkaaGreatDoorW.ax Go.Proofs.YtfhllanhldbkkaaGreatDoorW.aD Go.Proofs.YtfhllanhldbkkaaGreatDoorW.aH
set_option linter.unusedVariables false
set_option linter.unusedSimpArgs false
set_option maxHeartbeats 2000000
def gF (n:Int):UInt8:=UInt8.ofNat (48+(n%10).toNat)
theorem Dt (n:Int):((gF n).toNat:Int)=48+n%10:=by
  unfold gF
  rw[UInt8.toNat_ofNat']
  omega
theorem lU (n:Int):48≤(gF n).toNat∧(gF n).toNat≤57:=by
  have:=Dt n
  omega
def lD (m:Int):List UInt8:=
  if m=1 then [74,97,110] else if m=2 then [70,101,98] else if m=3 then [77,97,114] else if m=4 then [65,112,114] else if m=5 then [77,97,121] else if m=6 then [74,117,110]
  else if m=7 then [74,117,108] else if m=8 then [65,117,103] else if m=9 then [83,101,112] else if m=10 then [79,99,116] else if m=11 then [78,111,118] else [68,101,99]
def lV (k:Int):List UInt8:=
  if k=0 then [77,111,110,100,97,121] else if k=1 then [84,117,101,115,100,97,121] else if k=2 then [87,101,100,110,101,115,100,97,121] else if k=3 then [84,104,117,114,115,100,97,121]
  else if k=4 then [70,114,105,100,97,121] else if k=5 then [83,97,116,117,114,100,97,121] else [83,117,110,100,97,121]
def dO (n:Int):List UInt8:=[gF (n / 10),gF n]
def lW (n:Int):List UInt8:=[gF (n / 1000),gF (n / 100),gF (n / 10),gF n]
def jM (h i s:Int):List UInt8:=dO h ++ [58]++dO i ++ [58]++dO s
def qz : List UInt8:=[32,71,77,84]
def oC (Y M D h i s:Int):List UInt8:=[44,32]++dO D ++ [32]++lD M ++ [32]++lW Y ++ [32]++jM h i s++qz
def qA (Y M D h i s:Int):List UInt8:=[44,32]++dO D ++ [45]++lD M ++ [45]++dO Y ++ [32]++jM h i s++qz
def ko (Y M D h i s:Int):List UInt8:=[32]++lD M ++ [32]++(if D<10 then [32,gF D] else dO D) ++ [32]++jM h i s ++ [32]++lW Y
theorem dH (m:Int):∃ a b c,lD m = [a,b,c]∧(65≤a.toNat∧a.toNat≤90)∧(97≤b.toNat∧b.toNat≤122)∧(97≤c.toNat∧c.toNat≤122):=by
  generalize hl:lD m=l
  unfold lD at hl
  repeat' split at hl
  all_goals (subst hl;refine⟨_,_,_,rfl,?_,?_,?_⟩ <;> decide)
theorem E9 (m n:Int) (hm:1≤m∧m≤12) (hn:1≤n∧n≤12) (h:lD m=lD n):m=n:=by
  have e:∀ x:Int,1≤x∧x≤12→x=1∨x=2∨x=3∨x=4∨x=5∨x=6∨x=7∨x=8∨x=9∨x=10∨x=11∨x=12:=by omega
  rcases e m hm with rfl|rfl|rfl|rfl|rfl|rfl|rfl|rfl|rfl|rfl|rfl|rfl <;> rcases e n hn with rfl|rfl|rfl|rfl|rfl|rfl|rfl|rfl|rfl|rfl|rfl|rfl <;> first|rfl|exact absurd h ak
theorem qU (k:Int):∀ b∈lV k,65≤b.toNat:=by
  unfold lV
  repeat' split
  all_goals decide
theorem nu (k:Int):6≤(lV k).length∧(lV k).length≤9:=by
  unfold lV
  repeat' split
  all_goals decide
def zB (s:ByteArray) (n:Nat) (T:List UInt8):Prop:=s.size=n+T.length∧(∀ j:Nat,j<n→65≤bt s (j:Int))∧∀(j:Nat) (b:UInt8),T[j]? = some b→bt s ((n+j:Nat):Int)=(b.toNat:Int)
theorem yO (L:List UInt8) (j:Nat) (b:UInt8) (h:L[j]? = some b):bt (⟨L.toArray⟩:ByteArray) (j:Int)=(b.toNat:Int):=by
  obtain⟨h1,h2⟩:=List.getElem?_eq_some_iff.1 h
  unfold bt
  rw[dif_pos (show((j:Int)).toNat<(⟨L.toArray⟩:ByteArray).size by simpa [ByteArray.size] using h1)]
  simp only[Int.toNat_natCast]
  rw[← h2]
  rfl
theorem Du (nm T:List UInt8) (hn:∀ b∈nm,65≤b.toNat):zB (⟨(nm++T).toArray⟩:ByteArray) nm.length T:=by
  refine⟨by simp[ByteArray.size],fun j hj=>?_,fun j b h=>?_⟩
  · have h1:(nm++T)[j]? = some nm[j]:=by rw[List.getElem?_append_left hj,List.getElem?_eq_getElem hj]
    rw[yO _ _ _ h1]
    have:=hn nm[j] (List.getElem_mem hj)
    omega
  · exact yO _ _ _ (by rw[List.getElem?_append_right aa,Nat.add_sub_cancel_left];exact h)
theorem zB.get {s:ByteArray} {n:Nat} {T:List UInt8} (h:zB s n T) (j:Nat) (b:UInt8) (e:T[j]? = some b):bt s ((n+j:Nat):Int)=(b.toNat:Int):=h.2.2 j b e
def nI (x:Int):Prop:=48≤x∧x≤57
instance (x:Int):Decidable (nI x):=by unfold nI;infer_instance
def kr (s:ByteArray) (i:Nat):Nat→Nat→Int→Nat×Int
  |0,k,n=>(k,n)
  |d+1,k,n=>if k<s.size∧nI (bt s (k:Int))∧k<i+9 then kr s i d (k+1) (10*n+(bt s (k:Int)-48)) else(k,n)
def lX (s:ByteArray):Nat→Nat→List Int→List Int
  |0,_,out=>out
  |d+1,i,out=>if i<s.size then(if(kr s i 10 i 0).1>i then lX s d (kr s i 10 i 0).1 (out ++ [(kr s i 10 i 0).2]) else lX s d (i+1) out) else out
theorem Dv (s:ByteArray) (i:Nat):∀(d k:Nat) (n:Int),i≤k→0≤n→n<10 ^ (k-i)→k≤i+9→k≤s.size→k≤(kr s i d k n).1∧(kr s i d k n).1≤s.size∧(kr s i d k n).1≤i+9∧0≤(kr s i d k n).2∧(kr s i d k n).2<10 ^ ((kr s i d k n).1-i):=by
  intro d
  induction d with
  |zero=>intro k n h1 h2 h3 h4 h5;exact⟨Nat.le_refl _,h5,h4,h2,h3⟩
  |succ d ih=>
    intro k n h1 h2 h3 h4 h5
    unfold kr
    split
    · rename_i h
      have hd:=h.2.1
      unfold nI at hd
      obtain⟨a,b,c,e,f⟩:=ih (k+1) (10*n+(bt s (k:Int)-48)) aa aa (by rw[show k+1-i=(k-i)+1 by omega,Int.pow_succ];omega) aa aa
      exact⟨by omega,b,c,e,f⟩
    · exact⟨Nat.le_refl _,h5,h4,h2,h3⟩
theorem KF (s:ByteArray) (i:Nat) (hi:i≤s.size) (d:Nat):0≤(kr s i d i 0).2∧(kr s i d i 0).2≤999999999:=by
  obtain⟨_,_,c,e,f⟩:=Dv s i d i 0 (Nat.le_refl _) (Int.le_refl _) (by simp) aa hi
  refine⟨e,?_⟩
  have key:∀ n:Nat,n≤9→(10:Int) ^ n≤1000000000:=fun n hn=>
    match n,hn with
    |0,_=>by decide
    |1,_=>by decide
    |2,_=>by decide
    |3,_=>by decide
    |4,_=>by decide
    |5,_=>by decide
    |6,_=>by decide
    |7,_=>by decide
    |8,_=>by decide
    |9,_=>by decide
    |n+10,hn=>absurd hn aa
  have h':=key ((kr s i d i 0).1-i) aa
  omega
theorem KG (s:ByteArray):∀(d i:Nat) (out:List Int),i≤s.size→(∀ x∈out,0≤x∧x≤999999999)→∀ x∈lX s d i out,0≤x∧x≤999999999:=by
  intro d
  induction d with
  |zero=>intro i out hi h;exact h
  |succ d ih=>
    intro i out hi h
    unfold lX
    split
    · split
      · refine ih _ _ (Dv s i 10 i 0 (Nat.le_refl _) (Int.le_refl _) (by simp) aa hi).2.1 fun x hx=>?_
        rcases List.mem_append.1 hx with hx|hx
        · exact h x hx
        · obtain rfl:=List.mem_singleton.1 hx
          exact KF s i hi 10
      · exact ih _ _ aa h
    · exact h
theorem bz {s:ByteArray} {d i:Nat} {out:List Int} (h1:i<s.size) (h2:¬ nI (bt s (i:Int))):lX s (d+1) i out=lX s d (i+1) out:=by
  have e:kr s i 10 i 0=(i,0):=by unfold kr;rw[if_neg fun h=>h2 h.2.1]
  rw[lX,if_pos h1,e,if_neg (Nat.lt_irrefl _)]
theorem vQ {s:ByteArray} {d i:Nat} {out:List Int} (h1:s.size≤i):lX s d i out=out:=by
  cases d with
  |zero=>rfl
  |succ d=>rw[lX,if_neg aa]
theorem qV {s:ByteArray} {i d k:Nat} {n:Int} (x:Int) (h1:k<s.size) (h2:bt s (k:Int)=48+x%10) (h3:k<i+9):kr s i (d+1) k n=kr s i d (k+1) (10*n+x%10):=by
  rw[kr,if_pos ⟨h1,by unfold nI;omega,h3⟩,h2]
  congr 1
  omega
theorem zC {s:ByteArray} {i d k:Nat} {n:Int} (h:k<s.size→¬ nI (bt s (k:Int))):kr s i d k n=(k,n):=by
  cases d with
  |zero=>rfl
  |succ d=>rw[kr,if_neg fun q=>h q.1 q.2.1]
theorem KH {s:ByteArray} {d i:Nat} {out:List Int} (x:Int) (h1:i<s.size) (a:bt s (i:Int)=48+x%10) (h:i+1<s.size→¬ nI (bt s ((i+1:Nat):Int))) :
    lX s (d+1) i out=lX s d (i+1) (out ++ [x%10]):=by
  have e:kr s i 10 i 0=(i+1,x%10):=by
    rw[qV x h1 a aa,zC h]
    congr 1
    omega
  rw[lX,if_pos h1,e,if_pos (by show i+1>i;omega)]
theorem gZ {s:ByteArray} {d i:Nat} {out:List Int} (n:Int) (hn:0≤n) (h1:i+1<s.size) (a:bt s (i:Int)=48+n / 10%10) (b:bt s ((i+1:Nat):Int)=48+n%10) (h:i+2<s.size→¬ nI (bt s ((i+2:Nat):Int))) :
    lX s (d+1) i out=lX s d (i+2) (out ++ [n%100]):=by
  have e:kr s i 10 i 0=(i+2,n%100):=by
    rw[qV (n / 10) aa a aa,qV n h1 b aa,zC h]
    congr 1
    omega
  rw[lX,if_pos aa,e,if_pos (by show i+2>i;omega)]
theorem xy {s:ByteArray} {d i:Nat} {out:List Int} (n:Int) (hn:0≤n) (h1:i+3<s.size) (a:bt s (i:Int)=48+n / 1000%10) (b:bt s ((i+1:Nat):Int)=48+n / 100%10) (c:bt s ((i+2:Nat):Int)=48+n / 10%10) (e:bt s ((i+3:Nat):Int)=48+n%10) (h:i+4<s.size→¬ nI (bt s ((i+4:Nat):Int))) :
    lX s (d+1) i out=lX s d (i+4) (out ++ [n%10000]):=by
  have e:kr s i 10 i 0=(i+4,n%10000):=by
    rw[qV (n / 1000) aa a aa,qV (n / 100) aa b aa,qV (n / 10) aa c aa,qV n h1 e aa,zC h]
    congr 1
    omega
  rw[lX,if_pos aa,e,if_pos (by show i+4>i;omega)]
theorem I6 {s:ByteArray} {out:List Int}:∀(n d i:Nat),i+n≤s.size→(∀ j:Nat,i≤j→j<i+n→¬ nI (bt s (j:Int)))→lX s (d+n) i out=lX s d (i+n) out:=by
  intro n
  induction n with
  |zero=>intro d i _ _;rfl
  |succ n ih=>
    intro d i h1 h2
    rw[show d+(n+1)=(d+n)+1 by omega,bz aa (h2 i (Nat.le_refl _) aa),ih d (i+1) aa (fun j a b=>h2 j aa aa),show i+1+n=i+(n+1) by omega]
def numsOf (s:ByteArray):List Int:=lX s 100 0 []
theorem PR {x:Int} (h:x<48∨57<x):¬ nI x:=by unfold nI;omega
theorem zB.nd {s:ByteArray} {n:Nat} {T:List UInt8} (h:zB s n T) (j:Nat) (b:UInt8) (e:T[j]? = some b) (hb:b.toNat<48∨57<b.toNat):¬ nI (bt s ((n+j:Nat):Int)):=by
  rw[h.get j b e]
  exact PR aa
theorem zB.dg {s:ByteArray} {n:Nat} {T:List UInt8} (h:zB s n T) (j:Nat) (x:Int) (e:T[j]? = some (gF x)):bt s ((n+j:Nat):Int)=48+x%10:=by
  rw[h.get j _ e,Dt]
theorem qW {s:ByteArray} {n:Nat} {T:List UInt8} (h:zB s n T) (hn:n≤9):numsOf s=lX s (100-n) (n+0) []:=by
  unfold numsOf
  rw[show(100:Nat)=(100-n)+n by omega,I6 n (100-n) 0 (by have:=h.1;omega) (fun j a b=>PR (by have:=h.2.1 j aa;omega))]
  congr 1 <;> omega
theorem I7 {s:ByteArray} {n:Nat} {Y M D a i e:Int} (h:zB s n (oC Y M D a i e)) (hn:n≤9) (hY:0≤Y) (hD:0≤D) (ha:0≤a) (hi:0≤i) (he:0≤e) :
    numsOf s = [D%100,Y%10000,a%100,i%100,e%100]:=by
  obtain⟨x,y,z,hm,hx,hy,hz⟩:=dH M
  have hs:s.size=n+26:=by rw[h.1];unfold oC;rw[hm];rfl
  have T:oC Y M D a i e = [44,32,gF (D / 10),gF D,32,x,y,z,32,gF (Y / 1000),gF (Y / 100),gF (Y / 10),gF Y,32,gF (a / 10),gF a,58,gF (i / 10),gF i,58,gF (e / 10),gF e,32,71,77,84]:=by unfold oC;rw[hm];rfl
  rw[T] at h
  obtain⟨d,hd⟩:∃ d,100-n=d+30:=⟨70-n,by omega⟩
  rw[qW h hn,hd]
  rw[bz aa (h.nd 0 44 rfl ak),bz aa (h.nd 1 32 rfl ak),gZ D hD aa (h.dg 2 _ rfl) (h.dg 3 _ rfl) (fun _=>h.nd 4 32 rfl ak),
    bz aa (h.nd 4 32 rfl ak),bz aa (h.nd 5 x rfl aa),bz aa (h.nd 6 y rfl aa),bz aa (h.nd 7 z rfl aa),bz aa (h.nd 8 32 rfl ak),
    xy Y hY aa (h.dg 9 _ rfl) (h.dg 10 _ rfl) (h.dg 11 _ rfl) (h.dg 12 _ rfl) (fun _=>h.nd 13 32 rfl ak),
    bz aa (h.nd 13 32 rfl ak),gZ a ha aa (h.dg 14 _ rfl) (h.dg 15 _ rfl) (fun _=>h.nd 16 58 rfl ak),
    bz aa (h.nd 16 58 rfl ak),gZ i hi aa (h.dg 17 _ rfl) (h.dg 18 _ rfl) (fun _=>h.nd 19 58 rfl ak),
    bz aa (h.nd 19 58 rfl ak),gZ e he aa (h.dg 20 _ rfl) (h.dg 21 _ rfl) (fun _=>h.nd 22 32 rfl ak),
    bz aa (h.nd 22 32 rfl ak),bz aa (h.nd 23 71 rfl ak),bz aa (h.nd 24 77 rfl ak),bz aa (h.nd 25 84 rfl ak),vQ aa]
  rfl
theorem I8 {s:ByteArray} {n:Nat} {Y M D a i e:Int} (h:zB s n (qA Y M D a i e)) (hn:n≤9) (hY:0≤Y) (hD:0≤D) (ha:0≤a) (hi:0≤i) (he:0≤e) :
    numsOf s = [D%100,Y%100,a%100,i%100,e%100]:=by
  obtain⟨x,y,z,hm,hx,hy,hz⟩:=dH M
  have hs:s.size=n+24:=by rw[h.1];unfold qA;rw[hm];rfl
  have T:qA Y M D a i e = [44,32,gF (D / 10),gF D,45,x,y,z,45,gF (Y / 10),gF Y,32,gF (a / 10),gF a,58,gF (i / 10),gF i,58,gF (e / 10),gF e,32,71,77,84]:=by unfold qA;rw[hm];rfl
  rw[T] at h
  obtain⟨d,hd⟩:∃ d,100-n=d+30:=⟨70-n,by omega⟩
  rw[qW h hn,hd]
  rw[bz aa (h.nd 0 44 rfl ak),bz aa (h.nd 1 32 rfl ak),gZ D hD aa (h.dg 2 _ rfl) (h.dg 3 _ rfl) (fun _=>h.nd 4 45 rfl ak),
    bz aa (h.nd 4 45 rfl ak),bz aa (h.nd 5 x rfl aa),bz aa (h.nd 6 y rfl aa),bz aa (h.nd 7 z rfl aa),bz aa (h.nd 8 45 rfl ak),
    gZ Y hY aa (h.dg 9 _ rfl) (h.dg 10 _ rfl) (fun _=>h.nd 11 32 rfl ak),
    bz aa (h.nd 11 32 rfl ak),gZ a ha aa (h.dg 12 _ rfl) (h.dg 13 _ rfl) (fun _=>h.nd 14 58 rfl ak),
    bz aa (h.nd 14 58 rfl ak),gZ i hi aa (h.dg 15 _ rfl) (h.dg 16 _ rfl) (fun _=>h.nd 17 58 rfl ak),
    bz aa (h.nd 17 58 rfl ak),gZ e he aa (h.dg 18 _ rfl) (h.dg 19 _ rfl) (fun _=>h.nd 20 32 rfl ak),
    bz aa (h.nd 20 32 rfl ak),bz aa (h.nd 21 71 rfl ak),bz aa (h.nd 22 77 rfl ak),bz aa (h.nd 23 84 rfl ak),vQ aa]
  rfl
theorem I9 {s:ByteArray} {n:Nat} {Y M D a i e:Int} (h:zB s n (ko Y M D a i e)) (hn:n≤9) (hY:0≤Y) (hD:0≤D) (ha:0≤a) (hi:0≤i) (he:0≤e) :
    numsOf s = [D%100,a%100,i%100,e%100,Y%10000]:=by
  obtain⟨x,y,z,hm,hx,hy,hz⟩:=dH M
  obtain⟨d,hd⟩:∃ d,100-n=d+30:=⟨70-n,by omega⟩
  by_cases h10:D<10
  · have T:ko Y M D a i e = [32,x,y,z,32,32,gF D,32,gF (a / 10),gF a,58,gF (i / 10),gF i,58,gF (e / 10),gF e,32,gF (Y / 1000),gF (Y / 100),gF (Y / 10),gF Y]:=by unfold ko;rw[hm,if_pos h10];rfl
    have hs:s.size=n+21:=by rw[h.1,T];rfl
    rw[T] at h
    rw[qW h hn,hd]
    rw[bz aa (h.nd 0 32 rfl ak),bz aa (h.nd 1 x rfl aa),bz aa (h.nd 2 y rfl aa),bz aa (h.nd 3 z rfl aa),bz aa (h.nd 4 32 rfl ak),bz aa (h.nd 5 32 rfl ak),
      KH D aa (h.dg 6 _ rfl) (fun _=>h.nd 7 32 rfl ak),
      bz aa (h.nd 7 32 rfl ak),gZ a ha aa (h.dg 8 _ rfl) (h.dg 9 _ rfl) (fun _=>h.nd 10 58 rfl ak),
      bz aa (h.nd 10 58 rfl ak),gZ i hi aa (h.dg 11 _ rfl) (h.dg 12 _ rfl) (fun _=>h.nd 13 58 rfl ak),
      bz aa (h.nd 13 58 rfl ak),gZ e he aa (h.dg 14 _ rfl) (h.dg 15 _ rfl) (fun _=>h.nd 16 32 rfl ak),
      bz aa (h.nd 16 32 rfl ak),xy Y hY aa (h.dg 17 _ rfl) (h.dg 18 _ rfl) (h.dg 19 _ rfl) (h.dg 20 _ rfl) (fun q=>absurd q aa),vQ aa]
    show [D%10,a%100,i%100,e%100,Y%10000]=_
    rw[show D%10=D%100 by omega]
  · have T:ko Y M D a i e = [32,x,y,z,32,gF (D / 10),gF D,32,gF (a / 10),gF a,58,gF (i / 10),gF i,58,gF (e / 10),gF e,32,gF (Y / 1000),gF (Y / 100),gF (Y / 10),gF Y]:=by unfold ko;rw[hm,if_neg h10];rfl
    have hs:s.size=n+21:=by rw[h.1,T];rfl
    rw[T] at h
    rw[qW h hn,hd]
    rw[bz aa (h.nd 0 32 rfl ak),bz aa (h.nd 1 x rfl aa),bz aa (h.nd 2 y rfl aa),bz aa (h.nd 3 z rfl aa),bz aa (h.nd 4 32 rfl ak),
      gZ D hD aa (h.dg 5 _ rfl) (h.dg 6 _ rfl) (fun _=>h.nd 7 32 rfl ak),
      bz aa (h.nd 7 32 rfl ak),gZ a ha aa (h.dg 8 _ rfl) (h.dg 9 _ rfl) (fun _=>h.nd 10 58 rfl ak),
      bz aa (h.nd 10 58 rfl ak),gZ i hi aa (h.dg 11 _ rfl) (h.dg 12 _ rfl) (fun _=>h.nd 13 58 rfl ak),
      bz aa (h.nd 13 58 rfl ak),gZ e he aa (h.dg 14 _ rfl) (h.dg 15 _ rfl) (fun _=>h.nd 16 32 rfl ak),
      bz aa (h.nd 16 32 rfl ak),xy Y hY aa (h.dg 17 _ rfl) (h.dg 18 _ rfl) (h.dg 19 _ rfl) (h.dg 20 _ rfl) (fun q=>absurd q aa),vQ aa]
    rfl

end Go.Proofs.YtfhllanhldbkkaaGreatDoor.P
end

section
/- Plain laws of our own (Dates): about numbers and lists alone; no condition beyond those written. -/
namespace Go.Proofs.YtfhllanhldbkkaaGreatDoor.P
open Go.RowKit Go.Proofs.YtfhllanhldbkkaaGreatDoorW.ax Go.Proofs.YtfhllanhldbkkaaGreatDoorW.aD Go.Proofs.YtfhllanhldbkkaaGreatDoorW.aH
set_option linter.unusedVariables false
set_option linter.unusedSimpArgs false
set_option maxHeartbeats 2000000
theorem td {a:Int} (b:Int) (h:0≤a):Int.tdiv a b=a / b:=Int.tdiv_eq_ediv_of_nonneg h
theorem tm {a:Int} (b:Int) (h:0≤a):Int.tmod a b=a%b:=Int.tmod_eq_emod_of_nonneg h
theorem vR (y:Int) (h:0≤y):oD.f y=some (decide (kG y)):=by
  unfold oD.f
  rw[tm _ h,tm _ h,tm _ h]
  by_cases a:y%4=0
  · rw[if_pos a]
    by_cases b:y%100=0
    · rw[if_pos b]
      congr 1
      by_cases c:y%400=0
      · rw[c,aT (show kG y from⟨a,Or.inr c⟩)];rfl
      · rw[aN (show ¬ kG y from fun q=>q.2.elim (fun z=>z b) c),beq_eq_false_iff_ne.2 c]
    · rw[if_neg b,aT (show kG y from⟨a,Or.inl b⟩)]
  · rw[if_neg a,aN (show ¬ kG y from fun q=>a q.1)]
theorem nQ (y m:Int) (h:0≤y):kJ.f y m=some (xM y m):=by
  unfold kJ.f xM
  by_cases a:m=2
  · rw[if_pos a,if_pos a,vR y h,aj]
    by_cases b:kG y
    · rw[aT b,if_pos rfl,if_pos b]
    · rw[aN b,if_neg ak,if_neg b]
  · rw[if_neg a,if_neg a]
    by_cases b:m=4
    · rw[if_pos b,if_pos (Or.inl b)]
    · rw[if_neg b]
      by_cases c:m=6
      · rw[if_pos c,if_pos (Or.inr (Or.inl c))]
      · rw[if_neg c]
        by_cases d:m=9
        · rw[if_pos d,if_pos (Or.inr (Or.inr (Or.inl d)))]
        · rw[if_neg d]
          by_cases e:m=11
          · rw[if_pos e,if_pos (Or.inr (Or.inr (Or.inr e)))]
          · rw[if_neg e,if_neg aa]
theorem qX (y:Int) (h:0≤y):lY.f y=some (J7 y):=by
  unfold lY.f J7
  rw[vR y h,aj]
  by_cases b:kG y
  · rw[aT b,if_pos rfl,if_pos b]
  · rw[aN b,if_neg ak,if_neg b]
theorem nR (y m:Int) (h:0≤y) (k:Nat) (hk:0<k):fM.f k y m=some (xM y m):=by
  obtain⟨k,rfl⟩:=aQ k hk
  have j:∀ b:Bool,(m=2→b=decide (kG y))→(m≠2→b=false)→fM.j0 (k+1) m b=some (xM y m):=by
    intro b h1 h2
    simp only[fM.j0]
    unfold xM
    by_cases a:m=2
    · rw[h1 a,if_pos a,if_pos a]
      by_cases c:kG y
      · rw[aT c,if_pos rfl,if_pos c]
      · rw[aN c,if_neg ak,if_neg c]
    · rw[h2 a,if_neg ak,if_neg a,if_neg a]
      by_cases b:m=4
      · rw[if_pos b,if_pos (Or.inl b)]
      · rw[if_neg b]
        by_cases c:m=6
        · rw[if_pos c,if_pos (Or.inr (Or.inl c))]
        · rw[if_neg c]
          by_cases d:m=9
          · rw[if_pos d,if_pos (Or.inr (Or.inr (Or.inl d)))]
          · rw[if_neg d]
            by_cases e:m=11
            · rw[if_pos e,if_pos (Or.inr (Or.inr (Or.inr e)))]
            · rw[if_neg e,if_neg aa]
  unfold fM.f
  rw[tm _ h,tm _ h,tm _ h]
  by_cases a:m=2
  · rw[if_pos a]
    by_cases c:y%4=0
    · rw[if_pos c]
      by_cases d:y%100=0
      · rw[if_pos d]
        refine j _ (fun _=>?_) (fun z=>absurd a z)
        by_cases e:y%400=0
        · rw[e,aT (show kG y from⟨c,Or.inr e⟩)];rfl
        · rw[aN (show ¬ kG y from fun q=>q.2.elim (fun z=>z d) e),beq_eq_false_iff_ne.2 e]
      · rw[if_neg d]
        exact j _ (fun _=>(aT (show kG y from⟨c,Or.inl d⟩)).symm) (fun z=>absurd a z)
    · rw[if_neg c]
      refine j _ (fun _=>?_) (fun z=>absurd a z)
      rw[aN (show ¬ kG y from fun q=>c q.1),beq_eq_false_iff_ne.2 aa]
  · rw[if_neg a]
    exact j false (fun z=>absurd z a) (fun _=>rfl)
theorem sW (y:Int) (h0:1970≤y) (h1:y≤1000000):jc.f y=some (qa y):=by
  unfold jc.f qa
  have e1:wrap64 (y-1970)=y-1970:=au aa aa
  have e2:wrap64 (y-1)=y-1:=au aa aa
  rw[e1,e2,td _ (by omega:0≤y-1),td _ (by omega:0≤y-1),td _ (by omega:0≤y-1)]
  rw[au (x:=365*(y-1970)) aa aa,au (x:=(y-1) / 4) aa aa,au (x:=(y-1) / 100) aa aa,au (x:=(y-1) / 400) aa aa]
  rw[au (x:=365*(y-1970)+(y-1) / 4) aa aa,au (x:=365*(y-1970)+(y-1) / 4-(y-1) / 100) aa aa,au (x:=365*(y-1970)+(y-1) / 4-(y-1) / 100+(y-1) / 400) aa aa,au aa aa]
theorem lu (a l h:Int):dz.f a l h=some (decide (l≤a∧a≤h)):=mF a l h
theorem yA (Y M D h m s:Int) (k:Nat) (hk:0<k):gp.f k Y M D h m s=some (rQ Y M D h m s):=by
  unfold gp.f rQ
  rw[lu,aj]
  by_cases a:1970≤Y∧Y≤9999
  case neg=>rw[aN a,if_neg ak];rfl
  rw[aT a,if_pos rfl,lu,aj,Bool.true_and]
  by_cases b:1≤M∧M≤12
  case neg=>rw[aN b,if_neg ak];rfl
  rw[aT b,if_pos rfl,nR Y M aa k hk,aj,lu,aj,Bool.true_and]
  by_cases c:1≤D∧D≤xM Y M
  case neg=>rw[aN c,if_neg ak];rfl
  rw[aT c,if_pos rfl,lu,aj,Bool.true_and]
  by_cases d:0≤h∧h≤23
  case neg=>rw[aN d,if_neg ak];rfl
  rw[aT d,if_pos rfl,lu,aj,Bool.true_and]
  by_cases e:0≤m∧m≤59
  case neg=>rw[aN e,if_neg ak];rfl
  rw[aT e,if_pos rfl,lu,aj,Bool.true_and]
theorem yB (Y M D h m s:Int):fH.f Y M D h m s=some (rQ Y M D h m s):=by
  have bad:∀ p:Prop,[Decidable p]→(rQ Y M D h m s=true→p)→¬ p→some false=some (rQ Y M D h m s):=by
    intro p _ h1 h2
    cases hc:rQ Y M D h m s with
    |false=>rfl
    |true=>exact absurd (h1 hc) h2
  unfold fH.f
  by_cases a1:Y≥1970
  case neg=>rw[if_neg a1];exact bad (Y≥1970) (fun q=>((fC ..).1 q).1.1) a1
  rw[if_pos a1]
  by_cases a2:Y≤9999
  case neg=>rw[if_neg a2];exact bad _ (fun q=>((fC ..).1 q).1.2) a2
  rw[if_pos a2]
  by_cases b1:M≥1
  case neg=>rw[if_neg b1];exact bad (M≥1) (fun q=>((fC ..).1 q).2.1.1) b1
  rw[if_pos b1]
  by_cases b2:M≤12
  case neg=>rw[if_neg b2];exact bad _ (fun q=>((fC ..).1 q).2.1.2) b2
  rw[if_pos b2]
  by_cases c1:D≥1
  case neg=>rw[if_neg c1];exact bad (D≥1) (fun q=>((fC ..).1 q).2.2.1.1) c1
  rw[if_pos c1,nQ Y M aa,aj]
  by_cases c2:D≤xM Y M
  case neg=>rw[if_neg c2];exact bad _ (fun q=>((fC ..).1 q).2.2.1.2) c2
  rw[if_pos c2]
  by_cases d1:h≥0
  case neg=>rw[if_neg d1];exact bad (h≥0) (fun q=>((fC ..).1 q).2.2.2.1.1) d1
  rw[if_pos d1]
  by_cases d2:h≤23
  case neg=>rw[if_neg d2];exact bad _ (fun q=>((fC ..).1 q).2.2.2.1.2) d2
  rw[if_pos d2]
  by_cases e1:m≥0
  case neg=>rw[if_neg e1];exact bad (m≥0) (fun q=>((fC ..).1 q).2.2.2.2.1.1) e1
  rw[if_pos e1]
  by_cases e2:m≤59
  case neg=>rw[if_neg e2];exact bad _ (fun q=>((fC ..).1 q).2.2.2.2.1.2) e2
  rw[if_pos e2]
  by_cases f1:s≥0
  case neg=>rw[if_neg f1];exact bad (s≥0) (fun q=>((fC ..).1 q).2.2.2.2.2.1) f1
  rw[if_pos f1]
  unfold rQ
  rw[aT (⟨a1,a2⟩:1970≤Y∧Y≤9999),aT (⟨b1,b2⟩:1≤M∧M≤12),aT (⟨c1,c2⟩:1≤D∧D≤xM Y M),aT (⟨d1,d2⟩:0≤h∧h≤23),aT (⟨e1,e2⟩:0≤m∧m≤59),Bool.true_and,Bool.true_and,Bool.true_and,Bool.true_and,Bool.true_and]
  exact congrArg some (decide_eq_decide.2 ⟨fun q=>⟨f1,q⟩,fun q=>q.2⟩)
theorem xS (y:Int) (h0:1970≤y) (h1:y≤10000):0≤qa y∧qa y≤2932897:=by
  unfold qa;omega
theorem uo (y:Int) (n:Nat) (h:n≤12):0≤qb y n∧qb y n≤366:=by
  have a:=BL y n
  have b:=vB y n 12 h
  rw[CR] at b
  have c:=ES y
  omega
def tF (Y M D h m s:Int):Int×Bool:=if rQ Y M D h m s=true then(Av Y M D h m s,true) else(0,false)
theorem yC (Y M D h m s:Int) (hc:rQ Y M D h m s=true):∀(d n k:Nat),n+d+1=M.toNat→d<k→∀ x:Int,x=qa Y+D-1+qb Y n→
    fQ.l0 (k+1) x ((n:Int)+1) Y M D h m s=some (Av Y M D h m s,true):=by
  have hf:=(fC ..).1 hc
  have hy:=xS Y hf.1.1 aa
  have hdm:=BK Y M
  intro d
  induction d with
  |zero=>
    intro n k h1 h2 x hx
    have hmb:=uo Y n aa
    simp only[fQ.l0]
    rw[if_neg aa]
    rw[au (x:=86400*x) aa aa,au (x:=3600*h) aa aa,au (x:=60*m) aa aa,au (x:=86400*x+3600*h) aa aa,au (x:=86400*x+3600*h+60*m) aa aa,au aa aa]
    unfold Av
    rw[show(M-1).toNat=n by omega]
    congr 2
    omega
  |succ d ih=>
    intro n k h1 h2 x hx
    obtain⟨k,rfl⟩:=aQ k aa
    have hmb:=uo Y n aa
    have adz:=uo Y (n+1) aa
    have hs:qb Y (n+1)=qb Y n+xM Y ((n:Int)+1):=rfl
    rw[fQ.l0,if_pos aa,nR Y _ aa (k+1) aa,aj,au (x:=x+_) aa aa,au aa aa]
    exact ih (n+1) k aa aa _ aa
theorem vS (Y M D h m s:Int) (k:Nat) (hk:20<k):fQ.f k Y M D h m s=some (tF Y M D h m s):=by
  unfold fQ.f tF
  rw[yA _ _ _ _ _ _ k aa,aj]
  cases hc:rQ Y M D h m s with
  |false=>rfl
  |true=>
    have hf:=(fC ..).1 hc
    have hy:=xS Y hf.1.1 aa
    have hdm:=BK Y M
    obtain⟨k,rfl⟩:=aQ k aa
    rw[if_pos rfl,if_pos rfl,sW Y aa aa,aj,au (x:=qa Y+D) aa aa,au aa aa]
    exact yC Y M D h m s hc (M.toNat-1) 0 k aa aa _ (by show _=_+0;omega)
theorem yD (Y M D h m s:Int) (hc:rQ Y M D h m s=true):∀(d n k:Nat),n+d+1=M.toNat→d<k→∀ x:Int,x=qa Y+D-1+qb Y n→
    df.l1 (k+1) x ((n:Int)+1) Y M D h m s=some (Av Y M D h m s,true):=by
  have hf:=(fC ..).1 hc
  have hy:=xS Y hf.1.1 aa
  have hdm:=BK Y M
  intro d
  induction d with
  |zero=>
    intro n k h1 h2 x hx
    have hmb:=uo Y n aa
    simp only[df.l1]
    rw[if_neg aa]
    rw[au (x:=x*24) aa aa,au (x:=x*24+h) aa aa,au (x:=(x*24+h)*60) aa aa,au (x:=(x*24+h)*60+m) aa aa,au (x:=((x*24+h)*60+m)*60) aa aa,au aa aa]
    unfold Av
    rw[show(M-1).toNat=n by omega]
    congr 2
    omega
  |succ d ih=>
    intro n k h1 h2 x hx
    obtain⟨k,rfl⟩:=aQ k aa
    have hmb:=uo Y n aa
    have adz:=uo Y (n+1) aa
    have hs:qb Y (n+1)=qb Y n+xM Y ((n:Int)+1):=rfl
    rw[df.l1,if_pos aa,nQ Y _ aa,aj,au (x:=x+_) aa aa,au aa aa]
    exact ih (n+1) k aa aa _ aa
theorem zD (Y M D h m s:Int) (hc:rQ Y M D h m s=true):∀(d k:Nat) (y x:Int),1970≤y→y+d=Y→d+20<k→x=qa y+D-1→df.l0 k x y Y M D h m s=some (Av Y M D h m s,true):=by
  have hf:=(fC ..).1 hc
  have hdm:=BK Y M
  intro d
  induction d with
  |zero=>
    intro k y x h0 h1 h2 hx
    obtain⟨k,rfl⟩:∃ q,k=q+2:=⟨k-2,by omega⟩
    rw[df.l0,if_neg aa]
    exact yD Y M D h m s hc (M.toNat-1) 0 k aa aa _ (by show _=_+0;rw[show Y=y by omega];omega)
  |succ d ih=>
    intro k y x h0 h1 h2 hx
    obtain⟨k,rfl⟩:=aQ k aa
    have hy:=xS y h0 aa
    have hs:=qL y
    have hl:=ES y
    have hg:=PN y
    rw[df.l0,if_pos aa,qX y aa,aj,au (x:=x+_) aa aa,au (x:=y+1) aa aa]
    exact ih k (y+1) _ aa aa aa aa
theorem pq (Y M D h m s:Int) (k:Nat) (hk:9000<k):df.f k Y M D h m s=some (tF Y M D h m s):=by
  unfold df.f tF
  rw[yB,aj]
  cases hc:rQ Y M D h m s with
  |false=>rfl
  |true=>
    have hf:=(fC ..).1 hc
    have hdm:=BK Y M
    have e:qa 1970=0:=by decide
    rw[if_pos rfl,if_pos rfl,au (x:=D-1) aa aa]
    exact zD Y M D h m s hc (Y-1970).toNat k 1970 _ (Int.le_refl _) aa aa (by rw[e];omega)
theorem yE (t:Int) (ht:nY t) (h i s:Int):∀(d n k:Nat),n+d=cN t→d<k→∀ x:Int,x=t / 86400-qa (cY t)-qb (cY t) n→
    cO.l1 k x (cY t) ((n:Int)+1) 0 h i s=some (cY t,cM t,cD t,h,i,s,true):=by
  obtain⟨y1,y2,y3,y4⟩:=si t ht
  obtain⟨m1,m2,m3⟩:=vD t ht
  have hy:=xS (cY t) y3 aa
  have hys:=qL (cY t)
  have hyl:=ES (cY t)
  intro d
  induction d with
  |zero=>
    intro n k h1 h2 x hx
    obtain⟨k,rfl⟩:=aQ k aa
    obtain rfl:n=cN t:=by omega
    have hmb:=uo (cY t) (cN t) aa
    have hs:qb (cY t) (cN t+1)=qb (cY t) (cN t)+xM (cY t) ((cN t:Int)+1):=rfl
    rw[cO.l1,nQ _ _ aa,aj,if_neg aa,au aa aa]
    unfold cD cM
    rw[hx]
  |succ d ih=>
    intro n k h1 h2 x hx
    obtain⟨k,rfl⟩:=aQ k aa
    have hmb:=uo (cY t) n aa
    have hs:qb (cY t) (n+1)=qb (cY t) n+xM (cY t) ((n:Int)+1):=rfl
    have hmono:=vB (cY t) (n+1) (cN t) aa
    have hdg:=J8 (cY t) ((n:Int)+1)
    rw[cO.l1,nQ _ _ aa,aj,if_pos aa,aj,au (x:=x-_) aa aa,au aa aa]
    exact ih (n+1) k aa aa _ aa
theorem zF (t:Int) (ht:nY t) (h i s:Int):∀(d k:Nat) (y x:Int),1970≤y→y+d=cY t→d+20<k→x=t / 86400-qa y→cO.l0 k x y 1 0 h i s=some (cY t,cM t,cD t,h,i,s,true):=by
  obtain⟨y1,y2,y3,y4⟩:=si t ht
  intro d
  induction d with
  |zero=>
    intro k y x h0 h1 h2 hx
    obtain⟨k,rfl⟩:=aQ k aa
    obtain rfl:y=cY t:=by omega
    have hys:=qL (cY t)
    obtain⟨m1,m2,m3⟩:=vD t ht
    rw[cO.l0,qX _ aa,aj,if_neg aa]
    exact yE t ht h i s (cN t) 0 k aa aa x (by show _=_-0;omega)
  |succ d ih=>
    intro k y x h0 h1 h2 hx
    obtain⟨k,rfl⟩:=aQ k aa
    have hy:=xS y h0 aa
    have hs:=qL y
    have hm:=vC (y+1) (cY t) aa
    have hl:=ES y
    have hlg:=PN y
    unfold nY at ht
    rw[cO.l0,qX _ aa,aj,if_pos aa,aj,au (x:=x-_) aa aa,au (x:=y+1) aa aa]
    exact ih k (y+1) _ aa aa aa aa
instance (t:Int):Decidable (nY t):=by unfold nY;infer_instance
theorem mK (t:Int):ng t=true↔nY t:=by unfold ng nY;exact decide_eq_true_iff
theorem nJ (t:Int) (ht:nY t) (k:Nat) (hk:9000<k):cO.f k t=some (cY t,cM t,cD t,cH t,cI t,cS t,true):=by
  obtain⟨y1,y2,y3,y4⟩:=si t ht
  have ht':=ht
  unfold nY at ht'
  have e:qa 1970=0:=by decide
  unfold cO.f
  rw[kZ,aj,if_pos ((mK t).2 ht),td _ ht'.1,td _ ht'.1,td _ ht'.1,au (x:=t / 86400) aa aa,au (x:=t / 3600) aa aa,au (x:=t / 60) aa aa,tm _ (by omega:0≤t / 3600),tm _ (by omega:0≤t / 60),tm _ ht'.1]
  have h1:t / 3600%24=cH t:=by unfold cH;omega
  have h2:t / 60%60=cI t:=by unfold cI;omega
  rw[h1,h2,show t%60=cS t from rfl]
  exact zF t ht _ _ _ (cY t-1970).toNat k 1970 _ (Int.le_refl _) aa aa (by rw[e];omega)
theorem nK (t:Int) (ht:¬ nY t) (k:Nat):cO.f k t=some (0,0,0,0,0,0,false):=by
  unfold cO.f
  rw[kZ,aj,if_neg (fun q=>ht ((mK t).1 q))]
theorem yF (t:Int) (ht:nY t) (h i s:Int):∀(d n k:Nat),n+d=cN t→d<k→∀ x:Int,x=t / 86400-qa (cY t)-qb (cY t) n→
    dI.l1 (k+1) x (cY t) ((n:Int)+1) 0 h i s=some (cY t,cM t,cD t,h,i,s):=by
  obtain⟨y1,y2,y3,y4⟩:=si t ht
  obtain⟨m1,m2,m3⟩:=vD t ht
  have hy:=xS (cY t) y3 aa
  have hys:=qL (cY t)
  have hyl:=ES (cY t)
  intro d
  induction d with
  |zero=>
    intro n k h1 h2 x hx
    obtain rfl:n=cN t:=by omega
    have hmb:=uo (cY t) (cN t) aa
    have hs:qb (cY t) (cN t+1)=qb (cY t) (cN t)+xM (cY t) ((cN t:Int)+1):=rfl
    rw[dI.l1,nR _ _ aa k aa,aj,if_neg aa,au aa aa]
    unfold cD cM
    rw[hx]
  |succ d ih=>
    intro n k h1 h2 x hx
    obtain⟨k,rfl⟩:=aQ k aa
    have hmb:=uo (cY t) n aa
    have hs:qb (cY t) (n+1)=qb (cY t) n+xM (cY t) ((n:Int)+1):=rfl
    have hmono:=vB (cY t) (n+1) (cN t) aa
    have hdg:=J8 (cY t) ((n:Int)+1)
    rw[dI.l1,nR _ _ aa (k+1) aa,aj,if_pos aa,aj,au (x:=x-_) aa aa,au aa aa]
    exact ih (n+1) k aa aa _ aa
theorem zG (t:Int) (ht:nY t) (h i s:Int):∀(d k:Nat) (y:Int),1970≤y→y+d=cY t→d+20<k→dI.l0 k (t / 86400) y 1 0 h i s=some (cY t,cM t,cD t,h,i,s):=by
  obtain⟨y1,y2,y3,y4⟩:=si t ht
  have ht':=ht
  unfold nY at ht'
  intro d
  induction d with
  |zero=>
    intro k y h0 h1 h2
    obtain⟨k,rfl⟩:∃ q,k=q+2:=⟨k-2,by omega⟩
    obtain rfl:y=cY t:=by omega
    have hy:=xS (cY t) y3 aa
    obtain⟨m1,m2,m3⟩:=vD t ht
    rw[dI.l0,au (x:=cY t+1) aa aa,sW _ aa aa,aj,if_neg aa,sW _ aa aa,aj,au (x:=t / 86400-_) aa aa]
    exact yF t ht h i s (cN t) 0 k aa aa _ (by show _=_-0;omega)
  |succ d ih=>
    intro k y h0 h1 h2
    obtain⟨k,rfl⟩:=aQ k aa
    have hm:=vC (y+1) (cY t) aa
    rw[dI.l0,au (x:=y+1) aa aa,sW _ aa aa,aj,if_pos aa]
    exact ih k (y+1) aa aa aa
theorem kP (t:Int) (ht:nY t) (k:Nat) (hk:9000<k):dI.f k t=some (cY t,cM t,cD t,cH t,cI t,cS t):=by
  obtain⟨y1,y2,y3,y4⟩:=si t ht
  have ht':=ht
  unfold nY at ht'
  have hstart:1970+t / 86400 / 366≤cY t:=by
    by_cases q:1970+t / 86400 / 366≤cY t
    · exact q
    · exfalso
      have hm:=vC (cY t+1) (1970+t / 86400 / 366) aa
      have hb:qa (1970+t / 86400 / 366)≤366*(t / 86400 / 366):=by unfold qa;omega
      omega
  unfold dI.f
  rw[td _ ht'.1,tm _ ht'.1,au (x:=t / 86400) aa aa,td _ (by omega:0≤t / 86400),td _ (by omega:0≤t%86400),td _ (by omega:0≤t%86400),tm _ (by omega:0≤t%86400),au (x:=t / 86400 / 366) aa aa,au (x:=1970+_) aa aa,au (x:=t%86400 / 3600) aa aa,au (x:=t%86400 / 60) aa aa,tm _ (by omega:0≤t%86400 / 60)]
  have h2:t%86400 / 60%60=cI t:=by unfold cI;omega
  have h3:t%86400%60=cS t:=by unfold cS;omega
  rw[h2,h3,show t%86400 / 3600=cH t from rfl]
  exact zG t ht _ _ _ (cY t-(1970+t / 86400 / 366)).toNat k _ aa aa aa
def qB (t:Int):Int:=(t / 86400+3)%7
theorem uL (t:Int) (ht:nY t):lg.f t=some (qB t):=by
  have ht':=ht
  unfold nY at ht'
  unfold lg.f qB
  rw[kZ,aj,if_pos ((mK t).2 ht),td _ ht'.1,au (x:=t / 86400) aa aa,au (x:=t / 86400+3) aa aa,tm _ aa]
theorem uM (t:Int) (ht:nY t):lh.f t=some (qB t):=by
  have ht':=ht
  unfold nY at ht'
  unfold lh.f qB
  rw[jP,aj,if_pos ((mK t).2 ht),td _ ht'.1,au (x:=t / 86400) aa aa,au (x:=t / 86400+3) aa aa,tm _ aa]

end Go.Proofs.YtfhllanhldbkkaaGreatDoor.P
end

section
/- Plain laws of our own (DateFns): about numbers and lists alone; no condition beyond those written. -/
namespace Go.Proofs.YtfhllanhldbkkaaGreatDoor.P
open Go.RowKit Go.Proofs.YtfhllanhldbkkaaGreatDoorW.ax Go.Proofs.YtfhllanhldbkkaaGreatDoorW.aD Go.Proofs.YtfhllanhldbkkaaGreatDoorW.aH
set_option linter.unusedVariables false
set_option linter.unusedSimpArgs false
set_option maxHeartbeats 2000000
def gq (l:List UInt8):ByteArray:=⟨l.toArray⟩
theorem dE (l:List UInt8):(gq l).size=l.length:=by simp[gq,ByteArray.size]
theorem jI (a b:List UInt8):gq a++gq b=gq (a++b):=by
  apply ByteArray.ext
  simp[gq]
theorem zH (n:Int) (h0:0≤n) (h1:n<10):gY n=gq [gF n]:=by
  obtain⟨m,rfl⟩:=Int.eq_ofNat_of_zero_le h0
  unfold gY Lib.itoa
  rw[if_neg aa,Int.toNat_natCast,Lib.decDigits_one aa]
  unfold gF gq
  rw[show((m:Int)%10).toNat=m by omega]
theorem NH (n:Int):gF (n%10)=gF n:=by
  unfold gF
  rw[show n%10%10=n%10 by omega]
theorem uq : ∀(c:Nat) (n:Int) (out:List UInt8) (k:Nat),0≤n→n≤1000000000→out.length+c≤100→c≤10→c<k→
    dP.l0 k n (c:Int) (gq out)=some (gq (((List.range c).reverse.map fun j=>gF (n / 10 ^ j))++out)):=by
  intro c
  induction c with
  |zero=>
    intro n out k h0 h1 h2 h3 hk
    obtain⟨k,rfl⟩:=aQ k aa
    rw[dP.l0,if_neg aa]
    rfl
  |succ c ih=>
    intro n out k h0 h1 h2 h3 hk
    obtain⟨k,rfl⟩:=aQ k aa
    have hi:ig.f (n%10)=some (gY (n%10)):=if_pos ⟨by omega,by omega⟩
    have hz:=dE [gF (n%10)]
    have hz2:=dE out
    rw[dP.l0,if_pos aa,tm _ h0,hi,aj,zH (n%10) aa aa,if_pos (by rw[hz,hz2];have q:[gF (n%10)].length=1:=rfl;omega),td _ h0,au (x:=n / 10) aa aa,au aa aa,show((c+1:Nat):Int)-1=(c:Int) by omega,jI,ih (n / 10) _ k aa aa (by rw[List.length_append,List.length_singleton];omega) aa aa]
    congr 2
    rw[List.range_succ_eq_map,List.reverse_cons,List.map_append]
    simp only[List.map_reverse,List.map_map,List.map_cons,List.map_nil,List.append_assoc,List.cons_append,List.nil_append]
    have e1:gF (n / 10 ^ 0)=gF (n%10):=by rw[NH];simp
    rw[e1]
    congr 1
    congr 1
    apply List.map_congr_left
    intro j _
    show gF (n / 10 / 10 ^ j)=gF (n / 10 ^ (j+1))
    rw[Int.pow_succ,Int.mul_comm,← Int.ediv_ediv_of_nonneg ak]
theorem mM (n:Int) (h0:0≤n) (h1:n≤1000000000) (k:Nat) (hk:20<k):dP.f k n 2=some (gq (dO n)):=by
  have:=uq 2 n [] k h0 h1 ak ak aa
  unfold dP.f
  refine this.trans ?_
  congr 2
  show [gF (n / 10 ^ 1),gF (n / 10 ^ 0)] ++ []=_
  unfold dO
  simp
theorem Ca (n:Int) (h0:0≤n) (h1:n≤1000000000) (k:Nat) (hk:20<k):dP.f k n 4=some (gq (lW n)):=by
  have:=uq 4 n [] k h0 h1 ak ak aa
  unfold dP.f
  refine this.trans ?_
  congr 2
  show [gF (n / 10 ^ 3),gF (n / 10 ^ 2),gF (n / 10 ^ 1),gF (n / 10 ^ 0)] ++ []=_
  unfold lW
  simp
theorem vT (u:Nat) (h:10≤u):Lib.decDigits u=Lib.decDigits (u / 10) ++ [gF (u:Int)]:=by
  have e:gF (u:Int)=UInt8.ofNat (48+u%10):=by unfold gF;rw[show((u:Int)%10).toNat=u%10 by omega]
  rw[e,Lib.decDigits,dif_neg aa]
theorem zI (u:Nat) (h:u<10):Lib.decDigits u = [gF (u:Int)]:=by
  rw[Lib.decDigits_one h]
  unfold gF
  rw[show((u:Int)%10).toNat=u by omega]
theorem Fa (n:Int) (h0:0≤n):gY n=gq (Lib.decDigits n.toNat):=by
  unfold gY Lib.itoa gq
  rw[if_neg aa]
theorem zJ (s:ByteArray) (c:Int) (h:c≤s.size) (k:Nat):eT.l0 (k+1) c s=some s:=by
  rw[eT.l0,if_neg aa]
theorem mO (n:Int) (h0:0≤n) (h1:n≤99) (k:Nat) (hk:200<k):eT.f k n 2=some (gq (dO n)):=by
  obtain⟨k,rfl⟩:∃ q,k=q+2:=⟨k-2,by omega⟩
  obtain⟨u,rfl⟩:=Int.eq_ofNat_of_zero_le h0
  unfold eT.f
  rw[gP _ h0 aa _ aa,aj,Fa _ h0,Int.toNat_natCast]
  by_cases c:u<10
  · rw[zI u c,eT.l0,dE,if_pos (by simp),if_pos (by simp)]
    have e:(⟨#[48]⟩:af)++gq [gF (u:Int)]=gq (dO (u:Int)):=by
      show gq [48]++gq _=_
      rw[jI]
      unfold dO
      have:gF ((u:Int) / 10)=48:=by
        unfold gF
        rw[show((u:Int) / 10%10).toNat=0 by omega];rfl
      rw[this];rfl
    rw[e]
    exact zJ _ _ (by rw[dE];exact Int.le_refl _) _
  · rw[vT u aa,zI (u / 10) aa]
    have e:[gF ((u / 10:Nat):Int)] ++ [gF (u:Int)]=dO (u:Int):=by
      unfold dO
      rw[show((u / 10:Nat):Int)=(u:Int) / 10 by omega];rfl
    rw[e]
    exact zJ _ _ (by rw[dE];exact Int.le_refl _) _
theorem Cb (n:Int) (h0:1000≤n) (h1:n≤9999) (k:Nat) (hk:200<k):eT.f k n 4=some (gq (lW n)):=by
  obtain⟨k,rfl⟩:∃ q,k=q+2:=⟨k-2,by omega⟩
  obtain⟨u,rfl⟩:=Int.eq_ofNat_of_zero_le (by omega:0≤n)
  unfold eT.f
  rw[gP _ aa aa _ aa,aj,Fa _ aa,Int.toNat_natCast,vT u aa,vT (u / 10) aa,vT (u / 10 / 10) aa,zI (u / 10 / 10 / 10) aa]
  have e:[gF ((u / 10 / 10 / 10:Nat):Int)] ++ [gF ((u / 10 / 10:Nat):Int)] ++ [gF ((u / 10:Nat):Int)] ++ [gF (u:Int)]=lW (u:Int):=by
    unfold lW
    rw[show((u / 10:Nat):Int)=(u:Int) / 10 by omega,show((u / 10 / 10:Nat):Int)=(u:Int) / 100 by omega,show((u / 10 / 10 / 10:Nat):Int)=(u:Int) / 1000 by omega];rfl
  rw[e]
  exact zJ _ _ (by rw[dE];exact Int.le_refl _) _
theorem Dw (w:Int) (h:0≤w∧w≤6):kT.f w=some (gq (lV w)):=by
  unfold kT.f lV
  repeat' split
  all_goals rfl
theorem KI : ∀ n:Fin 12,iI.f ((n.val:Int)+1)=some (gq (lD ((n.val:Int)+1))):=by decide +kernel
theorem vU (m:Int) (h:1≤m∧m≤12):iI.f m=some (gq (lD m)):=by
  obtain⟨n,hn⟩:=Int.eq_ofNat_of_zero_le (by omega:0≤m-1)
  have:=KI ⟨n,by omega⟩
  rw[show m=(n:Int)+1 by omega]
  exact this
def qY : List ByteArray:=[(⟨#[74,97,110]⟩:af),(⟨#[70,101,98]⟩:af),(⟨#[77,97,114]⟩:af),(⟨#[65,112,114]⟩:af),(⟨#[77,97,121]⟩:af),(⟨#[74,117,110]⟩:af),(⟨#[74,117,108]⟩:af),(⟨#[65,117,103]⟩:af),(⟨#[83,101,112]⟩:af),(⟨#[79,99,116]⟩:af),(⟨#[78,111,118]⟩:af),(⟨#[68,101,99]⟩:af)]
def Fb : List ByteArray:=[(⟨#[77,111,110,100,97,121]⟩:af),(⟨#[84,117,101,115,100,97,121]⟩:af),(⟨#[87,101,100,110,101,115,100,97,121]⟩:af),(⟨#[84,104,117,114,115,100,97,121]⟩:af),(⟨#[70,114,105,100,97,121]⟩:af),(⟨#[83,97,116,117,114,100,97,121]⟩:af),(⟨#[83,117,110,100,97,121]⟩:af)]
theorem sZ : pz.f=some qY:=rfl
theorem Dx : vv.f=some Fb:=rfl
theorem yP (n:Nat) (h:n<12):cZ ByteArray.empty qY (n:Int)=gq (lD ((n:Int)+1)):=by
  have e:n=0∨n=1∨n=2∨n=3∨n=4∨n=5∨n=6∨n=7∨n=8∨n=9∨n=10∨n=11:=by omega
  rcases e with rfl|rfl|rfl|rfl|rfl|rfl|rfl|rfl|rfl|rfl|rfl|rfl <;> rfl
theorem Dy (w:Int) (h:0≤w∧w≤6):cZ ByteArray.empty Fb w=gq (lV w):=by
  have e:w=0∨w=1∨w=2∨w=3∨w=4∨w=5∨w=6:=by omega
  rcases e with rfl|rfl|rfl|rfl|rfl|rfl|rfl <;> rfl
theorem vV (l:List UInt8) (n:Nat):(gq l).extract 0 n=gq (l.take n):=by
  apply ByteArray.ext
  simp[gq]
theorem pK (a b c h i s:Int) (h1:0≤h∧h≤23) (h2:0≤i∧i≤59) (h3:0≤s∧s≤59) (k:Nat) (hk:200<k):kE.f k a b c h i s=some (gq (jM h i s)):=by
  have e:(⟨#[58]⟩:af)=gq [58]:=rfl
  unfold kE.f
  rw[mM h aa aa k aa,aj,if_pos (by rw[dE];simp[dO]),mM i aa aa k aa,aj,e]
  simp only[jI,dE]
  rw[if_pos (by simp[dO]),if_pos (by simp[dO]),mM s aa aa k aa,aj]
  simp only[jI,dE]
  rw[if_pos (by simp[dO])]
  rfl
theorem pM (a b c h i s:Int) (h1:0≤h∧h≤23) (h2:0≤i∧i≤59) (h3:0≤s∧s≤59) (k:Nat) (hk:200<k):iY.f k a b c h i s=some (gq (jM h i s)):=by
  have e:(⟨#[58]⟩:af)=gq [58]:=rfl
  unfold iY.f
  rw[mO h aa aa k aa,aj,if_pos (by rw[dE];simp[dO]),mO i aa aa k aa,aj,e]
  simp only[jI,dE]
  rw[if_pos (by simp[dO]),if_pos (by simp[dO]),mO s aa aa k aa,aj]
  simp only[jI,dE]
  rw[if_pos (by simp[dO])]
  rfl
theorem qC (t:Int):0≤qB t∧qB t≤6:=by unfold qB;omega
def oF (t:Int):ByteArray:=gq ((lV (qB t)).take 3++oC (cY t) (cM t) (cD t) (cH t) (cI t) (cS t))
def lv (t:Int):ByteArray:=gq (lV (qB t)++qA (cY t) (cM t) (cD t) (cH t) (cI t) (cS t))
def oG (t:Int):ByteArray:=gq ((lV (qB t)).take 3++ko (cY t) (cM t) (cD t) (cH t) (cI t) (cS t))
theorem Fe (k:Int):∃ a b c,(lV k).take 3 = [a,b,c]:=by
  generalize hl:lV k=l
  unfold lV at hl
  repeat' split at hl
  all_goals (subst hl;exact⟨_,_,_,rfl⟩)
theorem jr (t:Int) (h:nY t):(1970≤cY t∧cY t≤9999)∧(1≤cM t∧cM t≤12)∧(1≤cD t∧cD t≤31)∧(0≤cH t∧cH t≤23)∧(0≤cI t∧cI t≤59)∧(0≤cS t∧cS t≤59):=by
  have hc:=(fC ..).1 (WM t h)
  have:=BK (cY t) (cM t)
  exact⟨hc.1,hc.2.1,⟨hc.2.2.1.1,by omega⟩,hc.2.2.2.1,hc.2.2.2.2.1,hc.2.2.2.2.2⟩

end Go.Proofs.YtfhllanhldbkkaaGreatDoor.P
end

section
/- Plain laws of our own (DateFns2): about numbers and lists alone; no condition beyond those written. -/
namespace Go.Proofs.YtfhllanhldbkkaaGreatDoor.P
open Go.RowKit Go.Proofs.YtfhllanhldbkkaaGreatDoorW.ax Go.Proofs.YtfhllanhldbkkaaGreatDoorW.aD Go.Proofs.YtfhllanhldbkkaaGreatDoorW.aH
set_option linter.unusedVariables false
set_option linter.unusedSimpArgs false
set_option maxHeartbeats 2000000
theorem NI : (⟨#[44,32]⟩:af)=gq [44,32]:=rfl
theorem Ff : (⟨#[32]⟩:af)=gq [32]:=rfl
theorem WS : (⟨#[45]⟩:af)=gq [45]:=rfl
theorem NJ : (⟨#[32,71,77,84]⟩:af)=gq qz:=rfl
theorem Dz (t:Int) (h:nY t):wrap64 (cM t-1)=(cN t:Int)∧cN t<12∧(cN t:Int)+1=cM t:=by
  have hb:=(jr t h).2.1
  have:cM t=(cN t:Int)+1:=rfl
  refine⟨by rw[au aa aa];omega,by omega,by omega⟩
theorem vW (t:Int) (ht:nY t) (k:Nat) (hk:10000<k):gX.f k t=some (oF t):=by
  obtain⟨hY,hM,hD,hh,hi,hs⟩:=jr t ht
  obtain⟨a,b,c,h3⟩:=Fe (qB t)
  obtain⟨x,y,z,hm,_⟩:=dH (cM t)
  have hlen:=nu (qB t)
  have h3':3≤((gq (lV (qB t))).size:Int):=by rw[dE];omega
  unfold gX.f oF oC
  rw[nJ t ht k aa,aj]
  dsimp only
  rw[if_pos rfl,uL t ht,aj,Dw _ (qC t),aj,if_pos ak,if_pos h3',vV,h3,NI,Ff,NJ,mO (cD t) aa aa k aa,vU _ hM,Cb (cY t) aa aa k aa,pM _ _ _ (cH t) (cI t) (cS t) hh hi hs k aa]
  simp only[aj,jI,dE]
  rw[hm]
  repeat rw[if_pos (by simp[dO,lW,jM,qz])]
  simp only[List.append_assoc]
theorem DC (t:Int) (ht:nY t) (k:Nat) (hk:10000<k):iK.f k t=some (oF t):=by
  obtain⟨hY,hM,hD,hh,hi,hs⟩:=jr t ht
  obtain⟨a,b,c,h3⟩:=Fe (qB t)
  obtain⟨x,y,z,hm,_⟩:=dH (cM t)
  obtain⟨p1,p2,p3⟩:=Dz t ht
  have hw:=qC t
  have hlen:=nu (qB t)
  have h3':3≤((gq (lV (qB t))).size:Int):=by rw[dE];omega
  have l7:Fb.length=7:=rfl
  have WT:qY.length=12:=rfl
  unfold iK.f oF oC
  rw[jP,aj,if_pos ((mK t).2 ht),kP t ht k aa,aj]
  dsimp only
  rw[Dx,aj,uM t ht,aj,if_pos hw.1,l7,if_pos aa,Dy _ hw,if_pos ak,if_pos h3',vV,h3,NI,Ff,NJ,mM (cD t) aa aa k aa,sZ,Ca (cY t) aa aa k aa,pK _ _ _ (cH t) (cI t) (cS t) hh hi hs k aa,p1]
  simp only[aj,yP _ p2,p3,jI,dE,WT]
  rw[hm]
  repeat rw[if_pos (by first|(simp[dO,lW,jM,qz];done)|omega)]
  simp only[List.append_assoc]
theorem vX (t:Int) (ht:nY t) (k:Nat) (hk:10000<k):dR.f k t=some (if cY t≤2069 then lv t else(⟨#[]⟩:af)):=by
  obtain⟨hY,hM,hD,hh,hi,hs⟩:=jr t ht
  obtain⟨x,y,z,hm,_⟩:=dH (cM t)
  have hlen:=nu (qB t)
  obtain⟨k,rfl⟩:=aQ k aa
  unfold dR.f
  rw[nJ t ht (k+1) aa,aj]
  dsimp only
  rw[if_pos rfl]
  simp only[dR.j0]
  by_cases hc:cY t≤2069
  case neg=>rw[aT aa,if_pos rfl,if_neg hc]
  rw[aN aa,if_neg ak,if_pos hc]
  unfold lv qA
  have hy2:Int.tmod (cY t) 100=cY t%100:=tm _ aa
  have hd2:dO (cY t%100)=dO (cY t):=by
    unfold dO gF
    rw[show cY t%100 / 10%10=cY t / 10%10 by omega,show cY t%100%10=cY t%10 by omega]
  rw[uL t ht,aj,Dw _ (qC t),aj,NI,Ff,WS,NJ,mO (cD t) aa aa k aa,vU _ hM,hy2,mO (cY t%100) aa aa k aa,hd2,pM _ _ _ (cH t) (cI t) (cS t) hh hi hs k aa]
  simp only[aj,jI,dE]
  rw[hm]
  repeat rw[if_pos (by simp[dO,lW,jM,qz];omega)]
  simp only[List.append_assoc]
theorem DD (t:Int) (ht:nY t) (k:Nat) (hk:10000<k):fB.f k t=some (if cY t≤2069 then lv t else(⟨#[]⟩:af)):=by
  obtain⟨hY,hM,hD,hh,hi,hs⟩:=jr t ht
  obtain⟨x,y,z,hm,_⟩:=dH (cM t)
  obtain⟨p1,p2,p3⟩:=Dz t ht
  have hw:=qC t
  have hlen:=nu (qB t)
  have l7:Fb.length=7:=rfl
  have WT:qY.length=12:=rfl
  obtain⟨k,rfl⟩:=aQ k aa
  unfold fB.f
  rw[jP,aj,if_pos ((mK t).2 ht),kP t ht (k+1) aa,aj]
  simp only[fB.j0]
  by_cases hc:cY t≤2069
  case neg=>rw[aT aa,if_pos rfl,if_neg hc]
  rw[aN aa,if_neg ak,if_pos hc,kP t ht k aa,aj]
  dsimp only
  unfold lv qA
  rw[Dx,aj,uM t ht,aj,if_pos hw.1,l7,if_pos aa,Dy _ hw,NI,Ff,WS,NJ,mM (cD t) aa aa k aa,sZ,mM (cY t) aa aa k aa,pK _ _ _ (cH t) (cI t) (cS t) hh hi hs k aa,p1]
  simp only[aj,yP _ p2,p3,jI,dE,WT]
  rw[hm]
  repeat rw[if_pos (by first|omega|(simp[dO,lW,jM,qz];omega))]
  simp only[List.append_assoc]
theorem vY (t:Int) (ht:nY t) (k:Nat) (hk:10000<k):dQ.f k t=some (oG t):=by
  obtain⟨hY,hM,hD,hh,hi,hs⟩:=jr t ht
  obtain⟨a,b,c,h3⟩:=Fe (qB t)
  obtain⟨x,y,z,hm,_⟩:=dH (cM t)
  have hlen:=nu (qB t)
  have h3':3≤((gq (lV (qB t))).size:Int):=by rw[dE];omega
  obtain⟨k,rfl⟩:=aQ k aa
  have j:∀ dd:List UInt8,dd.length=2→dQ.j0 (k+1) t (gq dd) (cY t) (cM t) (cD t) (cH t) (cI t) (cS t)=some (gq ([a,b,c]++([32]++lD (cM t) ++ [32]++dd ++ [32]++jM (cH t) (cI t) (cS t) ++ [32]++lW (cY t)))):=by
    intro dd hdd
    simp only[dQ.j0]
    rw[uL t ht,aj,Dw _ (qC t),aj,if_pos ak,if_pos h3',vV,h3,Ff,vU _ hM,Cb (cY t) aa aa k aa,pM _ _ _ (cH t) (cI t) (cS t) hh hi hs k aa]
    simp only[aj,jI,dE]
    rw[hm]
    repeat rw[if_pos (by simp[dO,lW,jM,qz,hdd])]
    simp only[List.append_assoc]
  unfold dQ.f oG ko
  rw[nJ t ht (k+1) aa,aj]
  dsimp only
  rw[if_pos rfl,mO (cD t) aa aa (k+1) aa,aj,h3]
  by_cases q:cD t<10
  · have hx:bU.f (k+1) (cD t)=some (gq [gF (cD t)]):=by rw[gP _ aa aa _ aa,zH _ aa aa]
    rw[if_pos q,if_pos q,hx,aj,if_pos (by rw[dE];simp),Ff,jI]
    exact j [32,gF (cD t)] rfl
  · rw[if_neg q,if_neg q]
    exact j (dO (cD t)) rfl
theorem DF (t:Int) (ht:nY t) (k:Nat) (hk:10000<k):eO.f k t=some (oG t):=by
  obtain⟨hY,hM,hD,hh,hi,hs⟩:=jr t ht
  obtain⟨a,b,c,h3⟩:=Fe (qB t)
  obtain⟨x,y,z,hm,_⟩:=dH (cM t)
  obtain⟨p1,p2,p3⟩:=Dz t ht
  have hw:=qC t
  have hlen:=nu (qB t)
  have h3':3≤((gq (lV (qB t))).size:Int):=by rw[dE];omega
  have l7:Fb.length=7:=rfl
  have WT:qY.length=12:=rfl
  obtain⟨k,rfl⟩:=aQ k aa
  have j:∀ dd:List UInt8,dd.length=2→eO.j0 (k+1) t (gq dd) (cY t) (cM t) (cD t) (cH t) (cI t) (cS t)=some (gq ([a,b,c]++([32]++lD (cM t) ++ [32]++dd ++ [32]++jM (cH t) (cI t) (cS t) ++ [32]++lW (cY t)))):=by
    intro dd hdd
    simp only[eO.j0]
    rw[Dx,aj,uM t ht,aj,if_pos hw.1,l7,if_pos aa,Dy _ hw,if_pos ak,if_pos h3',vV,h3,Ff,sZ,Ca (cY t) aa aa k aa,pK _ _ _ (cH t) (cI t) (cS t) hh hi hs k aa,p1]
    simp only[aj,yP _ p2,p3,jI,dE,WT]
    rw[hm]
    repeat rw[if_pos (by first|(simp[dO,lW,jM,qz,hdd];done)|omega)]
    simp only[List.append_assoc]
  unfold eO.f oG ko
  rw[jP,aj,if_pos ((mK t).2 ht),kP t ht (k+1) aa,aj]
  dsimp only
  rw[mM (cD t) aa aa (k+1) aa,aj,h3]
  by_cases q:cD t<10
  · have hx:(gq (dO (cD t))).extract 1 (gq (dO (cD t))).size=gq [gF (cD t)]:=by
      apply ByteArray.ext
      simp[gq,dO,ByteArray.size]
    rw[if_pos q,if_pos q,if_pos (by rw[dE];simp[dO]),hx,if_pos (by rw[dE];simp),Ff,jI]
    exact j [32,gF (cD t)] rfl
  · rw[if_neg q,if_neg q]
    exact j (dO (cD t)) rfl
theorem DI (t:Int) (ht:¬ nY t) (k:Nat):gX.f k t=some (⟨#[]⟩:af):=by
  unfold gX.f
  rw[nK t ht k,aj]
  rfl
theorem DJ (t:Int) (ht:¬ nY t) (k:Nat):dQ.f k t=some (⟨#[]⟩:af):=by
  unfold dQ.f
  rw[nK t ht k,aj]
  rfl
theorem DK (t:Int) (ht:¬ nY t) (k:Nat) (hk:0<k):dR.f k t=some (⟨#[]⟩:af):=by
  obtain⟨k,rfl⟩:=aQ k hk
  unfold dR.f
  rw[nK t ht (k+1),aj]
  simp only[dR.j0]
  rfl

end Go.Proofs.YtfhllanhldbkkaaGreatDoor.P
end

section
/- Plain laws of our own (DateText2): about numbers and lists alone; no condition beyond those written. -/
namespace Go.Proofs.YtfhllanhldbkkaaGreatDoor.P
open Go.RowKit Go.Proofs.YtfhllanhldbkkaaGreatDoorW.ax Go.Proofs.YtfhllanhldbkkaaGreatDoorW.aD Go.Proofs.YtfhllanhldbkkaaGreatDoorW.aH
set_option linter.unusedVariables false
set_option linter.unusedSimpArgs false
set_option maxHeartbeats 2000000
def Bb (u:ByteArray) (l:List UInt8):Bool:=Lib.contains u.data.toList l
theorem vZ (u:ByteArray) (p:Nat) (a:UInt8):u.data.toList[p]? = some a↔p<u.size∧bt u (p:Int)=(a.toNat:Int):=by
  constructor
  · intro h
    obtain⟨h1,h2⟩:=List.getElem?_eq_some_iff.1 h
    have h3:p<u.size:=by rw[← fK];exact h1
    refine⟨h3,?_⟩
    unfold bt
    rw[dif_pos (show((p:Int)).toNat<u.size by simpa using h3),← h2]
    rfl
  · intro⟨h1,h2⟩
    have h3:p<u.data.toList.length:=by rw[fK];exact h1
    rw[List.getElem?_eq_getElem h3]
    unfold bt at h2
    rw[dif_pos (show((p:Int)).toNat<u.size by simpa using h1)] at h2
    have h4:(u.data.toList[p]).toNat=a.toNat:=by
      have:((u.data.toList[p]).toNat:Int)=(a.toNat:Int):=h2
      omega
    rw[UInt8.toNat_inj.1 h4]
theorem WU (s:List UInt8) (a b c:UInt8) (p:Nat):Lib.occAt s [a,b,c] p=true↔s[p]? = some a∧s[p+1]? = some b∧s[p+2]? = some c:=by
  unfold Lib.occAt
  have e0:s[p]? = (s.drop p)[0]?:=by rw[List.getElem?_drop];rfl
  have e1:s[p+1]? = (s.drop p)[1]?:=by rw[List.getElem?_drop]
  have e2:s[p+2]? = (s.drop p)[2]?:=by rw[List.getElem?_drop]
  rw[e0,e1,e2]
  generalize s.drop p=l
  match l with
  |[]=>simp
  |[x]=>simp
  |[x,y]=>simp
  |x::y::z::r=>
    have e:[a,b,c].isPrefixOf (x::y::z::r)=(a==x&&(b==y&&(c==z&&true))):=by
      simp only[List.isPrefixOf]
    have f0:(x::y::z::r)[0]? = some x:=rfl
    have f1:(x::y::z::r)[1]? = some y:=rfl
    have f2:(x::y::z::r)[2]? = some z:=rfl
    rw[e,f0,f1,f2]
    simp only[Bool.and_eq_true,beq_iff_eq,Option.some.injEq,and_true]
    constructor
    · rintro⟨rfl,rfl,rfl⟩;exact⟨rfl,rfl,rfl⟩
    · rintro⟨rfl,rfl,rfl⟩;exact⟨rfl,rfl,rfl⟩
theorem Fg (u:ByteArray) (a b c:UInt8):Bb u [a,b,c]=true↔∃ p:Nat,p+2<u.size∧bt u (p:Int)=(a.toNat:Int)∧bt u ((p+1:Nat):Int)=(b.toNat:Int)∧bt u ((p+2:Nat):Int)=(c.toNat:Int):=by
  unfold Bb Lib.contains
  rw[decide_eq_true_iff]
  constructor
  · intro h
    rcases Lib.index_spec u.data.toList [a,b,c] with⟨h1,_⟩|⟨i,h1,h2,h3,_⟩
    · omega
    · rw[WU] at h3
      obtain⟨x,y,z⟩:=h3
      rw[vZ] at x y z
      exact⟨i,z.1,x.2,y.2,z.2⟩
  · intro⟨p,h,x,y,z⟩
    rcases Lib.index_spec u.data.toList [a,b,c] with⟨h1,h2⟩|⟨i,h1,_⟩
    · have:=h2 p (by rw[fK];omega)
      rw[(WU _ _ _ _ _).2 ⟨(vZ _ _ _).2 ⟨by omega,x⟩,(vZ _ _ _).2 ⟨by omega,y⟩,(vZ _ _ _).2 ⟨h,z⟩⟩] at this
      simp at this
    · omega
def monE (u:ByteArray):Nat→Int→Int
  |0,_=>0
  |d+1,m=>if Bb u (lD m)=true then m else monE u d (m+1)
theorem KJ (u:ByteArray) (M:Int) (hM:Bb u (lD M)=true):∀(d:Nat) (m:Int),m≤M→M<m+d→(∀ x,m≤x→x<M→Bb u (lD x)=false)→monE u d m=M:=by
  intro d
  induction d with
  |zero=>intro m h1 h2 _;omega
  |succ d ih=>
    intro m h1 h2 h3
    unfold monE
    by_cases e:m=M
    · rw[e,if_pos hM]
    · rw[h3 m (Int.le_refl _) aa,if_neg ak]
      exact ih (m+1) aa aa (fun x a b=>h3 x aa b)
def pE (u:ByteArray):Int:=monE u 12 1
theorem zK {u:ByteArray} (A B:List UInt8) (M:Int) (hM:1≤M∧M≤12) (h:zB u 0 (A++lD M++B)) (hA:∀ b∈A,b.toNat<97) (hB:∀ b∈B,b.toNat<97):pE u=M:=by
  obtain⟨x,y,z,hm,hx,hy,hz⟩:=dH M
  have hs:=h.1
  rw[hm] at h hs
  have gx:=h.get A.length x (by rw[List.append_assoc,List.getElem?_append_right (Nat.le_refl _),Nat.sub_self];rfl)
  have gy:=h.get (A.length+1) y (by rw[List.append_assoc,List.getElem?_append_right aa,Nat.add_sub_cancel_left];rfl)
  have gz:=h.get (A.length+2) z (by rw[List.append_assoc,List.getElem?_append_right aa,Nat.add_sub_cancel_left];rfl)
  rw[Nat.zero_add] at gx gy gz
  simp only[List.length_append,List.length_cons,List.length_nil] at hs
  have low:∀ j:Nat,j<u.size→97≤bt u (j:Int)→j=A.length+1∨j=A.length+2:=by
    intro j hj hb
    by_cases h1:j<A.length
    · have g:=h.get j A[j] (by rw[List.append_assoc,List.getElem?_append_left h1,List.getElem?_eq_getElem h1])
      rw[Nat.zero_add] at g
      have:=hA A[j] (List.getElem_mem h1)
      omega
    · by_cases h2:j<A.length+3
      · by_cases h3:j=A.length
        · subst h3;omega
        · omega
      · have hl:j-(A.length+3)<B.length:=by omega
        have g:=h.get j B[j-(A.length+3)] (by
          have e3:(A ++ [x,y,z]).length=A.length+3:=by simp
          rw[List.getElem?_append_right aa,e3,List.getElem?_eq_getElem hl])
        rw[Nat.zero_add] at g
        have:=hB B[j-(A.length+3)] (List.getElem_mem hl)
        omega
  have hit:Bb u (lD M)=true:=by
    rw[hm,Fg]
    exact⟨A.length,by omega,gx,gy,gz⟩
  refine KJ u M hit 12 1 aa aa fun m h1 h2=>?_
  cases hq:Bb u (lD m) with
  |false=>rfl
  |true=>
    exfalso
    obtain⟨a,b,c,hn,ha,hb,hc⟩:=dH m
    rw[hn,Fg] at hq
    obtain⟨p,q1,q2,q3,q4⟩:=hq
    have r1:=low (p+1) aa aa
    have r2:=low (p+2) q1 aa
    obtain rfl:p=A.length:=by omega
    have e1:a=x:=UInt8.toNat_inj.1 aa
    have e2:b=y:=UInt8.toNat_inj.1 aa
    have e3:c=z:=UInt8.toNat_inj.1 aa
    have:m=M:=E9 m M aa hM (by rw[hn,hm,e1,e2,e3])
    omega
theorem zB.tail {s:ByteArray} {n:Nat} {T:List UInt8} (h:zB s n T):zB (s.extract n s.size) 0 T:=by
  have h1:=h.1
  refine⟨by rw[size_extract];omega,fun j hj=>absurd hj aa,fun j b e=>?_⟩
  have hj:j<T.length:=(List.getElem?_eq_some_iff.1 e).1
  rw[Nat.zero_add,fD _ _ _ _ aa aa aa,show((n:Int)+(j:Int))=((n+j:Nat):Int) by omega]
  exact h.2.2 j b e
theorem oH (n:Int):∀ b∈dO n,b.toNat<97:=by
  intro b hb
  unfold dO at hb
  simp only[List.mem_cons,List.not_mem_nil,or_false] at hb
  rcases hb with rfl|rfl <;> (have:=lU (n / 10);have:=lU n;omega)
theorem Fh (n:Int):∀ b∈lW n,b.toNat<97:=by
  intro b hb
  unfold lW at hb
  simp only[List.mem_cons,List.not_mem_nil,or_false] at hb
  rcases hb with rfl|rfl|rfl|rfl <;> (have:=lU (n / 10);have:=lU n;have:=lU (n / 100);have:=lU (n / 1000);omega)
theorem gu {A B:List UInt8} (hA:∀ b∈A,b.toNat<97) (hB:∀ b∈B,b.toNat<97):∀ b∈A++B,b.toNat<97:=by
  intro b hb
  rcases List.mem_append.1 hb with h|h
  · exact hA b h
  · exact hB b h
theorem DL (h i s:Int):∀ b∈jM h i s,b.toNat<97:=gu (gu (gu (gu (oH _) ak) (oH _)) ak) (oH _)
theorem Gp {s:ByteArray} {n:Nat} {Y M D a i e:Int} (h:zB s n (oC Y M D a i e)) (hM:1≤M∧M≤12):pE (s.extract n s.size)=M:=
  zK ([44,32]++dO D ++ [32]) ([32]++lW Y ++ [32]++jM a i e++qz) M hM (by have:=h.tail;unfold oC at this;simpa only[List.append_assoc] using this)
    (gu (gu ak (oH _)) ak) (gu (gu (gu (gu ak (Fh _)) ak) (DL _ _ _)) ak)
theorem Gq {s:ByteArray} {n:Nat} {Y M D a i e:Int} (h:zB s n (qA Y M D a i e)) (hM:1≤M∧M≤12):pE (s.extract n s.size)=M:=
  zK ([44,32]++dO D ++ [45]) ([45]++dO Y ++ [32]++jM a i e++qz) M hM (by have:=h.tail;unfold qA at this;simpa only[List.append_assoc] using this)
    (gu (gu ak (oH _)) ak) (gu (gu (gu (gu ak (oH _)) ak) (DL _ _ _)) ak)
theorem Gr {s:ByteArray} {n:Nat} {Y M D a i e:Int} (h:zB s n (ko Y M D a i e)) (hM:1≤M∧M≤12):pE (s.extract n s.size)=M:=
  zK [32] ([32]++(if D<10 then [32,gF D] else dO D) ++ [32]++jM a i e ++ [32]++lW Y) M hM (by have:=h.tail;unfold ko at this;simpa only[List.append_assoc] using this)
    ak (gu (gu (gu (gu (gu ak (by
      split
      · intro b hb
        simp only[List.mem_cons,List.not_mem_nil,or_false] at hb
        rcases hb with rfl|rfl
        · decide
        · have:=lU D;omega
      · exact oH _)) ak) (DL _ _ _)) ak) (Fh _))
def noB (s:ByteArray) (c:Int) (n:Nat):Prop:=∀ m:Nat,m<n→bt s (m:Int)≠c
theorem Ht {s:ByteArray} {n:Nat} {T:List UInt8} (h:zB s n T) (c:UInt8) (hc:c.toNat<65) (hT:c∉T):noB s (c.toNat:Int) s.size:=by
  intro m hm
  by_cases q:m<n
  · have:=h.2.1 m q;omega
  · have hl:m-n<T.length:=by have:=h.1;omega
    have g:=h.get (m-n) T[m-n] (List.getElem?_eq_getElem hl)
    rw[show n+(m-n)=m by omega] at g
    rw[g]
    intro e
    exact hT ((UInt8.toNat_inj.1 (show T[m-n].toNat=c.toNat by omega))▸List.getElem_mem hl)
theorem Hu {s:ByteArray} {n:Nat} {T:List UInt8} (h:zB s n T) (c:Int) (hc:c<65):noB s c n:=by
  intro m hm
  have:=h.2.1 m hm;omega
theorem dY {c:UInt8} {A B:List UInt8} (h1:c∉A) (h2:c∉B):c∉A++B:=fun h=>(List.mem_append.1 h).elim h1 h2
theorem sM (n:Int) (c:UInt8) (hc:c.toNat<48):c∉dO n:=by
  intro hb
  unfold dO at hb
  simp only[List.mem_cons,List.not_mem_nil,or_false] at hb
  have:=lU (n / 10);have:=lU n
  rcases hb with rfl|rfl <;> omega
theorem Fj (n:Int) (c:UInt8) (hc:c.toNat<48):c∉lW n:=by
  intro hb
  unfold lW at hb
  simp only[List.mem_cons,List.not_mem_nil,or_false] at hb
  have:=lU (n / 10);have:=lU n;have:=lU (n / 100);have:=lU (n / 1000)
  rcases hb with rfl|rfl|rfl|rfl <;> omega
theorem Hw (n:Int) (c:UInt8) (hc:c.toNat<48):c∉lD n:=by
  obtain⟨x,y,z,hm,hx,hy,hz⟩:=dH n
  rw[hm]
  intro hb
  simp only[List.mem_cons,List.not_mem_nil,or_false] at hb
  rcases hb with rfl|rfl|rfl <;> omega
theorem Hy (h i s:Int) (c:UInt8) (hc:c.toNat<48):c∉jM h i s:=
  have k:c∉([58]:List UInt8):=by intro hb;simp only[List.mem_cons,List.not_mem_nil,or_false] at hb;subst hb;exact absurd hc ak
  dY (dY (dY (dY (sM _ _ hc) k) (sM _ _ hc)) k) (sM _ _ hc)
theorem Ja (Y M D h i s:Int):(45:UInt8)∉oC Y M D h i s:=
  dY (dY (dY (dY (dY (dY (dY (dY ak (sM _ _ ak)) ak) (Hw _ _ ak)) ak) (Fj _ _ ak)) ak) (Hy _ _ _ _ ak)) ak
theorem Jb (Y M D h i s:Int):(44:UInt8)∉ko Y M D h i s:=
  dY (dY (dY (dY (dY (dY (dY ak (Hw _ _ ak)) ak) (by
    split
    · intro hb
      simp only[List.mem_cons,List.not_mem_nil,or_false] at hb
      rcases hb with hb|hb
      · exact absurd hb ak
      · have:=lU D;rw[← hb] at this;exact absurd this ak
    · exact sM _ _ ak)) ak) (Hy _ _ _ _ ak)) ak) (Fj _ _ ak)

end Go.Proofs.YtfhllanhldbkkaaGreatDoor.P
end

section
/- Plain laws of our own (ReadDate1): about numbers and lists alone; no condition beyond those written. -/
namespace Go.Proofs.YtfhllanhldbkkaaGreatDoor.P
open Go.RowKit Go.Proofs.YtfhllanhldbkkaaGreatDoorW.ax Go.Proofs.YtfhllanhldbkkaaGreatDoorW.aD Go.Proofs.YtfhllanhldbkkaaGreatDoorW.aH
set_option linter.unusedVariables false
set_option linter.unusedSimpArgs false
set_option maxHeartbeats 2000000
theorem DN (c:Int):eZ.f c=some (decide (nI c)):=by
  unfold eZ.f
  by_cases h:c≥48
  · rw[if_pos h]
    by_cases q:c≤57
    · rw[aT q,aT (show nI c from⟨h,q⟩)]
    · rw[aN q,aN (show ¬ nI c from fun z=>q z.2)]
  · rw[if_neg h,aN (show ¬ nI c from fun z=>h z.1)]
theorem adA (a:Nat) (h:a≤9):(10:Int) ^ a≤1000000000:=by
  have:∀ b:Fin 10,(10:Int) ^ b.val≤1000000000:=by decide +kernel
  exact this ⟨a,by omega⟩
theorem KL (s:ByteArray) (hs:s.size≤100) (out:List Int) (ho:out.length<1000) (i:Nat) (R:Option (List Int)) (K:Nat) :
    ∀(d x k:Nat) (n:Int),i≤x→x≤i+9→x+d=i+10→x≤s.size→0≤n→n<10 ^ (x-i)→K+d<k→
      (∀ k',K≤k'→(if(kr s i d x n).1>i then bB.l0 k' s (out ++ [(kr s i d x n).2]) ((kr s i d x n).1:Int) else bB.l0 k' s out ((i+1:Nat):Int))=R)→
      bB.l1 k s out (i:Int) (x:Int) n=R:=by
  intro d
  induction d with
  |zero=>intro x k n h1 h2 h3;omega
  |succ d ih=>
    intro x k n h1 h2 h3 h4 h5 h6 hk hR
    obtain⟨k,rfl⟩:=aQ k aa
    have hp:=adA (x-i) aa
    simp only[bB.l1]
    by_cases hc:x<s.size∧nI (bt s (x:Int))∧x<i+9
    · simp only[kr,if_pos hc] at hR
      have hd:=hc.2.1
      unfold nI at hd
      rw[if_pos aa,if_pos aa,DN,aj,aT hc.2.1,if_pos rfl,au (x:=(x:Int)-i) aa aa,if_pos aa,
        au (x:=10*n) aa aa,show(bt s (x:Int)-48)%256=bt s (x:Int)-48 by omega,au (x:=10*n+_) aa aa,bX x aa]
      refine ih (x+1) k _ aa aa aa aa aa ?_ aa hR
      rw[show x+1-i=(x-i)+1 by omega,Int.pow_succ]
      omega
    · simp only[kr,if_neg hc] at hR
      have hE:(if(x:Int)>i then(if out.length<17592186044416 then bB.l0 k s (out ++ [n]) (wrap64 ((wrap64 ((x:Int)-1))+1)) else none) else bB.l0 k s out (wrap64 ((i:Int)+1)))=R:=by
        have q:=hR k aa
        by_cases a:x>i
        · rw[if_pos a] at q
          rw[if_pos aa,if_pos aa,au (x:=(x:Int)-1) aa aa,show(x:Int)-1+1=x by omega,au (x:=(x:Int)) aa aa]
          exact q
        · rw[if_neg a] at q
          rw[if_neg aa,bX i aa]
          exact q
      by_cases a:x<s.size
      · rw[if_pos aa,if_pos aa,DN,aj]
        by_cases b:nI (bt s (x:Int))
        · rw[aT b,if_pos rfl,au (x:=(x:Int)-i) aa aa,if_neg (fun q=>hc ⟨a,b,by omega⟩)]
          exact hE
        · rw[aN b,if_neg ak]
          exact hE
      · rw[if_neg aa]
        exact hE
theorem Jc (s:ByteArray) (hs:s.size≤100):∀(d i k:Nat) (out:List Int),out.length+d≤200→i≤s.size→s.size≤i+d→20*d+1<k→bB.l0 k s out (i:Int)=some (lX s d i out):=by
  intro d
  induction d with
  |zero=>
    intro i k out h1 h2 h3 hk
    obtain⟨k,rfl⟩:=aQ k aa
    simp only[bB.l0]
    rw[if_neg aa]
    rfl
  |succ d ih=>
    intro i k out h1 h2 h3 hk
    obtain⟨k,rfl⟩:=aQ k aa
    simp only[bB.l0]
    by_cases a:i<s.size
    · rw[if_pos aa]
      have e:lX s (d+1) i out=if(kr s i 10 i 0).1>i then lX s d (kr s i 10 i 0).1 (out ++ [(kr s i 10 i 0).2]) else lX s d (i+1) out:=by
        simp only[lX];rw[if_pos a]
      rw[e]
      have hr:=Dv s i 10 i 0 (Nat.le_refl _) aa (by rw[Nat.sub_self];decide) aa h2
      refine KL s hs out aa i _ (20*d+2) 10 i k 0 (Nat.le_refl _) aa aa h2 aa (by rw[Nat.sub_self];decide) aa ?_
      intro k' hk'
      by_cases b:(kr s i 10 i 0).1>i
      · rw[if_pos b,if_pos b]
        exact ih _ k' _ (by rw[List.length_append];simp only[List.length_cons,List.length_nil];omega) hr.2.1 aa aa
      · rw[if_neg b,if_neg b]
        exact ih (i+1) k' out aa aa aa aa
    · rw[if_neg aa]
      simp only[lX]
      rw[if_neg a]
theorem Cc (s:ByteArray) (hs:s.size≤40) (k:Nat) (hk:3000<k):bB.f k s=some (numsOf s):=
  Jc s aa 100 0 k [] (by simp) aa aa aa
theorem DR (u:ByteArray) (hu:u.size≤1048576) (m:Int):strings_Contains.f u (gq (lD m))=some (Bb u (lD m)):=by
  obtain⟨a,b,c,hm,_⟩:=dH m
  rw[hm]
  have e:stringslite_Index.f u (gq [a,b,c])=if u.size<4294967281 then some (Lib.index u.data.toList [a,b,c]) else none:=rfl
  unfold strings_Contains.f strings_Index.f
  rw[e,if_pos aa]
  rfl
theorem Gs (u:ByteArray) (hu:u.size≤1048576):∀(d n k:Nat),n+d=12→d<k→gU.l0 k u qY 12 (n:Int)=some (monE u d ((n:Int)+1)):=by
  intro d
  induction d with
  |zero=>
    intro n k h hk
    obtain⟨k,rfl⟩:=aQ k aa
    simp only[gU.l0]
    rw[if_neg aa]
    rfl
  |succ d ih=>
    intro n k h hk
    obtain⟨k,rfl⟩:=aQ k aa
    simp only[gU.l0]
    have hl:(qY.length:Int)=12:=rfl
    rw[if_pos aa,if_pos aa,if_pos aa,yP n aa,DR u hu,aj,bX n aa]
    have e:monE u (d+1) ((n:Int)+1)=if Bb u (lD ((n:Int)+1))=true then(n:Int)+1 else monE u d ((n:Int)+1+1):=rfl
    rw[e]
    by_cases a:Bb u (lD ((n:Int)+1))=true
    · rw[if_pos a,if_pos a];congr 1
    · rw[if_neg a,if_neg a,ih (n+1) k aa aa];congr 1
theorem zL (u:ByteArray) (hu:u.size≤1048576) (k:Nat) (hk:20<k):gU.f k u=some (pE u):=by
  unfold gU.f
  rw[sZ,aj]
  exact Gs u hu 12 0 k rfl aa
theorem wh (s:ByteArray) (c:Int) (u:UInt8) (h:c.toNat.toUInt8=u):strings_IndexByte.f s c=some (if aJ s (u.toNat:Int)<s.size then(aJ s (u.toNat:Int):Int) else -1):=by
  have e:strings_IndexByte.f s c=some (Lib.indexByte s.data.toList c.toNat.toUInt8):=rfl
  rw[e,h,uD]

end Go.Proofs.YtfhllanhldbkkaaGreatDoor.P
end

section
/- Plain laws of our own (ReadDate2): about numbers and lists alone; no condition beyond those written. -/
namespace Go.Proofs.YtfhllanhldbkkaaGreatDoor.P
open Go.RowKit Go.Proofs.YtfhllanhldbkkaaGreatDoorW.ax Go.Proofs.YtfhllanhldbkkaaGreatDoorW.aD Go.Proofs.YtfhllanhldbkkaaGreatDoorW.aH
set_option linter.unusedVariables false
set_option linter.unusedSimpArgs false
set_option maxHeartbeats 2000000
def Jq (t:Int) (s:ByteArray):Prop:=nY t∧(s=oF t∨s=oG t∨(cY t≤2069∧s=lv t))
theorem Jd {Y M D h m e:Int} (q:(tF Y M D h m e).2=true):nY (tF Y M D h m e).1:=by
  unfold tF at q ⊢
  by_cases c:rQ Y M D h m e=true
  · rw[if_pos c];exact Kb _ _ _ _ _ _ c
  · rw[if_neg c] at q;exact absurd q ak
theorem Gt (t:Int) (h:nY t):tF (cY t) (cM t) (cD t) (cH t) (cI t) (cS t)=(t,true):=by
  unfold tF;rw[if_pos (WM t h),WN]
theorem wm (s:ByteArray) (h6:6≤s.size) (Y M D h m e:Int) (k:Nat) (hk:10002<k) :
    ((tF Y M D h m e).2=true∧Jq (tF Y M D h m e).1 s→av.j1 k s Y M D h m e=some ((tF Y M D h m e).1,true))∧(¬ ((tF Y M D h m e).2=true∧Jq (tF Y M D h m e).1 s)→av.j1 k s Y M D h m e=some (0,false)):=by
  obtain⟨k,rfl⟩:=aQ k aa
  simp only[av.j1]
  rw[vS _ _ _ _ _ _ k aa,aj]
  have ht:=@Jd Y M D h m e
  generalize tF Y M D h m e=v at ht ⊢
  by_cases q:v.2=true
  · have ht:=ht q
    rw[if_pos q,DC v.1 ht k aa,aj]
    by_cases e1:(oF v.1).toList=s.toList
    · rw[if_pos e1];exact⟨fun _=>rfl,fun z=>absurd ⟨q,ht,Or.inl ((bA _ _).1 e1).symm⟩ z⟩
    · rw[if_neg e1,DD v.1 ht k aa,aj]
      by_cases e2:(if cY v.1≤2069 then lv v.1 else(⟨#[]⟩:af)).toList=s.toList
      · rw[if_pos e2]
        refine⟨fun _=>rfl,fun z=>absurd ⟨q,ht,Or.inr (Or.inr ?_)⟩ z⟩
        by_cases c:cY v.1≤2069
        · rw[if_pos c] at e2;exact⟨c,((bA _ _).1 e2).symm⟩
        · rw[if_neg c] at e2
          have:=(bA _ _).1 e2
          rw[← this] at h6
          exact absurd h6 ak
      · rw[if_neg e2,DF v.1 ht k aa,aj]
        by_cases e3:(oG v.1).toList=s.toList
        · rw[if_pos e3];exact⟨fun _=>rfl,fun z=>absurd ⟨q,ht,Or.inr (Or.inl ((bA _ _).1 e3).symm)⟩ z⟩
        · rw[if_neg e3]
          refine⟨fun z=>?_,fun _=>rfl⟩
          exfalso
          rcases z.2.2 with a|a|⟨c,a⟩
          · exact e1 ((bA _ _).2 a.symm)
          · exact e3 ((bA _ _).2 a.symm)
          · exact e2 (by rw[if_pos c];exact(bA _ _).2 a.symm)
  · rw[if_neg q]
    exact⟨fun z=>absurd z.1 q,fun _=>rfl⟩
theorem WV (s:ByteArray):strings_IndexByte.f s 44=some (if aJ s 44<s.size then(aJ s 44:Int) else -1):=wh s 44 44 rfl
theorem WW (s:ByteArray):strings_IndexByte.f s 45=some (if aJ s 45<s.size then(aJ s 45:Int) else -1):=wh s 45 45 rfl
def yrS (b:Int):Int:=if b+1900<1970 then b+2000 else b+1900
theorem nS (s:ByteArray) (h6:6≤s.size) (h40:s.size≤40) (a b c d e:Int) (hn:numsOf s = [a,b,c,d,e]) (k:Nat) (hk:3001<k) :
    av.j0 (k+1) s false=if aJ s 44<s.size then(if aJ s 45<s.size then av.j1 k s (yrS b) (pE (s.extract (aJ s 44) s.size)) a c d e else av.j1 k s b (pE (s.extract (aJ s 44) s.size)) a c d e) else av.j1 k s e (pE (s.extract 3 s.size)) a b c d:=by
  have hb:0≤b∧b≤999999999:=KG s 100 0 [] (Nat.zero_le _) (fun x hx=>absurd hx List.not_mem_nil) b (by
    have:lX s 100 0 [] = [a,b,c,d,e]:=hn
    rw[this];simp)
  have L5:(([a,b,c,d,e]:List Int).length:Int)=5:=rfl
  have r0:rd [a,b,c,d,e] 0=a:=rfl
  have r1:rd [a,b,c,d,e] 1=b:=rfl
  have r2:rd [a,b,c,d,e] 2=c:=rfl
  have r3:rd [a,b,c,d,e] 3=d:=rfl
  have r4:rd [a,b,c,d,e] 4=e:=rfl
  simp only[av.j0]
  rw[if_neg ak,Cc s h40 k aa,aj,hn,L5,r0,r1,r2,r3,r4,if_pos rfl,if_pos aa,zL _ (by rw[size_extract];omega) k aa,aj,WV,aj]
  by_cases c1:aJ s 44<s.size
  · rw[if_pos c1,if_pos c1,if_pos aa,if_pos aa,if_pos aa,Int.toNat_natCast,zL _ (by rw[size_extract];omega) k aa,aj,if_pos ak,if_pos ak,if_pos ak,if_pos ak,if_pos ak,WW,aj]
    by_cases c2:aJ s 45<s.size
    · rw[if_pos c2,if_pos c2,if_pos aa,au (x:=b+1900) aa aa]
      unfold yrS
      by_cases c3:b+1900<1970
      · rw[if_pos c3,if_pos c3,au (x:=b+1900+100) aa aa,show b+1900+100=b+2000 by omega]
      · rw[if_neg c3,if_neg c3]
    · rw[if_neg c2,if_neg c2,if_neg ak]
  · rw[if_neg c1,if_neg c1,if_neg ak,if_pos ak,if_pos ak,if_pos ak,if_pos ak,if_pos ak]
theorem adB (l:List Int) (h:l.length=5):∃ a b c d e,l = [a,b,c,d,e]:=by
  match l,h with
  |[a,b,c,d,e],_=>exact⟨a,b,c,d,e,rfl⟩
theorem DT (s:ByteArray) (H:∀ t,¬ Jq t s) (k:Nat) (hk:20000<k):av.f k s=some (0,false):=by
  obtain⟨k,rfl⟩:=aQ k aa
  unfold av.f
  have ht:av.j0 (k+1) s true=some (0,false):=by simp only[av.j0];rw[if_pos trivial]
  by_cases c0:(s.size:Int)<6
  · rw[if_pos c0,ht]
  rw[if_neg c0]
  by_cases c1:(s.size:Int)>40
  · rw[aT c1,ht]
  rw[aN c1]
  by_cases h5:(numsOf s).length=5
  · obtain⟨a,b,c,d,e,hn⟩:=adB _ h5
    rw[nS s aa aa a b c d e hn k aa]
    have no:∀ Y M D h m e,av.j1 k s Y M D h m e=some (0,false):=fun Y M D h m e=>(wm s aa Y M D h m e k aa).2 (fun z=>H _ z.2)
    rw[no,no,no]
    split
    · split <;> rfl
    · rfl
  · simp only[av.j0]
    rw[if_neg ak,Cc s aa k aa,aj,if_neg aa]
theorem Hz (t:Int):zB (oF t) 3 (oC (cY t) (cM t) (cD t) (cH t) (cI t) (cS t)):=by
  obtain⟨a,b,c,h3⟩:=Fe (qB t)
  have h:=Du ((lV (qB t)).take 3) (oC (cY t) (cM t) (cD t) (cH t) (cI t) (cS t)) (fun b hb=>qU _ b (List.mem_of_mem_take hb))
  rw[show((lV (qB t)).take 3).length=3 by rw[h3];rfl] at h
  exact h
theorem HY (t:Int):zB (oG t) 3 (ko (cY t) (cM t) (cD t) (cH t) (cI t) (cS t)):=by
  obtain⟨a,b,c,h3⟩:=Fe (qB t)
  have h:=Du ((lV (qB t)).take 3) (ko (cY t) (cM t) (cD t) (cH t) (cI t) (cS t)) (fun b hb=>qU _ b (List.mem_of_mem_take hb))
  rw[show((lV (qB t)).take 3).length=3 by rw[h3];rfl] at h
  exact h
theorem HZ (t:Int):zB (lv t) (lV (qB t)).length (qA (cY t) (cM t) (cD t) (cH t) (cI t) (cS t)):=
  Du (lV (qB t)) _ (fun b hb=>qU _ b hb)
theorem Ce (Y M D h i e:Int):(oC Y M D h i e).length=26:=by
  obtain⟨x,y,z,hm,_⟩:=dH M
  unfold oC;rw[hm];rfl
theorem Cf (Y M D h i e:Int):(qA Y M D h i e).length=24:=by
  obtain⟨x,y,z,hm,_⟩:=dH M
  unfold qA;rw[hm];rfl
theorem Cg (Y M D h i e:Int):(ko Y M D h i e).length=21:=by
  obtain⟨x,y,z,hm,_⟩:=dH M
  unfold ko;rw[hm]
  split <;> rfl
theorem Bc (t:Int) (s:ByteArray) (H:Jq t s) (k:Nat) (hk:20000<k):av.f k s=some (t,true):=by
  obtain⟨k,rfl⟩:=aQ k aa
  have go:6≤s.size→s.size≤40→av.j0 (k+1) s false=av.j1 k s (cY t) (cM t) (cD t) (cH t) (cI t) (cS t)→av.f (k+1) s=some (t,true):=by
    intro h6 h40 e
    unfold av.f
    rw[if_neg aa,aN aa,e]
    have:=(wm s h6 (cY t) (cM t) (cD t) (cH t) (cI t) (cS t) k aa).1 (by rw[Gt t H.1];exact⟨rfl,H⟩)
    rw[Gt t H.1] at this
    exact this
  have hb:=jr t H.1
  obtain⟨ht,e|e|⟨c,e⟩⟩:=H
  · have A:=Hz t
    rw[← e] at A
    have hs:=A.1
    rw[Ce] at hs
    have hn:=I7 A aa aa aa aa aa aa
    rw[show cD t%100=cD t by omega,show cY t%10000=cY t by omega,show cH t%100=cH t by omega,show cI t%100=cI t by omega,show cS t%100=cS t by omega] at hn
    have p44:aJ s 44=3:=mY s 44 3 aa (Hu A 44 ak) (fun _=>A.get 0 44 rfl)
    have p45:aJ s 45=s.size:=mY s 45 s.size (Nat.le_refl _) (Ht A 45 ak (Ja _ _ _ _ _ _)) (fun q=>absurd q (Nat.lt_irrefl _))
    refine go aa aa ?_
    rw[nS s aa aa _ _ _ _ _ hn k aa,p44,p45,if_pos aa,if_neg (Nat.lt_irrefl _),Gp A hb.2.1]
  · have A:=HY t
    rw[← e] at A
    have hs:=A.1
    rw[Cg] at hs
    have hn:=I9 A aa aa aa aa aa aa
    rw[show cD t%100=cD t by omega,show cY t%10000=cY t by omega,show cH t%100=cH t by omega,show cI t%100=cI t by omega,show cS t%100=cS t by omega] at hn
    have p44:aJ s 44=s.size:=mY s 44 s.size (Nat.le_refl _) (Ht A 44 ak (Jb _ _ _ _ _ _)) (fun q=>absurd q (Nat.lt_irrefl _))
    refine go aa aa ?_
    rw[nS s aa aa _ _ _ _ _ hn k aa,p44,if_neg (Nat.lt_irrefl _),Gr A hb.2.1]
  · have A:=HZ t
    rw[← e] at A
    have hs:=A.1
    rw[Cf] at hs
    have hl:=nu (qB t)
    have hn:=I8 A aa aa aa aa aa aa
    rw[show cD t%100=cD t by omega,show cH t%100=cH t by omega,show cI t%100=cI t by omega,show cS t%100=cS t by omega] at hn
    have p44:aJ s 44=(lV (qB t)).length:=mY s 44 _ aa (Hu A 44 ak) (fun _=>A.get 0 44 rfl)
    have p45:aJ s 45<s.size:=by
      have g:=A.get 4 45 rfl
      have:=fJ s 45
      by_cases q:aJ s 45<s.size
      · exact q
      · exact absurd g (o9 s 45 ((lV (qB t)).length+4) aa)
    have hy:yrS (cY t%100)=cY t:=by unfold yrS;split <;> omega
    refine go aa aa ?_
    rw[nS s aa aa _ _ _ _ _ hn k aa,p44,if_pos aa,if_pos p45,hy,Gq A hb.2.1]

end Go.Proofs.YtfhllanhldbkkaaGreatDoor.P
end

section
/- Plain laws of our own (ReadDate3): about numbers and lists alone; no condition beyond those written. -/
namespace Go.Proofs.YtfhllanhldbkkaaGreatDoor.P
open Go.RowKit Go.Proofs.YtfhllanhldbkkaaGreatDoorW.ax Go.Proofs.YtfhllanhldbkkaaGreatDoorW.aD Go.Proofs.YtfhllanhldbkkaaGreatDoorW.aH
set_option linter.unusedVariables false
set_option linter.unusedSimpArgs false
set_option maxHeartbeats 2000000
theorem KM (c:Int):bS.f c=some (decide (nI c)):=DN c
theorem KN (u:ByteArray) (hu:u.size≤1000):∀(d i k:Nat) (x:Int),i+d=u.size→d<k→∃ v,aX.l0 k u x (i:Int)=some v:=by
  intro d
  induction d with
  |zero=>
    intro i k x h hk
    obtain⟨k,rfl⟩:=aQ k aa
    exact⟨x,by simp only[aX.l0];rw[if_neg aa]⟩
  |succ d ih=>
    intro i k x h hk
    obtain⟨k,rfl⟩:=aQ k aa
    simp only[aX.l0]
    rw[if_pos aa,if_pos aa,bX i aa]
    by_cases a:bt u (i:Int)=32
    · rw[if_pos a];exact ih (i+1) k _ aa aa
    · rw[if_neg a,KM,aj]
      by_cases b:nI (bt u (i:Int))
      · rw[aT b,if_pos rfl];exact ih (i+1) k _ aa aa
      · rw[aN b,if_neg ak];exact⟨_,rfl⟩
theorem DU (u:ByteArray) (hu:u.size≤1000) (k:Nat) (hk:1000<k):∃ v,aX.f k u=some v:=KN u hu u.size 0 k 0 aa aa
theorem uN {u:ByteArray} {i k:Nat} {x:Int} (y:Int) (h1:i<u.size) (hu:u.size≤1000) (h2:bt u (i:Int)=48+y%10) (h3:0≤x) (h4:x≤100000):aX.l0 (k+1) u x (i:Int)=aX.l0 k u (x*10+y%10) ((i+1:Nat):Int):=by
  simp only[aX.l0]
  rw[if_pos aa,if_pos aa,if_neg aa,KM,aj,aT (show nI (bt u (i:Int)) from by unfold nI;omega),if_pos rfl,h2,bX i aa,
    show(48+y%10-48)%256=y%10 by omega,au (x:=x*10) aa aa,au (x:=x*10+y%10) aa aa]
theorem Ry {u:ByteArray} {i k:Nat} {x:Int} (h1:i<u.size) (hu:u.size≤1000) (h2:bt u (i:Int)=32) (h3:0≤x) (h4:x≤100000):aX.l0 (k+1) u x (i:Int)=aX.l0 k u (x*10) ((i+1:Nat):Int):=by
  simp only[aX.l0]
  rw[if_pos aa,if_pos aa,if_pos h2,bX i aa,au (x:=x*10) aa aa]
theorem DV {u:ByteArray} {i k:Nat} {x:Int} (h1:u.size≤i):aX.l0 (k+1) u x (i:Int)=some x:=by
  simp only[aX.l0]
  rw[if_neg aa]
theorem uO (l:List UInt8) (j:Nat) (n:Int) (h:l[j]? = some (gF n)):bt (gq l) (j:Int)=48+n%10:=(yO l j (gF n) h).trans (Dt n)
theorem uP (n:Int) (h:0≤n) (k:Nat) (hk:1000<k):aX.f k (gq (dO n))=some (n%100):=by
  obtain⟨k,rfl⟩:∃ j,k=j+3:=⟨k-3,by omega⟩
  have hz:(gq (dO n)).size=2:=rfl
  have e:aX.f (k+3) (gq (dO n))=aX.l0 (k+3) (gq (dO n)) 0 ((0:Nat):Int):=rfl
  rw[e,uN (n / 10) aa aa (uO _ 0 _ rfl) aa aa,uN n aa aa (uO _ 1 _ rfl) aa aa,DV aa]
  congr 1
  omega
theorem KO (n:Int) (h:0≤n) (k:Nat) (hk:1000<k):aX.f k (gq (lW n))=some (n%10000):=by
  obtain⟨k,rfl⟩:∃ j,k=j+5:=⟨k-5,by omega⟩
  have hz:(gq (lW n)).size=4:=rfl
  have e:aX.f (k+5) (gq (lW n))=aX.l0 (k+5) (gq (lW n)) 0 ((0:Nat):Int):=rfl
  rw[e,uN (n / 1000) aa aa (uO _ 0 _ rfl) aa aa,uN (n / 100) aa aa (uO _ 1 _ rfl) aa aa,
    uN (n / 10) aa aa (uO _ 2 _ rfl) aa aa,uN n aa aa (uO _ 3 _ rfl) aa aa,DV aa]
  congr 1
  omega
theorem Rz (n:Int) (h:0≤n) (h9:n<10) (k:Nat) (hk:1000<k):aX.f k (gq [32,gF n])=some n:=by
  obtain⟨k,rfl⟩:∃ j,k=j+3:=⟨k-3,by omega⟩
  have hz:(gq [32,gF n]).size=2:=rfl
  have e:aX.f (k+3) (gq [32,gF n])=aX.l0 (k+3) (gq [32,gF n]) 0 ((0:Nat):Int):=rfl
  have b0:bt (gq [32,gF n]) ((0:Nat):Int)=32:=yO [32,gF n] 0 32 rfl
  rw[e,Ry (u:=gq [32,gF n]) (i:=0) aa aa b0 aa aa,uN n aa aa (uO _ 1 _ rfl) aa aa,DV aa]
  congr 1
  omega
theorem KP (u:ByteArray):∀(d n k:Nat),n+d=12→d<k→∃ v,eU.l0 k u ((n:Int)+1)=some v:=by
  intro d
  induction d with
  |zero=>
    intro n k h hk
    obtain⟨k,rfl⟩:=aQ k aa
    exact⟨-1,by simp only[eU.l0];rw[if_neg aa]⟩
  |succ d ih=>
    intro n k h hk
    obtain⟨k,rfl⟩:=aQ k aa
    simp only[eU.l0]
    rw[if_pos aa,vU _ aa,aj,au (x:=(n:Int)+1+1) aa aa]
    by_cases a:(gq (lD ((n:Int)+1))).toList=u.toList
    · rw[if_pos a];exact⟨_,rfl⟩
    · rw[if_neg a];exact ih (n+1) k aa aa
theorem RA (u:ByteArray) (k:Nat) (hk:20<k):∃ v,eU.f k u=some v:=KP u 12 0 k rfl aa
theorem NK {a b:List UInt8} (h:gq a=gq b):a=b:=by
  have:=congrArg (fun x:ByteArray=>x.data.toList) h
  simpa [gq] using this
theorem NL (M:Int) (hM:1≤M∧M≤12):∀(d n k:Nat),n+d=12→d<k→(n:Int)+1≤M→eU.l0 k (gq (lD M)) ((n:Int)+1)=some M:=by
  intro d
  induction d with
  |zero=>intro n k h hk hn;omega
  |succ d ih=>
    intro n k h hk hn
    obtain⟨k,rfl⟩:=aQ k aa
    simp only[eU.l0]
    rw[if_pos aa,vU _ aa,aj,au (x:=(n:Int)+1+1) aa aa]
    by_cases a:(n:Int)+1=M
    · rw[a,if_pos rfl]
    · rw[if_neg (fun z=>a (E9 _ _ aa hM (NK ((bA _ _).1 z))))]
      exact ih (n+1) k aa aa aa
theorem KQ (M:Int) (hM:1≤M∧M≤12) (k:Nat) (hk:20<k):eU.f k (gq (lD M))=some M:=NL M hM 12 0 k rfl aa aa
theorem DW (Y M D:Int) (u:ByteArray) (h8:8≤u.size) (k:Nat) (hk:10000<k):∃ v,jd.f k Y M D u=some v:=by
  obtain⟨a,ha⟩:=DU (u.extract 0 2) (by rw[size_extract];omega) k aa
  obtain⟨b,hb⟩:=DU (u.extract 3 5) (by rw[size_extract];omega) k aa
  obtain⟨c,hc⟩:=DU (u.extract 6 8) (by rw[size_extract];omega) k aa
  unfold jd.f
  rw[if_pos ak,if_pos aa,ha,aj,if_pos ak,if_pos aa,hb,aj,if_pos ak,if_pos aa,hc,aj,pq _ _ _ _ _ _ k aa,aj]
  by_cases q:(tF Y M D a b c).2=true
  · rw[if_pos q];exact⟨_,rfl⟩
  · rw[if_neg q];exact⟨_,rfl⟩
theorem iU (l:List UInt8) (a b:Nat):(gq l).extract a b=gq ((l.take b).drop a):=by
  apply ByteArray.ext
  apply Array.toList_inj.1
  rw[vG]
  simp[gq]
theorem Gu (t:Int) (ht:nY t) (k:Nat) (hk:10000<k):jd.f k (cY t) (cM t) (cD t) (gq (jM (cH t) (cI t) (cS t)))=some t:=by
  have hb:=jr t ht
  have e0:(gq (jM (cH t) (cI t) (cS t))).extract 0 2=gq (dO (cH t)):=by rw[iU];rfl
  have e1:(gq (jM (cH t) (cI t) (cS t))).extract 3 5=gq (dO (cI t)):=by rw[iU];rfl
  have e2:(gq (jM (cH t) (cI t) (cS t))).extract 6 8=gq (dO (cS t)):=by rw[iU];rfl
  have hz:(gq (jM (cH t) (cI t) (cS t))).size=8:=rfl
  unfold jd.f
  rw[if_pos ak,if_pos aa,e0,uP _ aa k aa,aj,if_pos ak,if_pos aa,e1,uP _ aa k aa,aj,if_pos ak,if_pos aa,e2,uP _ aa k aa,aj,
    show cH t%100=cH t by omega,show cI t%100=cI t by omega,show cS t%100=cS t by omega,pq _ _ _ _ _ _ k aa,aj,Gt t ht,if_pos rfl]

end Go.Proofs.YtfhllanhldbkkaaGreatDoor.P
end

section
/- Plain laws of our own (ReadDate4): about numbers and lists alone; no condition beyond those written. -/
namespace Go.Proofs.YtfhllanhldbkkaaGreatDoor.P
open Go.RowKit Go.Proofs.YtfhllanhldbkkaaGreatDoorW.ax Go.Proofs.YtfhllanhldbkkaaGreatDoorW.aD Go.Proofs.YtfhllanhldbkkaaGreatDoorW.aH
set_option linter.unusedVariables false
set_option linter.unusedSimpArgs false
set_option maxHeartbeats 2000000
theorem wo {s:ByteArray} (h:6≤s.size):¬ (⟨#[]⟩:af).toList=s.toList:=by
  intro z
  have:=(bA _ _).1 z
  rw[← this] at h
  exact absurd h ak
theorem wu (s u:ByteArray) (h6:6≤s.size) (hu:18≤u.size) (y:Int) (k:Nat) (hk:10002<k) (H:∀ t,¬ Jq t s):ah.j3 k s u y=some (0,false):=by
  obtain⟨k,rfl⟩:=aQ k aa
  obtain⟨m,hm⟩:=RA (u.extract 3 6) k aa
  obtain⟨d,hd⟩:=DU (u.extract 0 2) (by rw[size_extract];omega) k aa
  obtain⟨v,hv⟩:=DW y m d (u.extract 10 18) (by rw[size_extract];omega) k aa
  simp only[ah.j3]
  rw[if_pos ak,if_pos aa,hm,aj,if_pos ak,if_pos aa,hd,aj,if_pos ak,if_pos aa,hv,aj]
  by_cases t:nY v
  · rw[vX v t k aa,aj]
    by_cases c:cY v≤2069
    · rw[if_pos c,if_neg (fun z=>H v ⟨t,Or.inr (Or.inr ⟨c,((bA _ _).1 z).symm⟩)⟩)]
    · rw[if_neg c,if_neg (wo h6)]
  · rw[DK v t k aa,aj,if_neg (wo h6)]
theorem qZ (s:ByteArray) (hs:s.size≤1048576) (k:Nat) (hk:10005<k) (H:∀ t,¬ Jq t s):ah.j1 k s=some (0,false):=by
  obtain⟨k,rfl⟩:∃ j,k=j+2:=⟨k-2,by omega⟩
  have hf:ah.j2 (k+1) s false=some (0,false):=by simp only[ah.j2];rfl
  have e:ah.j1 (k+2) s=if(s.size:Int)≥30 then ah.j2 (k+1) s (decide ((s.size:Int)≤33)) else ah.j2 (k+1) s false:=by
    simp only[ah.j1]
  rw[e,hf]
  by_cases a:(s.size:Int)≥30
  · rw[if_pos a]
    by_cases b:(s.size:Int)≤33
    · rw[aT b]
      simp only[ah.j2]
      have hw:wrap64 ((s.size:Int)-22)=(s.size:Int)-22:=au aa aa
      have hz:(s.extract ((s.size:Int)-22).toNat s.size).size=22:=by rw[size_extract];omega
      rw[hw,if_pos trivial,if_pos aa,if_pos aa,if_pos ak,if_pos aa]
      obtain⟨v,hv⟩:=DU ((s.extract ((s.size:Int)-22).toNat s.size).extract 7 9) (by rw[size_extract];omega) k aa
      rw[hv,aj]
      split
      · exact wu s _ aa aa _ k aa H
      · exact wu s _ aa aa _ k aa H
    · rw[aN b,hf]
  · rw[if_neg a]
theorem rf (s:ByteArray) (hs:s.size≤1048576) (k:Nat) (hk:10010<k) (H:∀ t,¬ Jq t s):ah.j0 k s=some (0,false):=by
  obtain⟨k,rfl⟩:=aQ k aa
  simp only[ah.j0]
  by_cases a:(s.size:Int)=24
  · obtain⟨y,hy⟩:=DU (s.extract 20 24) (by rw[size_extract];omega) k aa
    obtain⟨m,hm⟩:=RA (s.extract 4 7) k aa
    obtain⟨d,hd⟩:=DU (s.extract 8 10) (by rw[size_extract];omega) k aa
    obtain⟨v,hv⟩:=DW y m d (s.extract 11 19) (by rw[size_extract];omega) k aa
    rw[if_pos a,if_pos ak,if_pos aa,hy,aj,if_pos ak,if_pos aa,hm,aj,if_pos ak,if_pos aa,hd,aj,if_pos ak,if_pos aa,hv,aj]
    by_cases t:nY v
    · rw[vY v t k aa,aj,if_neg (fun z=>H v ⟨t,Or.inr (Or.inl ((bA _ _).1 z).symm)⟩)]
      exact qZ s hs k aa H
    · rw[DJ v t k,aj,if_neg (wo aa)]
      exact qZ s hs k aa H
  · rw[if_neg a]
    exact qZ s hs k aa H
theorem DX (s:ByteArray) (hs:s.size≤1048576) (k:Nat) (hk:20000<k) (H:∀ t,¬ Jq t s):ah.f k s=some (0,false):=by
  unfold ah.f
  by_cases a:(s.size:Int)=29
  · obtain⟨y,hy⟩:=DU (s.extract 12 16) (by rw[size_extract];omega) k aa
    obtain⟨m,hm⟩:=RA (s.extract 8 11) k aa
    obtain⟨d,hd⟩:=DU (s.extract 5 7) (by rw[size_extract];omega) k aa
    obtain⟨v,hv⟩:=DW y m d (s.extract 17 25) (by rw[size_extract];omega) k aa
    rw[if_pos a,if_pos ak,if_pos aa,hy,aj,if_pos ak,if_pos aa,hm,aj,if_pos ak,if_pos aa,hd,aj,if_pos ak,if_pos aa,hv,aj]
    by_cases t:nY v
    · rw[vW v t k aa,aj,if_neg (fun z=>H v ⟨t,Or.inl ((bA _ _).1 z).symm⟩)]
      exact rf s hs k aa H
    · rw[DI v t k,aj,if_neg (wo aa)]
      exact rf s hs k aa H
  · rw[if_neg a]
    exact rf s hs k aa H
theorem Bd (t:Int) (ht:nY t) (k:Nat) (hk:20000<k):ah.f k (oF t)=some (t,true):=by
  have hb:=jr t ht
  obtain⟨a,b,c,h3⟩:=Fe (qB t)
  obtain⟨x,y,z,hm,_⟩:=dH (cM t)
  have hz:(oF t).size=29:=by have:=(Hz t).1;rw[Ce] at this;exact this
  have hl:oF t=gq ([a,b,c]++([44,32]++dO (cD t) ++ [32] ++ [x,y,z] ++ [32]++lW (cY t) ++ [32]++jM (cH t) (cI t) (cS t)++qz)):=by unfold oF oC;rw[h3,hm]
  have e1:(oF t).extract 12 16=gq (lW (cY t)):=by rw[hl,iU];rfl
  have e2:(oF t).extract 8 11=gq (lD (cM t)):=by rw[hl,iU,hm];rfl
  have e3:(oF t).extract 5 7=gq (dO (cD t)):=by rw[hl,iU];rfl
  have e4:(oF t).extract 17 25=gq (jM (cH t) (cI t) (cS t)):=by rw[hl,iU];rfl
  unfold ah.f
  rw[if_pos aa,if_pos ak,if_pos aa,e1,KO _ aa k aa,aj,if_pos ak,if_pos aa,e2,KQ _ hb.2.1 k aa,aj,
    if_pos ak,if_pos aa,e3,uP _ aa k aa,aj,if_pos ak,if_pos aa,e4,show cY t%10000=cY t by omega,show cD t%100=cD t by omega,Gu t ht k aa,aj,
    vW t ht k aa,aj,if_pos rfl]
theorem Be (t:Int) (ht:nY t) (k:Nat) (hk:20000<k):ah.f k (oG t)=some (t,true):=by
  obtain⟨k,rfl⟩:=aQ k aa
  have hb:=jr t ht
  obtain⟨a,b,c,h3⟩:=Fe (qB t)
  obtain⟨x,y,z,hm,_⟩:=dH (cM t)
  have hz:(oG t).size=24:=by have:=(HY t).1;rw[Cg] at this;exact this
  obtain⟨p,q,hpq,hn⟩:∃ p q,(if cD t<10 then [32,gF (cD t)] else dO (cD t)) = [p,q]∧aX.f k (gq [p,q])=some (cD t):=by
    by_cases w:cD t<10
    · exact⟨32,gF (cD t),by rw[if_pos w],Rz _ aa w k aa⟩
    · exact⟨gF (cD t / 10),gF (cD t),by rw[if_neg w];rfl,by have:=uP (cD t) aa k aa;rw[show cD t%100=cD t by omega] at this;exact this⟩
  have hl:oG t=gq ([a,b,c]++([32] ++ [x,y,z] ++ [32] ++ [p,q] ++ [32]++jM (cH t) (cI t) (cS t) ++ [32]++lW (cY t))):=by unfold oG ko;rw[h3,hm,hpq]
  have e1:(oG t).extract 20 24=gq (lW (cY t)):=by rw[hl,iU];rfl
  have e2:(oG t).extract 4 7=gq (lD (cM t)):=by rw[hl,iU,hm];rfl
  have e3:(oG t).extract 8 10=gq [p,q]:=by rw[hl,iU];rfl
  have e4:(oG t).extract 11 19=gq (jM (cH t) (cI t) (cS t)):=by rw[hl,iU];rfl
  unfold ah.f
  rw[if_neg aa]
  simp only[ah.j0]
  rw[if_pos aa,if_pos ak,if_pos aa,e1,KO _ aa k aa,aj,if_pos ak,if_pos aa,e2,KQ _ hb.2.1 k aa,aj,
    if_pos ak,if_pos aa,e3,hn,aj,if_pos ak,if_pos aa,e4,show cY t%10000=cY t by omega,Gu t ht k aa,aj,
    vY t ht k aa,aj,if_pos rfl]
theorem Bf (t:Int) (ht:nY t) (hc:cY t≤2069) (k:Nat) (hk:20000<k):ah.f k (lv t)=some (t,true):=by
  obtain⟨k,rfl⟩:∃ j,k=j+4:=⟨k-4,by omega⟩
  have hb:=jr t ht
  have hl:=nu (qB t)
  obtain⟨x,y,z,hm,_⟩:=dH (cM t)
  have hz:(lv t).size=(lV (qB t)).length+24:=by have:=(HZ t).1;rw[Cf] at this;exact this
  have hx:(lv t).extract (((lv t).size:Int)-22).toNat (lv t).size=gq (dO (cD t) ++ [45] ++ [x,y,z] ++ [45]++dO (cY t) ++ [32]++jM (cH t) (cI t) (cS t)++qz):=by
    rw[show(((lv t).size:Int)-22).toNat=(lV (qB t)).length+2 by omega]
    have e:lv t=gq (lV (qB t)++([44,32]++(dO (cD t) ++ [45] ++ [x,y,z] ++ [45]++dO (cY t) ++ [32]++jM (cH t) (cI t) (cS t)++qz))):=by unfold lv qA;rw[hm];simp only[List.append_assoc]
    rw[e,iU,dE,List.take_length]
    first
      |(rw[List.drop_append,List.drop_eq_nil_of_le aa,Nat.add_sub_cancel_left];rfl)
      |(rw[List.drop_append_eq_append_drop,List.drop_eq_nil_of_le aa,Nat.add_sub_cancel_left];rfl)
  have e1:(gq (dO (cD t) ++ [45] ++ [x,y,z] ++ [45]++dO (cY t) ++ [32]++jM (cH t) (cI t) (cS t)++qz)).extract 7 9=gq (dO (cY t)):=by rw[iU];rfl
  have e2:(gq (dO (cD t) ++ [45] ++ [x,y,z] ++ [45]++dO (cY t) ++ [32]++jM (cH t) (cI t) (cS t)++qz)).extract 3 6=gq (lD (cM t)):=by rw[iU,hm];rfl
  have e3:(gq (dO (cD t) ++ [45] ++ [x,y,z] ++ [45]++dO (cY t) ++ [32]++jM (cH t) (cI t) (cS t)++qz)).extract 0 2=gq (dO (cD t)):=by rw[iU];rfl
  have e4:(gq (dO (cD t) ++ [45] ++ [x,y,z] ++ [45]++dO (cY t) ++ [32]++jM (cH t) (cI t) (cS t)++qz)).extract 10 18=gq (jM (cH t) (cI t) (cS t)):=by rw[iU];rfl
  have hv:(gq (dO (cD t) ++ [45] ++ [x,y,z] ++ [45]++dO (cY t) ++ [32]++jM (cH t) (cI t) (cS t)++qz)).size=22:=rfl
  generalize gq (dO (cD t) ++ [45] ++ [x,y,z] ++ [45]++dO (cY t) ++ [32]++jM (cH t) (cI t) (cS t)++qz)=u at hx e1 e2 e3 e4 hv
  have last:ah.j3 (k+1) (lv t) u (cY t)=some (t,true):=by
    simp only[ah.j3]
    rw[if_pos ak,if_pos aa,e2,KQ _ hb.2.1 k aa,aj,if_pos ak,if_pos aa,e3,uP _ aa k aa,aj,if_pos ak,if_pos aa,e4,
      show cD t%100=cD t by omega,Gu t ht k aa,aj,vX t ht k aa,aj,if_pos hc,if_pos rfl]
  have mid:ah.j2 (k+2) (lv t) true=some (t,true):=by
    simp only[ah.j2]
    have hw:wrap64 (((lv t).size:Int)-22)=((lv t).size:Int)-22:=au aa aa
    rw[hw,if_pos trivial,if_pos aa,if_pos aa,if_pos ak,hx,if_pos aa,e1,uP _ aa (k+1) aa,aj]
    by_cases w:cY t%100≥70
    · rw[if_pos w,au (x:=cY t%100+1900) aa aa,show cY t%100+1900=cY t by omega];exact last
    · rw[if_neg w,au (x:=cY t%100+2000) aa aa,show cY t%100+2000=cY t by omega];exact last
  have q1:ah.j1 (k+3) (lv t)=some (t,true):=by
    simp only[ah.j1]
    rw[if_pos aa,aT aa]
    exact mid
  unfold ah.f
  rw[if_neg aa]
  simp only[ah.j0]
  rw[if_neg aa]
  exact q1
theorem Bg (t:Int) (s:ByteArray) (H:Jq t s) (k:Nat) (hk:20000<k):ah.f k s=some (t,true):=by
  obtain⟨ht,rfl|rfl|⟨c,rfl⟩⟩:=H
  · exact Bd t ht k hk
  · exact Be t ht k hk
  · exact Bf t ht c k hk
open Classical in
noncomputable def yQ (s:ByteArray):Int×Bool:=if h:∃ t,Jq t s then(h.choose,true) else(0,false)
theorem wy (s:ByteArray) (k:Nat) (hk:20000<k):av.f k s=some (yQ s):=by
  unfold yQ
  by_cases h:∃ t,Jq t s
  · rw[dif_pos h];exact Bc _ s h.choose_spec k hk
  · rw[dif_neg h];exact DT s (fun t z=>h ⟨t,z⟩) k hk
theorem DY (s:ByteArray) (hs:s.size≤1048576) (k:Nat) (hk:20000<k):ah.f k s=some (yQ s):=by
  unfold yQ
  by_cases h:∃ t,Jq t s
  · rw[dif_pos h];exact Bg _ s h.choose_spec k hk
  · rw[dif_neg h];exact DX s hs k hk (fun t z=>h ⟨t,z⟩)
theorem Fp : yQ (⟨#[]⟩:af)=(0,false):=by
  have:=wy (⟨#[]⟩:af) 20001 aa
  have e:av.f 20001 (⟨#[]⟩:af)=some (0,false):=by
    unfold av.f
    rw[if_pos ak]
    simp only[av.j0]
    rw[if_pos trivial]
  rw[e] at this
  exact(cu this).symm

end Go.Proofs.YtfhllanhldbkkaaGreatDoor.P
end

section
/- Plain laws of our own (Age): about numbers and lists alone; no condition beyond those written. -/
namespace Go.Proofs.YtfhllanhldbkkaaGreatDoor.P
open Go.RowKit Go.Proofs.YtfhllanhldbkkaaGreatDoorW.ax Go.Proofs.YtfhllanhldbkkaaGreatDoorW.aD Go.Proofs.YtfhllanhldbkkaaGreatDoorW.aH
set_option linter.unusedVariables false
set_option linter.unusedSimpArgs false
set_option maxHeartbeats 2000000
def sS (l:List aW) (a:ByteArray):ByteArray:=if(valuesOf l a).length=0 then(⟨#[]⟩:af) else cZ ByteArray.empty (valuesOf l a) 0
theorem z8 (l:List aW) (a:ByteArray):(sS l a).size≤190:=by
  unfold sS
  by_cases h:(valuesOf l a).length=0
  · rw[if_pos h];exact Nat.zero_le _
  · rw[if_neg h];exact zx l a _ (KA (i:=0) aa)
theorem ED (l:List aW) (a:ByteArray) (ha:a.size≤140737488351232) (k:Nat) (hk:6000<k):wz.f k l a=some (sS l a,hasB l a):=by
  unfold wz.f sS hasB
  rw[zu l a ha k hk,aj]
  by_cases h:(valuesOf l a).length=0
  · rw[if_pos aa,if_pos h,aN aa]
  · rw[if_neg aa,if_pos aa,if_neg h,aT aa]
theorem EE (l:List aW) (a:ByteArray) (ha:a.size≤140737488351232) (k:Nat) (hk:6000<k):xz.f k l a=some (sS l a,hasB l a):=by
  unfold xz.f sS hasB
  rw[sH l a ha k hk,aj]
  by_cases h:(valuesOf l a).length=0
  · rw[if_pos aa,if_pos h,aN aa]
  · rw[if_neg aa,if_pos aa,if_neg h,aT aa]
noncomputable def Aj (l:List aW) (a:ByteArray):Int×Bool:=yQ (sS l a)
theorem zM (l:List aW) (a:ByteArray) (ha:a.size≤140737488351232) (k:Nat) (hk:40000<k):rH.f k l a=some (Aj l a):=by
  unfold rH.f Aj
  rw[EE l a ha k aa,aj,wy _ k aa,aj]
theorem yG (l:List aW) (a:ByteArray) (ha:a.size≤140737488351232) (k:Nat) (hk:40000<k):pR.f k l a=some (Aj l a):=by
  unfold pR.f Aj
  have hs:=z8 l a
  rw[ED l a ha k aa,aj]
  by_cases h:hasB l a=true
  · rw[if_pos h,DY (sS l a) aa k aa,aj]
  · rw[if_neg h]
    have e:sS l a=(⟨#[]⟩:af):=by
      unfold sS
      unfold hasB at h
      rw[if_pos (by simp at h;simp[h])]
    rw[e,Fp]
def Ak : ByteArray:=(⟨#[100,97,116,101]⟩:af)
noncomputable def azL (t2:Int) (ml:List aW):Int:=if(Aj ml Ak).2=true then(Aj ml Ak).1 else t2
theorem DZ (u:ByteArray) (t1 t2:Int) (l:List aW) (m0 m1:ByteArray) (m2:Int) (m3:ByteArray) (m4:Bool) (ml:List aW) (m6:ByteArray) (k:Nat) (hk:40000<k):jN.f k u t1 t2 l m0 m1 m2 m3 m4 ml m6=some (azL t2 ml):=by
  unfold jN.f azL
  rw[show(⟨#[100,97,116,101]⟩:af)=Ak from rfl,zM ml Ak ak k hk,aj]
  split <;> rfl
noncomputable def Bv (u:ByteArray) (t1 t2:Int) (l:List aW) (m0 m1:ByteArray) (m2:Int) (m3:ByteArray) (m4:Bool) (ml:List aW) (m6:ByteArray):Int:=if oZ u t1 t2 l m0 m1 m2 m3 m4 ml m6=true then azL t2 ml else -1
theorem RB (u:ByteArray) (t1 t2:Int) (l:List aW) (m0 m1:ByteArray) (m2:Int) (m3:ByteArray) (m4:Bool) (ml:List aW) (m6:ByteArray) (hu:u.size≤1048576) (k:Nat) (hk:80000010<k):uu.f k u t1 t2 l m0 m1 m2 m3 m4 ml m6=some (Bv u t1 t2 l m0 m1 m2 m3 m4 ml m6):=by
  unfold uu.f Bv
  rw[yz _ _ _ _ _ _ _ _ _ _ _ hu k hk,aj]
  by_cases h:oZ u t1 t2 l m0 m1 m2 m3 m4 ml m6=true
  · rw[if_pos h,if_pos h,DZ _ _ _ _ _ _ _ _ _ _ _ k aa,aj]
  · rw[if_neg h,if_neg h]
theorem zN (u:ByteArray) (t1 t2:Int) (l:List aW) (m0 m1:ByteArray) (m2:Int) (m3:ByteArray) (m4:Bool) (ml:List aW) (m6:ByteArray) (hu:u.size≤1048576) (k:Nat) (hk:80000010<k):ny.f k u t1 t2 l m0 m1 m2 m3 m4 ml m6=some (Bv u t1 t2 l m0 m1 m2 m3 m4 ml m6):=by
  unfold ny.f Bv
  rw[rG _ _ _ _ _ _ _ _ _ _ _ hu k hk,aj]
  by_cases h:oZ u t1 t2 l m0 m1 m2 m3 m4 ml m6=true
  · rw[if_pos h,if_pos h,show(⟨#[100,97,116,101]⟩:af)=Ak from rfl,yG ml Ak ak k aa,aj]
    unfold azL
    split <;> rfl
  · rw[if_neg h,if_neg h]
end Go.Proofs.YtfhllanhldbkkaaGreatDoor.P
end

section
/- The program's DateOf answers what the reference's answers, for every kept answer; no condition. -/
namespace Go.Proofs.YtfhllanhldbkkaaGreatDoor.Pure
open Go.RowKit Go.Proofs.YtfhllanhldbkkaaGreatDoor.P Go.Proofs.YtfhllanhldbkkaaGreatDoorW.ax Go.Proofs.YtfhllanhldbkkaaGreatDoorW.aD Go.Proofs.YtfhllanhldbkkaaGreatDoorW.aH
set_option linter.unusedVariables false
set_option linter.unusedSimpArgs false

theorem FnExactDateOf : jZ.Pure:=by
  intro a0 a1 a2 l3 a4 a5 a6 a7 a8 l9 O6 z0 w1 w2 z3 z9
  have h3:l3.length≤4398046511104:=by omega
  have h9:l9.length≤4398046511104:=by omega
  have m3:(l3.map Rx).length=l3.length:=List.length_map ..
  have m9:(l9.map Rx).length=l9.length:=List.length_map ..
  obtain⟨t,ht,hsmall⟩:=Dq a0 a1 a2 l3 a4 a5 a6 a7 a8 l9 O6 z0 h3 h9 (l3.length+l9.length+90000000) aa
  refine⟨l3.length+l9.length+90000000,?_⟩
  have hto:=Gn a0 a1 a2 l3 a4 a5 a6 a7 a8 l9 O6 h3 h9 (l3.length+l9.length+90000000) aa
  unfold jZ.f
  rw[ht,aj]
  by_cases hn:t<0
  · rw[if_pos hn]
  · have hu:=hsmall hn
    rw[if_neg hn,hto,aj]
    dsimp only
    rw[zN _ _ _ _ _ _ _ _ _ _ _ hu _ aa,aj,aj]
    dsimp only
    rw[RB _ _ _ _ _ _ _ _ _ _ _ hu _ aa,aj,if_pos rfl,aj]
    dsimp only
    rw[Dr _ _ _ _ _ _ _ _ _ _ _ aa aa _ aa,aj,if_pos rfl]

end Go.Proofs.YtfhllanhldbkkaaGreatDoor.Pure
end
