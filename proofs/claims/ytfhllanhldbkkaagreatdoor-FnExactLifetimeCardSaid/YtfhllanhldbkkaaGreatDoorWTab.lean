-- PRINTED BY print.sh 35421559b90ae4d0a3588c463048766b98c2df88dd9212a6774a882060cdf62d: not written by this session
import Derived.Test.YtfhllanhldbkkaaGreatDoorWLast
import Derived.Test.YtfhllanhldbkkaaGreatDoorWWords
namespace Go.Proofs.YtfhllanhldbkkaaGreatDoorW.iK
open Go.Proofs.YtfhllanhldbkkaaGreatDoorW.bf (aa)
def EU (md:Region.Mode) (o:Oper):List Nat:=(o.after.toList.filter (fun e=>Region.binds md e)).map (fun e=>e.on)
def TA (md:Region.Mode) (ops:Array Oper) (i:Nat) (oi:Oper):List Nat:=(List.range ops.size).filter fun j=>!(j==i)&&match ops[j]? with
  |some oj=>!(oj.after.any (fun e=>Region.binds md e&&e.on==i)||oi.apart ops oj)
  |none=>false
def nL (md:Region.Mode) (ops:Array Oper):Bool×List (List Nat×List Nat):=(Region.noSelect ops,(List.range ops.size).map fun i=>match ops[i]? with
  |some o=>(EU md o,TA md ops i o)
  |none=>([],[]))
def Ah (T:List (List Nat×List Nat)) (l:List Bool) (i:Nat):Bool:=!l.getD i true&&match T[i]? with
  |some r=>r.1.all (fun j=>l.getD j false)
  |none=>false
def JV (T:List (List Nat×List Nat)) (l:List Bool):List Nat:=(List.range T.length).filter (Ah T l)
def Vr (T:List (List Nat×List Nat)) (l:List Bool) (i:Nat):Bool:=match T[i]? with
  |some r=>r.2.all (fun j=>l.getD j true)
  |none=>false
def MU (T:List (List Nat×List Nat)) (l:List Bool):Bool:=(List.range T.length).all fun j=>!l.getD j false||match T[j]? with
  |some r=>r.1.all (fun k=>l.getD k false)
  |none=>true
def JW (T:List (List Nat×List Nat)) (i:Nat):Nat->Nat->Bool
  |0,_=>false
  |fuel+1,d=>match T[d]? with
    |some r=>r.1.any fun j=>j==i||JW T i fuel j
    |none=>false
def lastT (T:List (List Nat×List Nat)) (l:List Bool) (ds:List Nat) (i:Nat):Bool:=ds.all fun d=>l.getD d true||JW T i T.length d
section
variable {md:Region.Mode} {ops:Array Oper} {T:Bool×List (List Nat×List Nat)} {l l' li lj lk:Array Bool} {ds:List Nat} {i j k:Nat}
theorem gd (l:Array Bool) (j:Nat) (b:Bool):l.getD j b=l.toList.getD j b:=by simp[Array.getD_eq_getD_getElem?,List.getD_eq_getElem?_getD]
theorem Ri (o:Oper) (p:Nat->Bool):o.after.all (fun e=>!Region.binds md e||p e.on)=(EU md o).all p:=by
  unfold EU
  rw[<- Array.all_toList]
  induction o.after.toList with
  |nil=>rfl
  |cons e r ih=>
    rw[List.all_cons,ih,List.filter_cons]
    cases h:Region.binds md e <;> simp
theorem adr (o:Oper) (p:Nat->Bool):o.after.any (fun e=>Region.binds md e&&p e.on)=(EU md o).any p:=by
  unfold EU
  rw[<- Array.any_toList]
  induction o.after.toList with
  |nil=>rfl
  |cons e r ih=>
    rw[List.any_cons,ih,List.filter_cons]
    cases h:Region.binds md e <;> simp
theorem Ai : (nL md ops).2.length=ops.size:=by simp[nL]
theorem EW {o:Oper} (h:ops[i]? = some o):(nL md ops).2[i]? = some (EU md o,TA md ops i o):=by
  have hi:=(Array.getElem?_eq_some_iff.1 h).1
  unfold nL
  rw[List.getElem?_map,List.getElem?_range hi,Option.map_some,h]
theorem EX (h:ops[i]? = none):(nL md ops).2[i]? = none:=by
  have hi:ops.size<=i:=Array.getElem?_eq_none_iff.1 h
  exact List.getElem?_eq_none (by rw[Ai];exact hi)
theorem Zc : Ah (nL md ops).2 l.toList i=(!l.getD i true&&((ops[i]?).map (·.after.all fun e=>!Region.binds md e||l.getD e.on false)).getD false):=by
  unfold Ah
  rw[gd]
  cases h:ops[i]? with
  |none=>rw[EX h];rfl
  |some o=>
    rw[EW h]
    simp only[Option.map_some,Option.getD_some]
    rw[<- Ri]
    simp only[gd]
theorem ready_eq : Region.ready md ops l=JV (nL md ops).2 l.toList:=by
  unfold Region.ready JV
  rw[Ai]
  refine List.filter_congr (fun i _=>?_)
  rw[Zc]
theorem free_eq : Region.free md ops l i=Vr (nL md ops).2 l.toList i:=by
  unfold Region.free Vr
  cases h:ops[i]? with
  |none=>rw[EX h]
  |some oi=>
    rw[EW h]
    simp only[TA]
    rw[List.all_filter]
    congr 1
    funext j
    rw[gd]
    cases hj:ops[j]? with
    |none=>cases(j==i) <;> cases(l.toList.getD j true) <;> simp
    |some oj=>
      cases(j==i) <;> cases(l.toList.getD j true) <;> cases(oj.after.any (fun e=>Region.binds md e&&e.on==i)||oi.apart ops oj) <;> simp_all
theorem ads : Region.Hw md ops l=MU (nL md ops).2 l.toList:=by
  unfold Region.Hw MU
  rw[Ai]
  congr 1
  funext j
  rw[gd]
  cases h:ops[j]? with
  |none=>rw[EX h]
  |some o=>
    rw[EW h]
    simp only
    rw[<- Ri]
    simp only[gd]
theorem Vs : ∀(fuel d:Nat),Region.xZ md ops i fuel d=JW (nL md ops).2 i fuel d
  |0,_=>rfl
  |fuel+1,d=>by
    unfold Region.xZ JW
    cases h:ops[d]? with
    |none=>rw[EX h]
    |some o=>
      rw[EW h]
      simp only
      rw[<- adr]
      congr 1
      funext e
      rw[Vs fuel]
theorem ajI : Region.lastB md ops l ds i=lastT (nL md ops).2 l.toList ds i:=by
  unfold Region.lastB lastT
  rw[Ai]
  congr 1
  funext d
  rw[gd,Vs]
theorem KO (h:Ah T.2 l.toList i=true) (hT:nL md ops=T):(Region.ready md ops l).contains i=true:=by
  subst hT
  rw[ready_eq]
  unfold JV
  rw[List.contains_iff_mem,List.mem_filter,List.mem_range]
  refine⟨?_,h⟩
  unfold Ah at h
  rw[Bool.and_eq_true] at h
  cases hq:(nL md ops).2[i]? with
  |none=>rw[hq] at h;simp at h
  |some r=>exact(List.getElem?_eq_some_iff.1 hq).1
theorem NK (h:(l.toList.set i true==l'.toList)=true):(l.setIfInBounds i true==l')=true:=by
  rw[beq_iff_eq] at h ⊢
  apply Array.ext'
  rw[Array.toList_setIfInBounds]
  exact h
def asF (T:Bool×List (List Nat×List Nat)) (l l':List Bool) (i:Nat):Bool:=T.1&&Vr T.2 l i&&Ah T.2 l i&&(l.set i true==l')
theorem aeY (hT:nL md ops=T) (h:asF T l.toList l'.toList i=true):Y9 md ops l l' i=true:=by
  simp only[asF,Bool.and_eq_true] at h
  obtain⟨⟨⟨h1,h2⟩,h3⟩,h4⟩:=h
  have h5:=KO h3 hT
  have h6:=NK h4
  subst hT
  simp only[Y9,Bool.and_eq_true]
  exact⟨⟨⟨h1,by rw[free_eq];exact h2⟩,h5⟩,h6⟩
def aeZ (T:Bool×List (List Nat×List Nat)) (ds:List Nat) (l l':List Bool) (i:Nat):Bool:=T.1&&Vr T.2 l i&&Ah T.2 l i&&MU T.2 l&&lastT T.2 l ds i&&(l.set i true==l')
theorem ajJ (hT:nL md ops=T) (h:aeZ T ds l.toList l'.toList i=true):takeB md ops ds l l' i=true:=by
  simp only[aeZ,Bool.and_eq_true] at h
  obtain⟨⟨⟨⟨⟨h1,h2⟩,h3⟩,h4⟩,h5⟩,h6⟩:=h
  have h7:=KO h3 hT
  have h8:=NK h6
  subst hT
  simp only[takeB,Bool.and_eq_true]
  exact⟨⟨⟨⟨⟨h1,by rw[free_eq];exact h2⟩,h7⟩,by rw[ads];exact h4⟩,by rw[ajI];exact h5⟩,h8⟩
theorem vJ (hT:nL md ops=T) (h:(JV T.2 l.toList == [i]&&l.toList.set i true==l'.toList)=true):NH md ops l l' i=true:=by
  simp only[Bool.and_eq_true] at h
  obtain⟨h1,h2⟩:=h
  subst hT
  simp only[NH,Bool.and_eq_true]
  exact⟨by rw[ready_eq];exact h1,NK h2⟩
theorem ae0 (hT:nL md ops=T) (h:(JV T.2 l.toList == [i,j]&&l.toList.set i true==li.toList&&l.toList.set j true==lj.toList)=true):(Region.ready md ops l == [i,j]&&l.setIfInBounds i true==li&&l.setIfInBounds j true==lj)=true:=by
  simp only[Bool.and_eq_true] at h ⊢
  obtain⟨⟨h1,h2⟩,h3⟩:=h
  subst hT
  exact⟨⟨by rw[ready_eq];exact h1,NK h2⟩,NK h3⟩
theorem fP (hT:nL md ops=T) (h:(JV T.2 l.toList == [])=true):(Region.ready md ops l == [])=true:=by
  subst hT
  rw[ready_eq]
  exact h
def upM (B:List Nat) (d:Nat):List Nat->Nat
  |[]=>0
  |n::r=>(2 ^ n ||| (if n<d then B.getD n 0 else 0)) ||| upM B d r
def jf (T:List (List Nat×List Nat)) (B:List Nat):Bool:=(List.range T.length).all fun d=>match T[d]? with
  |some r=>(B.getD d 0 ||| upM B d r.1)==upM B d r.1
  |none=>false
theorem abk {B:List Nat} {d i:Nat}:∀ {ns:List Nat},(upM B d ns).testBit i=true->∃ n∈ns,n=i∨(n<d/\(B.getD n 0).testBit i=true)
  |[],h=>by simp[upM] at h
  |n::r,h=>by
    unfold upM at h
    rw[Nat.testBit_or,Nat.testBit_or,Bool.or_eq_true,Bool.or_eq_true] at h
    rcases h with(h|h)|h
    · rw[Nat.testBit_two_pow] at h
      exact⟨n,List.mem_cons_self,.inl (by simpa using h)⟩
    · by_cases hn:n<d
      · rw[if_pos hn] at h
        exact⟨n,List.mem_cons_self,.inr ⟨hn,h⟩⟩
      · rw[if_neg hn] at h
        simp at h
    · obtain⟨m,hm,h2⟩:=abk h
      exact⟨m,List.mem_cons_of_mem _ hm,h2⟩
theorem Rj {T:List (List Nat×List Nat)} {B:List Nat} (hB:jf T B=true):∀(fuel d:Nat),d<fuel->d<T.length->(B.getD d 0).testBit i=true->JW T i fuel d=true
  |0,d,h,_,_=>by omega
  |fuel+1,d,h,hd,hb=>by
    have h1:=List.all_eq_true.1 hB d (List.mem_range.2 hd)
    cases hr:T[d]? with
    |none=>rw[hr] at h1;simp at h1
    |some r=>
      rw[hr] at h1
      simp only[beq_iff_eq] at h1
      have h2:(upM B d r.1).testBit i=true:=by rw[<- h1,Nat.testBit_or,hb,Bool.true_or]
      obtain⟨n,hn,h3⟩:=abk h2
      unfold JW
      rw[hr]
      simp only
      rw[List.any_eq_true]
      refine⟨n,hn,?_⟩
      rcases h3 with rfl|⟨h4,h5⟩
      · simp
      · rw[Rj hB fuel n (by omega) (by omega) h5,Bool.or_true]
def anD (T:List (List Nat×List Nat)) (B:List Nat) (l:List Bool) (ds:List Nat) (i:Nat):Bool:=ds.all fun d=>l.getD d true||(decide (d<T.length)&&(B.getD d 0).testBit i)
def anE (T:Bool×List (List Nat×List Nat)) (B:List Nat) (ds:List Nat) (l l':List Bool) (i:Nat):Bool:=T.1&&Vr T.2 l i&&Ah T.2 l i&&MU T.2 l&&anD T.2 B l ds i&&(l.set i true==l')
theorem Vt {B:List Nat} (hT:nL md ops=T) (hB:jf T.2 B=true) (h:anE T B ds l.toList l'.toList i=true):takeB md ops ds l l' i=true:=by
  refine ajJ hT ?_
  simp only[anE,aeZ,Bool.and_eq_true] at h ⊢
  obtain⟨⟨⟨⟨⟨h1,h2⟩,h3⟩,h4⟩,h5⟩,h6⟩:=h
  refine⟨⟨⟨⟨⟨h1,h2⟩,h3⟩,h4⟩,?_⟩,h6⟩
  unfold anD at h5
  unfold lastT
  rw[List.all_eq_true] at h5 ⊢
  intro d hd
  have h7:=h5 d hd
  rw[Bool.or_eq_true,Bool.and_eq_true,decide_eq_true_eq] at h7
  rcases h7 with h7|⟨h8,h9⟩
  · rw[h7,Bool.true_or]
  · rw[Rj hB _ d h8 h8 h9,Bool.or_true]
theorem dw {P:Program} {Q:Exit->Act->World->Prop} {S:World->Prop} {n:Nat} {a:Act} {w:World} {B:List Nat} (hT:nL md ops=T) (hB:jf T.2 B=true) (h:aa (nL md ops=T)->aa (jf T.2 B=true)->bP P md ops Q S ds n l a w):bP P md ops Q S ds n l a w:=h ⟨hT⟩ ⟨hB⟩
end
def Fx : Code->Nat->Option (Array Oper)
  |.region id ops _,k=>if id==k then some ops else none
  |.seq a b,k=>match Fx a k with
    |some o=>some o
    |none=>Fx b k
  |.cond _ a b,k=>match Fx a k with
    |some o=>some o
    |none=>Fx b k
  |.block _ c,k=>Fx c k
  |.loop c,k=>Fx c k
  |.scope c,k=>Fx c k
  |.rangeFunc _ _ a b,k=>match Fx a k with
    |some o=>some o
    |none=>Fx b k
  |_,_=>none
def opsOf (f:Func) (k:Nat):Array Oper:=((f.body.bind fun c=>Fx c k)).getD #[]
end Go.Proofs.YtfhllanhldbkkaaGreatDoorW.iK
