import Derived.Test.YtfhllanhldbkkaaGreatDoorPureAFnExactLifetime
section
namespace Go.Proofs.YtfhllanhldbkkaaGreatDoor.P
open Go.RowKit Go.Proofs.YtfhllanhldbkkaaGreatDoorW.bf Go.Proofs.YtfhllanhldbkkaaGreatDoorW.iK Go.Proofs.YtfhllanhldbkkaaGreatDoorW.kG
set_option linter.unusedVariables false
set_option linter.unusedSimpArgs false
set_option maxHeartbeats 2000000
theorem Me (l:List dC) (a:af):∀(d i:Nat) (out:List ByteArray),i<=l.length->l.length-i=d->pK l a d i out=out++((l.drop i).filter (fun f=>qF f.f0 a)).map (fun f=>f.f1):=by
  intro d
  induction d with
  |zero=>
    intro i out h0 hd
    rw[List.drop_of_length_le ae]
    simp[pK]
  |succ d ih=>
    intro i out h0 hd
    have hi:i<l.length:=by omega
    have e:aV l (i:Int)=l[i]:=by
      unfold aV
      rw[Int.toNat_natCast,List.getD_eq_getElem?_getD,List.getElem?_eq_getElem hi]
      rfl
    simp only[pK]
    rw[ih (i+1) _ ae ae,List.drop_eq_getElem_cons hi,List.filter_cons,e]
    cases hb:qF l[i].f0 a with
    |true=>simp
    |false=>simp
theorem afe {l:List dC} (h:gP l=true) (a:af):hasB l a=l.any (fun f=>qF f.f0 a):=by
  unfold hasB valuesOf
  rw[if_pos h,Me l a l.length 0 [] (Nat.zero_le _) ae]
  simp only[List.nil_append,List.length_map,List.drop_zero]
  cases ha:l.any (fun f=>qF f.f0 a) with
  |true=>
    obtain⟨f,hf,hs⟩:=List.any_eq_true.1 ha
    exact bK (List.length_pos_of_mem (List.mem_filter.2 ⟨hf,hs⟩))
  |false=>
    have:l.filter (fun f=>qF f.f0 a) = []:=List.filter_eq_nil_iff.2 (fun f hf hs=>by
      have:=List.any_eq_false.1 ha f hf
      exact this hs)
    rw[this];rfl
theorem asR (l:List dC):l.any (fun f=>frB f.f0)=(l.any (fun f=>qF f.f0 Rl)||(l.any (fun f=>qF f.f0 Rm)||l.any (fun f=>qF f.f0 Rn))):=by
  induction l with
  |nil=>rfl
  |cons f l ih=>
    simp only[List.any_cons,ih]
    have e:frB f.f0=(qF f.f0 Rl||(qF f.f0 Rm||qF f.f0 Rn)):=by
      unfold frB qF
      rw[ajR,ajS,ajT]
    rw[e]
    cases qF f.f0 Rl <;> cases qF f.f0 Rm <;> cases qF f.f0 Rn <;> simp
theorem JZ (l:List dC) (hok:gP l=true):∀(d i:Nat),i<=l.length->l.length-i=d->∀ k,d<k->fZ.l0 k l (i:Int)=some ((l.drop i).any (fun f=>frB f.f0)):=by
  have hl:=jD hok
  intro d
  induction d with
  |zero=>
    intro i h0 hd k hk
    obtain⟨k,rfl⟩:=dm k ae
    rw[List.drop_of_length_le ae]
    simp only[fZ.l0]
    rw[if_neg ae]
    rfl
  |succ d ih=>
    intro i h0 hd k hk
    obtain⟨k,rfl⟩:=dm k ae
    have hi:i<l.length:=by omega
    have hn:=xG hok i hi
    have hwi:=iX i ae
    have e:aV l (i:Int)=l[i]:=by
      unfold aV
      rw[Int.toNat_natCast,List.getD_eq_getElem?_getD,List.getElem?_eq_getElem hi]
      rfl
    rw[e] at hn
    simp only[fZ.l0]
    unfold il.f
    rw[if_pos ae,if_pos ae,e,if_pos ae,ax,hwi,List.drop_eq_getElem_cons hi,List.any_cons]
    unfold frB
    by_cases h1:(lG l[i].f0).toList=([99,111,110,116,101,110,116,45,108,101,110,103,116,104]:aQ)
    · rw[if_pos h1,h1];rfl
    · rw[if_neg h1,beq_eq_false_iff_ne.2 h1]
      by_cases h2:(lG l[i].f0).toList=([116,114,97,110,115,102,101,114,45,101,110,99,111,100,105,110,103]:aQ)
      · rw[if_pos h2,h2];rfl
      · rw[if_neg h2,beq_eq_false_iff_ne.2 h2]
        by_cases h3:(lG l[i].f0).toList=([116,114,97,105,108,101,114]:aQ)
        · rw[if_pos h3,h3];rfl
        · rw[if_neg h3,beq_eq_false_iff_ne.2 h3,ih (i+1) ae ae k ae]
          rfl
def Gn : List dC->Nat
  |[]=>0
  |f::l=>f.f0.size+f.f1.size+4+Gn l
def TK (m0 m1:af) (m2:Int) (m3:af):Nat:=if m0.toList=([]:aQ) then 9+(jg m2).size+1+m3.size+2 else m0.size+1+m1.size+11
def NP (m0 m1:af) (m2:Int) (m3:af) (m4:Bool) (l:List dC) (m6:af):Nat:=TK m0 m1 m2 m3+Gn l+(if ry m0 m4 m6=true then 16+(jg (m6.size:Int)).size+2 else 0)+2
theorem HZ : ∀(l:List dC) (t:af),(yc t l).size=t.size+Gn l
  |[],t=>rfl
  |f::l,t=>by
    have h1:=HZ l (t++DR f)
    have h2:(DR f).size=f.f0.size+f.f1.size+4:=by
      unfold DR
      simp only[gK]
      show f.f0.size+2+f.f1.size+2=_
      omega
    rw[gK] at h1
    show(yc (t++DR f) l).size=t.size+(f.f0.size+f.f1.size+4+Gn l)
    omega
theorem Zi (m0 m1:af) (m2:Int) (m3:af) (m4:Bool) (l:List dC) (m6:af):(C9 m0 m1 m2 m3 m4 l m6).size=NP m0 m1 m2 m3 m4 l m6:=by
  have h1:(firstT m0 m1 m2 m3).size=TK m0 m1 m2 m3:=by
    unfold firstT TK
    split
    · simp only[gK];rfl
    · simp only[gK];rfl
  have h2:(TL m6).size=16+(jg (m6.size:Int)).size+2:=by
    unfold TL
    simp only[gK];rfl
  have h3:=HZ l ((⟨#[]⟩:af)++firstT m0 m1 m2 m3)
  rw[gK,h1] at h3
  have h4:(⟨#[]⟩:af).size=0:=rfl
  have h5:(⟨#[13,10]⟩:af).size=2:=rfl
  unfold C9 NP
  simp only
  rw[gK,h5]
  split
  · rw[gK,h2];omega
  · omega
theorem DT {l:List dC} (h:gP l=true):∀ f∈l,f.f0.size<=40/\f.f1.size<=190:=by
  intro f hf
  have:=((H5 l).1 h).2 f hf
  unfold uj at this
  simp only[Bool.and_eq_true,decide_eq_true_eq] at this
  exact⟨this.1,this.2.2.1⟩
theorem MW : (⟨#[13,10]⟩:af).size=2:=rfl
theorem aff : (⟨#[67,111,110,116,101,110,116,45,76,101,110,103,116,104,58,32]⟩:af).size=16:=rfl
theorem ajU : (⟨#[58,32]⟩:af).size=2:=rfl
theorem ady (t d:af) (ht:t.size<=2000000) (hd:d.size<=21) (o:Option ByteArray) (ho:o=some d):∃ r:ByteArray,
    (if t.size+16<=9223372036854775807 then(o.bind fun adz=>(if(t++(⟨#[67,111,110,116,101,110,116,45,76,101,110,103,116,104,58,32]⟩:af)).size+adz.size<=9223372036854775807 then(if((t++(⟨#[67,111,110,116,101,110,116,45,76,101,110,103,116,104,58,32]⟩:af))++adz).size+2<=9223372036854775807 then(if(((t++(⟨#[67,111,110,116,101,110,116,45,76,101,110,103,116,104,58,32]⟩:af))++adz)++(⟨#[13,10]⟩:af)).size+2<=9223372036854775807 then(some ((((t++(⟨#[67,111,110,116,101,110,116,45,76,101,110,103,116,104,58,32]⟩:af))++adz)++(⟨#[13,10]⟩:af))++(⟨#[13,10]⟩:af))) else(none)) else(none)) else(none))) else(none))=some r/\r.size=t.size+16+d.size+2+2:=by
  have e1:(t++(⟨#[67,111,110,116,101,110,116,45,76,101,110,103,116,104,58,32]⟩:af)).size=t.size+16:=by rw[gK,aff]
  have e2:((t++(⟨#[67,111,110,116,101,110,116,45,76,101,110,103,116,104,58,32]⟩:af))++d).size=t.size+16+d.size:=by rw[gK,e1]
  have e3:(((t++(⟨#[67,111,110,116,101,110,116,45,76,101,110,103,116,104,58,32]⟩:af))++d)++(⟨#[13,10]⟩:af)).size=t.size+16+d.size+2:=by rw[gK,e2,MW]
  have e4:((((t++(⟨#[67,111,110,116,101,110,116,45,76,101,110,103,116,104,58,32]⟩:af))++d)++(⟨#[13,10]⟩:af))++(⟨#[13,10]⟩:af)).size=t.size+16+d.size+2+2:=by rw[gK,e3,MW]
  rw[ho,if_pos ae,ax,if_pos (by rw[e1];omega),if_pos (by rw[e2];omega),if_pos (by rw[e3];omega)]
  exact⟨_,rfl,e4⟩
theorem adA (t:af) (ht:t.size<=2000000):∃ r:ByteArray,(if t.size+2<=9223372036854775807 then(some (t++(⟨#[13,10]⟩:af))) else(none))=some r/\r.size=t.size+2:=by
  rw[if_pos ae]
  exact⟨_,rfl,by rw[gK,MW]⟩
theorem Zj (t a b:af) (ht:t.size<=2000000) (ha:a.size<=40) (hb:b.size<=190) :
    a.size+2<=9223372036854775807/\(a++(⟨#[58,32]⟩:af)).size+b.size<=9223372036854775807/\t.size+((a++(⟨#[58,32]⟩:af))++b).size<=9223372036854775807/\(t++((a++(⟨#[58,32]⟩:af))++b)).size+2<=9223372036854775807/\
    ((t++((a++(⟨#[58,32]⟩:af))++b))++(⟨#[13,10]⟩:af)).size=t.size+(a.size+b.size+4):=by
  have e1:(a++(⟨#[58,32]⟩:af)).size=a.size+2:=by rw[gK,ajU]
  have e2:((a++(⟨#[58,32]⟩:af))++b).size=a.size+2+b.size:=by rw[gK,e1]
  have e3:(t++((a++(⟨#[58,32]⟩:af))++b)).size=t.size+(a.size+2+b.size):=by rw[gK,e2]
  have e4:((t++((a++(⟨#[58,32]⟩:af))++b))++(⟨#[13,10]⟩:af)).size=t.size+(a.size+2+b.size)+2:=by rw[gK,e3,MW]
  rw[e1,e2,e3,e4]
  refine⟨?_,?_,?_,?_,?_⟩ <;> omega
theorem DU (m0 m1:af) (m2:Int) (m3:af) (m4:Bool) (l:List dC) (m6:af) (hok:gP l=true) (h6:m6.size<=600):∀(d i:Nat),i<=l.length->l.length-i=d->∀(t:af),t.size<=1000000+300*i->
    ∀ k,d+5200<k->∃ r:ByteArray,bW.l0 k t (i:Int) m0 m1 m2 m3 m4 l m6=some r/\r.size=t.size+Gn (l.drop i)+(if ry m0 m4 m6=true then 16+(jg (m6.size:Int)).size+2 else 0)+2:=by
  have hl:=jD hok
  have hi21:=zm (m6.size:Int) ae ae
  intro d
  induction d with
  |zero=>
    intro i h0 hd t ht k hk
    obtain⟨k,rfl⟩:=dm k ae
    have ht2:t.size<=2000000:=by omega
    have hdec:=nO (m6.size:Int) ae ae k ae
    rw[List.drop_of_length_le ae]
    obtain⟨ra,ha1,ha2⟩:=ady t _ ht2 hi21 _ hdec
    obtain⟨rb,hb1,hb2⟩:=adA t ht2
    clear ht hk hdec ht2
    simp only[bW.l0,Gn]
    rw[if_neg ae]
    by_cases e0:m0.toList=([]:aQ)
    · rw[if_pos e0]
      cases m4 with
      |true=>
        rw[if_pos rfl,if_neg (show ¬ ry m0 true m6=true by unfold ry;rw[if_pos e0];decide)]
        exact⟨rb,hb1,by rw[hb2]⟩
      |false=>
        rw[if_neg aA,if_pos (show ry m0 false m6=true by unfold ry;rw[if_pos e0];rfl)]
        exact⟨ra,ha1,by rw[ha2];omega⟩
    · rw[if_neg e0]
      by_cases e6:m6.toList=([]:aQ)
      · rw[if_pos e6,if_neg (show ¬ ry m0 m4 m6=true by unfold ry;rw[if_neg e0,e6];decide)]
        exact⟨rb,hb1,by rw[hb2]⟩
      · rw[if_neg e6,if_pos (show ry m0 m4 m6=true by unfold ry;rw[if_neg e0];exact bne_iff_ne.2 e6)]
        exact⟨ra,ha1,by rw[ha2];omega⟩
  |succ d ih=>
    intro i h0 hd t ht k hk
    obtain⟨k,rfl⟩:=dm k ae
    have hi:i<l.length:=by omega
    have hwi:=iX i ae
    have e:aV l (i:Int)=l[i]:=by
      unfold aV
      rw[Int.toNat_natCast,List.getD_eq_getElem?_getD,List.getElem?_eq_getElem hi]
      rfl
    have hf:=((H5 l).1 hok).2 l[i] (List.getElem_mem hi)
    have hs:=DT hok l[i] (List.getElem_mem hi)
    obtain⟨q1,q2,q3,q4,q5⟩:=Zj t l[i].f0 l[i].f1 ae hs.1 hs.2
    have hft:lH.f k l[i].f0 l[i].f1=some ((l[i].f0++(⟨#[58,32]⟩:af))++l[i].f1):=by
      unfold lH.f
      rw[Da _ _ k ae,ax,if_pos hf,if_pos q1,if_pos q2]
    have hih:=ih (i+1) ae ae (((t++((l[i].f0++(⟨#[58,32]⟩:af))++l[i].f1))++(⟨#[13,10]⟩:af))) (by rw[q5];omega) k ae
    rw[q5] at hih
    obtain⟨r,hr1,hr2⟩:=hih
    clear ht hk ih
    simp only[bW.l0]
    rw[if_pos ae,if_pos ae,e,hft,ax,if_pos q3,if_pos q4,hwi]
    refine⟨r,hr1,?_⟩
    rw[hr2,List.drop_eq_getElem_cons hi]
    simp only[Gn]
    omega
theorem H6 (m0 m1:af) (m2:Int) (m3:af) (m4:Bool) (l:List dC) (m6:af) (hok:gP l=true) (h6:m6.size<=600) (h0:m0.size<=20) (h1:m1.size<=200) (h2:0<=m2/\m2<=599) (h3:m3.size<=40) (k:Nat) (hk:6000<k) :
    ∃ r:ByteArray,bW.f k m0 m1 m2 m3 m4 l m6=some r/\r.size=NP m0 m1 m2 m3 m4 l m6:=by
  have hi21:=zm m2 h2.1 ae
  have c1:(⟨#[32]⟩:af).size=1:=rfl
  have c2:(⟨#[13,10]⟩:af).size=2:=rfl
  have c9:(⟨#[72,84,84,80,47,49,46,49,32]⟩:af).size=9:=rfl
  have c11:(⟨#[32,72,84,84,80,47,49,46,49,13,10]⟩:af).size=11:=rfl
  obtain⟨k,rfl⟩:=dm k ae
  unfold bW.f NP TK
  rw[if_pos ae,if_pos (by rw[gK,c1];omega),if_pos (by simp only[gK,c1];omega)]
  by_cases e0:m0.toList=([]:aQ)
  · rw[if_pos e0,if_pos e0,nO m2 h2.1 ae (k+1) ae,ax,if_pos ae,if_pos (by simp only[gK,c9];omega),if_pos (by simp only[gK,c9,c1];omega),if_pos (by simp only[gK,c9,c1];omega)]
    simp only[bW.j0]
    obtain⟨r,hr1,hr2⟩:=DU m0 m1 m2 m3 m4 l m6 hok h6 l.length 0 (Nat.zero_le _) ae (((((⟨#[72,84,84,80,47,49,46,49,32]⟩:af)++jg m2)++(⟨#[32]⟩:af))++m3)++(⟨#[13,10]⟩:af)) (by simp only[gK,c9,c1,c2];omega) k (by have:=jD hok;omega)
    refine⟨r,hr1,?_⟩
    rw[hr2,List.drop_zero]
    simp only[gK,c9,c1,c2]
  · rw[if_neg e0,if_neg e0]
    simp only[bW.j0]
    obtain⟨r,hr1,hr2⟩:=DU m0 m1 m2 m3 m4 l m6 hok h6 l.length 0 (Nat.zero_le _) ae (((m0++(⟨#[32]⟩:af))++m1)++(⟨#[32,72,84,84,80,47,49,46,49,13,10]⟩:af)) (by simp only[gK,c1,c11];omega) k (by have:=jD hok;omega)
    refine⟨r,hr1,?_⟩
    rw[hr2,List.drop_zero]
    simp only[gK,c1,c11]
theorem H7 (m0 m1:af) (m2:Int) (m3:af) (m4:Bool) (l:List dC) (m6:af) (hok:gP l=true) (h6:m6.size<=600) (h0:m0.size<=20) (h1:m1.size<=200) (h2:0<=m2/\m2<=599) (h3:m3.size<=40) :
    ∃ r:ByteArray,gL.f m0 m1 m2 m3 m4 l m6=some r/\r.size=NP m0 m1 m2 m3 m4 l m6:=by
  have hl:=jD hok
  have hs:=DT hok
  refine⟨C9 m0 m1 m2 m3 m4 l m6,?_,Zi _ _ _ _ _ _ _⟩
  unfold gL.f
  rw[if_pos]
  exact⟨by omega,by omega,⟨h2.1,by omega⟩,by omega,by omega,by omega,fun f hf=>⟨by have:=(hs f hf).1;omega,by have:=(hs f hf).2;omega⟩⟩

def Ci (m1:af) (m2:Int) (m3:af) (m4:Bool) (m6:af):Bool:=
  decide (m1.toList=([]:aQ))&&(decide (200<=m2/\m2<=599)&&(decide (m3.size<=40)&&(AR m3&&(if m4=true then decide (m6.toList=([]:aQ)) else !(m2==204||m2==304)))))
def zn (m0 m1:af) (m2:Int) (m3:af) (m4:Bool):Bool:=ajV m0 m1&&(decide (m2=0)&&(decide (m3.toList=([]:aQ)) && !m4))
def Gp (m0 m1:af) (m2:Int) (m3:af) (m4:Bool) (l:List dC) (m6:af):Bool:=
  gP l&&(decide (l.length<20)&&(!(l.any fun f=>frB f.f0)&&(decide (m6.size<=600)&&((if m0.toList=([]:aQ) then Ci m1 m2 m3 m4 m6 else zn m0 m1 m2 m3 m4)&&decide (NP m0 m1 m2 m3 m4 l m6<=1500)))))
theorem bare_eq (n:Int):jh.f n=some (n==204||n==304):=by
  unfold jh.f
  by_cases h:n=204
  · rw[if_pos h,h];rfl
  · rw[if_neg h,beq_eq_false_iff_ne.2 h,Bool.false_or]
theorem TM (n:Int):uR.f n=some (n==204||n==304):=bare_eq n
theorem xe {s:ByteArray} (h:s.toList=([]:aQ)):s.size=0:=(toList_nil s).1 h
theorem NQ (m0 m1:af) (m2:Int) (m3:af) (m4:Bool) (l:List dC) (m6:af) (k:Nat) (hk:5500<k):iO.f k m0 m1 m2 m3 m4 l m6=some (Ci m1 m2 m3 m4 m6):=by
  unfold iO.f Ci
  by_cases h1:m1.toList=([]:aQ)
  · rw[if_pos h1,bK h1,Bool.true_and]
    by_cases h2:m2<200
    · rw[if_pos h2,bQ ae,Bool.false_and]
    · rw[if_neg h2]
      by_cases h2':m2>599
      · rw[if_pos h2',bQ ae,Bool.false_and]
      · rw[if_neg h2',bK ae,Bool.true_and]
        by_cases h3:m3.size<=40
        · rw[if_neg ae,bK h3,Bool.true_and,Fy m3 ae k ae,ax]
          by_cases h4:AR m3=true
          · rw[if_pos h4,h4,Bool.true_and]
            cases m4 with
            |true=>
              rw[if_pos rfl,if_pos rfl]
              split
              · rename_i h;rw[bK h]
              · rename_i h;rw[bQ h]
            |false=>rw[if_neg aA,if_neg aA,TM,ax]
          · rw[if_neg h4];simp[h4]
        · rw[if_pos ae,bQ h3,Bool.false_and]
  · rw[if_neg h1,bQ h1,Bool.false_and]
theorem J2 (m0 m1:af) (m2:Int) (m3:af) (m4:Bool) (l:List dC) (m6:af) (k:Nat) (hk:5500<k):iI.f k m0 m1 m2 m3 m4 l m6=some (zn m0 m1 m2 m3 m4):=by
  unfold iI.f zn ajV
  by_cases h1:m0.size<=20
  · rw[if_pos ae,bK h1,Bool.true_and,Fz m0 k ae,ax]
    by_cases h2:Qu m0=true
    · rw[if_pos h2,h2,Bool.true_and]
      by_cases h3:m1.size<=200
      · rw[if_pos ae,bK h3,Bool.true_and,uI m1 ae k ae,ax]
        by_cases h4:(decide (0<m1.size)&&yf m1)=true
        · rw[if_pos h4,h4,Bool.true_and]
          by_cases h5:m2=0
          · rw[if_pos h5,bK h5,Bool.true_and]
            by_cases h6:m3.toList=([]:aQ)
            · rw[if_pos h6,bK h6,Bool.true_and]
            · rw[if_neg h6,bQ h6,Bool.false_and]
          · rw[if_neg h5,bQ h5,Bool.false_and]
        · rw[if_neg h4]
          have:(decide (0<m1.size)&&yf m1)=false:=by simpa using h4
          rw[this,Bool.false_and]
      · rw[if_neg ae,bQ h3,Bool.false_and,Bool.false_and]
    · rw[if_neg h2];simp[h2]
  · rw[if_neg ae,bQ h1,Bool.false_and,Bool.false_and]
theorem TN {m1:ByteArray} {m2:Int} {m3:ByteArray} {m4:Bool} {m6:ByteArray} (h:Ci m1 m2 m3 m4 m6=true):m1.size=0/\200<=m2/\m2<=599/\m3.size<=40:=by
  unfold Ci at h
  simp only[Bool.and_eq_true,decide_eq_true_eq] at h
  exact⟨xe h.1,h.2.1.1,h.2.1.2,h.2.2.1⟩
theorem Qv {m0 m1:ByteArray} {m2:Int} {m3:ByteArray} {m4:Bool} (h:zn m0 m1 m2 m3 m4=true):m0.size<=20/\m1.size<=200/\m2=0/\m3.size=0:=by
  unfold zn ajV at h
  simp only[Bool.and_eq_true,decide_eq_true_eq] at h
  exact⟨h.1.1,h.1.2.2.1,h.2.1,xe h.2.2.1⟩
theorem Qw (m0 m1:af) (m2:Int) (m3:af) (m4:Bool) (l:List dC) (m6:af) (k:Nat) (hk:7000<k):fV.f k m0 m1 m2 m3 m4 l m6=some (Gp m0 m1 m2 m3 m4 l m6):=by
  obtain⟨k,rfl⟩:=dm k ae
  have no:fV.j0 (k+1) true m0 m1 m2 m3 m4 l m6=some false:=by simp only[fV.j0];rfl
  unfold fV.f Gp
  rw[xg l (k+1) ae,ax]
  by_cases hf:gP l=true
  case neg=>rw[if_neg hf,no];simp[hf]
  have hl:=jD hf
  rw[if_pos hf,hf,Bool.true_and]
  by_cases h20:l.length=20
  · rw[if_pos ae,no,bQ ae,Bool.false_and]
  rw[if_neg ae,show decide (l.length<20)=true from bK ae,Bool.true_and]
  unfold fZ.f
  have hfr:=JZ l hf l.length 0 (Nat.zero_le _) ae (k+1) ae
  rw[List.drop_zero] at hfr
  rw[show((0:Nat):Int)=0 from rfl] at hfr
  rw[hfr,ax]
  cases hb:l.any (fun f=>frB f.f0) with
  |true=>rw[if_pos rfl,no];rfl
  |false=>
    rw[if_neg aA]
    simp only[Bool.not_false,Bool.true_and]
    by_cases h6:m6.size<=600
    case neg=>rw[show decide ((m6.size:Int)>600)=true from bK ae,no,bQ h6,Bool.false_and]
    rw[show decide ((m6.size:Int)>600)=false from bQ ae,bK h6,Bool.true_and]
    simp only[fV.j0]
    rw[if_neg aA]
    by_cases e0:m0.toList=([]:aQ)
    · rw[if_pos e0,if_pos e0,NQ m0 m1 m2 m3 m4 l m6 k ae,ax]
      cases ha:Ci m1 m2 m3 m4 m6 with
      |false=>rw[if_neg aA,Bool.false_and]
      |true=>
        obtain⟨s1,s2,s3,s4⟩:=TN ha
        have s0:=xe e0
        obtain⟨r,hr1,hr2⟩:=H6 m0 m1 m2 m3 m4 l m6 hf h6 ae ae ⟨by omega,s3⟩ s4 k ae
        rw[if_pos rfl,hr1,ax,Bool.true_and]
        congr 1
        exact decide_eq_decide.2 ae
    · rw[if_neg e0,if_neg e0,J2 m0 m1 m2 m3 m4 l m6 k ae,ax]
      cases ha:zn m0 m1 m2 m3 m4 with
      |false=>rw[if_neg aA,Bool.false_and]
      |true=>
        obtain⟨s1,s2,s3,s4⟩:=Qv ha
        obtain⟨r,hr1,hr2⟩:=H6 m0 m1 m2 m3 m4 l m6 hf h6 s1 s2 ⟨by omega,by omega⟩ ae k ae
        rw[if_pos rfl,hr1,ax,Bool.true_and]
        congr 1
        exact decide_eq_decide.2 ae
theorem Qx (m0 m1:af) (m2:Int) (m3:af) (m4:Bool) (l:List dC) (m6:af) (k:Nat) (hk:7000<k):bN.f k m0 m1 m2 m3 m4 l m6=some (Gp m0 m1 m2 m3 m4 l m6):=by
  obtain⟨k,rfl⟩:∃ q,k=q+5:=⟨k-5,by omega⟩
  have no:bN.j0 (k+5) true m0 m1 m2 m3 m4 l m6=some false:=by simp only[bN.j0];rfl
  unfold bN.f Gp
  rw[tF l (k+5) ae,ax]
  by_cases hf:gP l=true
  case neg=>rw[if_neg hf,no];simp[hf]
  have hl:=jD hf
  rw[if_pos hf,hf,Bool.true_and]
  by_cases h20:l.length=20
  · rw[if_pos ae,no,bQ ae,Bool.false_and]
  rw[if_neg ae,show decide (l.length<20)=true from bK ae,Bool.true_and]
  by_cases h6:m6.size<=600
  case neg=>
    rw[show decide ((m6.size:Int)>600)=true from bK ae,no,bQ h6,Bool.false_and,Bool.and_false]
  rw[show decide ((m6.size:Int)>600)=false from bQ ae,bK h6,Bool.true_and]
  simp only[bN.j0]
  rw[if_neg aA]
  unfold uS.f
  rw[ax]
  have w0:wrap64 (0+1)=1:=by unfold wrap64;omega
  have w1:wrap64 (1+1)=2:=by unfold wrap64;omega
  have w2:wrap64 (2+1)=3:=by unfold wrap64;omega
  have hl3:(([Rl,Rm,Rn]:List ByteArray).length:Int)=3:=rfl
  have r0:dh ByteArray.empty [Rl,Rm,Rn] 0=Rl:=rfl
  have r1:dh ByteArray.empty [Rl,Rm,Rn] 1=Rm:=rfl
  have r2:dh ByteArray.empty [Rl,Rm,Rn] 2=Rn:=rfl
  have a1:=Aj l Rl aA (k+3) ae
  have a2:=Aj l Rm aA (k+2) ae
  have a3:=Aj l Rn aA (k+1) ae
  rw[afe hf] at a1 a2 a3
  show bN.l0 (k+4) [Rl,Rm,Rn] (([Rl,Rm,Rn]:List ByteArray).length:Int) 0 m0 m1 m2 m3 m4 l m6=_
  rw[asR l,hl3]
  have s0:bN.l0 (k+4) [Rl,Rm,Rn] 3 0 m0 m1 m2 m3 m4 l m6=if l.any (fun f=>qF f.f0 Rl)=true then some false else bN.l0 (k+3) [Rl,Rm,Rn] 3 1 m0 m1 m2 m3 m4 l m6:=by
    rw[bN.l0,if_pos aA,if_pos aA,if_pos (by rw[hl3];decide),r0,a1,ax,w0]
  have s1:bN.l0 (k+3) [Rl,Rm,Rn] 3 1 m0 m1 m2 m3 m4 l m6=if l.any (fun f=>qF f.f0 Rm)=true then some false else bN.l0 (k+2) [Rl,Rm,Rn] 3 2 m0 m1 m2 m3 m4 l m6:=by
    rw[bN.l0,if_pos aA,if_pos aA,if_pos (by rw[hl3];decide),r1,a2,ax,w1]
  have s2:bN.l0 (k+2) [Rl,Rm,Rn] 3 2 m0 m1 m2 m3 m4 l m6=if l.any (fun f=>qF f.f0 Rn)=true then some false else bN.l0 (k+1) [Rl,Rm,Rn] 3 3 m0 m1 m2 m3 m4 l m6:=by
    rw[bN.l0,if_pos aA,if_pos aA,if_pos (by rw[hl3];decide),r2,a3,ax,w2]
  rw[s0,s1,s2]
  cases l.any (fun f=>qF f.f0 Rl) with
  |true=>rfl
  |false=>
  rw[if_neg aA]
  cases l.any (fun f=>qF f.f0 Rm) with
  |true=>rfl
  |false=>
  rw[if_neg aA]
  cases l.any (fun f=>qF f.f0 Rn) with
  |true=>rfl
  |false=>
  rw[if_neg aA]
  simp only[Bool.or_self,Bool.not_false,Bool.true_and]
  rw[bN.l0,if_neg aA]
  by_cases e0:m0.toList=([]:aQ)
  · rw[if_pos e0,if_pos e0]
    unfold Ci
    by_cases h1:m1.toList=([]:aQ)
    case neg=>rw[if_neg h1,bQ h1,Bool.false_and,Bool.false_and]
    rw[if_pos h1,bK h1,Bool.true_and]
    unfold qp.f
    rw[xh,ax,ax]
    by_cases h2:200<=m2/\m2<=599
    case neg=>rw[if_neg (by rw[bQ h2];decide),bQ h2,Bool.false_and,Bool.false_and]
    rw[if_pos (bK h2),bK h2,Bool.true_and]
    unfold qw.f
    by_cases h3:m3.size<=40
    case neg=>rw[if_neg ae,ax,if_neg aA,bQ h3,Bool.false_and,Bool.false_and]
    rw[if_pos ae,bK h3,Bool.true_and,FB m3 ae k ae]
    simp only[ax]
    have s0:=xe e0
    have s1:=xe h1
    obtain⟨r,hr1,hr2⟩:=H7 m0 m1 m2 m3 m4 l m6 hf h6 ae ae ⟨by omega,h2.2⟩ h3
    have hd:decide ((r.size:Int)<=1500)=decide (NP m0 m1 m2 m3 m4 l m6<=1500):=decide_eq_decide.2 ae
    rw[bare_eq,hr1]
    simp only[ax]
    rw[hd]
    cases AR m3 <;> cases m4 <;> cases(m2==204||m2==304) <;> by_cases h6e:m6.toList=([]:aQ) <;> simp[h6e]
  · rw[if_neg e0,if_neg e0]
    unfold zn ajV ma.f
    rw[FC m0 k ae,ax]
    by_cases t1:Qu m0=true
    case neg=>rw[if_neg t1,ax,if_neg aA];simp[t1]
    rw[if_pos t1,ax,t1,Bool.true_and]
    by_cases h1:m0.size<=20
    case neg=>rw[if_neg (by rw[bQ ae];decide),bQ h1];simp
    rw[if_pos (bK ae),bK h1,Bool.true_and]
    unfold mf.f
    rw[xh,ax]
    by_cases h3:0<m1.size/\m1.size<=200
    case neg=>
      rw[if_neg (by rw[bQ ae];decide),ax,if_neg aA]
      by_cases h4:m1.size<=200
      · rw[bQ (show ¬ 0<m1.size by omega)];simp
      · rw[bQ h4];simp
    rw[if_pos (bK ae),bK h3.2,bK h3.1,uJ m1 ae k ae]
    simp only[ax,Bool.true_and]
    by_cases hv:yf m1=true
    case neg=>rw[if_neg hv];simp[hv]
    rw[if_pos hv,hv,Bool.true_and]
    by_cases h5:m2=0
    case neg=>rw[if_neg h5];simp[h5]
    rw[if_pos h5,bK h5,Bool.true_and]
    by_cases h7:m3.toList=([]:aQ)
    case neg=>rw[if_neg h7];simp[h7]
    rw[if_pos h7,bK h7,Bool.true_and]
    cases m4 with
    |true=>rw[if_pos rfl];rfl
    |false=>
      rw[if_neg aA]
      obtain⟨r,hr1,hr2⟩:=H7 m0 m1 m2 m3 false l m6 hf h6 h1 h3.2 ⟨by omega,by omega⟩ (by rw[xe h7];omega)
      rw[hr1,ax]
      simp only[Bool.not_false,Bool.true_and]
      congr 1
      exact decide_eq_decide.2 ae

abbrev rR := BX
def toF (x:rR):dC:=⟨x.f0,x.f1⟩
theorem Zk (l:List rR) (hl:l.length<=4398046511104):∀(d k i:Nat) (out:List dC),out.length=l.length->i<=l.length->l.length-i=d->(∀ j,j<i->out[j]? = (l.map toF)[j]?)->d<k->
    gp.l0 k l out (i:Int)=some (l.map toF):=by
  intro d
  induction d with
  |zero=>
    intro k i out ho h1 hd hj hk
    obtain⟨k,rfl⟩:∃ m,k=m+1:=⟨k-1,by omega⟩
    simp only[gp.l0]
    rw[if_neg ae]
    congr 1
    apply List.ext_getElem?
    intro j
    by_cases h:j<l.length
    · exact hj j ae
    · rw[List.getElem?_eq_none ae,List.getElem?_eq_none (by simp;omega)]
  |succ d ih=>
    intro k i out ho h1 hd hj hk
    obtain⟨k,rfl⟩:∃ m,k=m+1:=⟨k-1,by omega⟩
    have hw:wrap64 ((i:Int)+1)=((i+1:Nat):Int):=by rw[aC ae ae];omega
    simp only[gp.l0]
    unfold tH.f
    rw[if_pos ae,if_pos ae,ax,if_pos ae,hw,Int.toNat_natCast]
    refine ih k (i+1) _ (by rw[List.length_set];exact ho) ae ae (fun j hji=>?_) ae
    rw[List.getElem?_set]
    by_cases e:i=j
    · subst e
      rw[if_pos rfl,if_pos ae,List.getElem?_map]
      unfold uN
      rw[Int.toNat_natCast,List.getD_eq_getElem?_getD,List.getElem?_eq_getElem ae]
      rfl
    · rw[if_neg e]
      exact hj j ae
theorem KS (l:List rR) (hl:l.length<=4398046511104) (k:Nat) (hk:l.length<k):gp.f k l=some (l.map toF):=by
  unfold gp.f
  rw[if_pos ae,if_pos ae]
  exact Zk l hl l.length k 0 _ (by simp) (Nat.zero_le _) ae (fun j hj=>by omega) hk
theorem TP (a b:af) (n:Int):∃ t,lM.f a b n=some t:=by
  unfold lM.f
  split
  · exact⟨_,rfl⟩
  · split <;> exact⟨_,rfl⟩
theorem Zl (l:List rR) (hl:l.length<=4398046511104):∀(d k:Nat) (n i:Int),0<=i->(l.length:Int)-i=d->d<k->∃ t,gq.l0 k l n i=some t:=by
  intro d
  induction d with
  |zero=>
    intro k n i h0 hd hk
    obtain⟨k,rfl⟩:∃ m,k=m+1:=⟨k-1,by omega⟩
    simp only[gq.l0]
    rw[if_neg ae]
    exact⟨_,rfl⟩
  |succ d ih=>
    intro k n i h0 hd hk
    obtain⟨k,rfl⟩:∃ m,k=m+1:=⟨k-1,by omega⟩
    simp only[gq.l0]
    obtain⟨t,ht⟩:=TP (uN l i).f0 (uN l i).f1 n
    rw[if_pos ae,if_pos h0,ht,ax]
    by_cases h:t<0
    · rw[if_pos h];exact⟨_,rfl⟩
    · rw[if_neg h,aC (x:=i+1) ae ae]
      exact ih k t (i+1) ae ae ae
theorem FD (l:List rR) (hl:l.length<=4398046511104) (n:Int) (k:Nat) (hk:l.length<k):∃ t,gq.f k l n=some t:=by
  unfold gq.f
  split
  · exact⟨_,rfl⟩
  · exact Zl l hl l.length k _ 0 ae ae hk

def zo (t:Int):Bool:=decide (0<=t/\t<=253402300799)
theorem vO (t:Int):jR.f t=some (zo t):=by
  unfold jR.f zo
  by_cases h:t>=0
  · rw[if_pos h];congr 1;exact decide_eq_decide.2 ae
  · rw[if_neg h,bQ ae]
theorem tJ (t:Int):gW.f t=some (zo t):=by
  unfold gW.f zo
  rw[xh]
  rfl
def zt (u:af) (t1 t2:Int) (l:List dC) (m0 m1:af) (m2:Int) (m3:af) (m4:Bool) (ml:List dC) (m6:af):Bool:=
  Gq u&&(zo t1&&(zo t2&&(decide (t1<=t2)&&(gP l&&(Gp m0 m1 m2 m3 m4 ml m6&&(decide (m0.toList=([]:aQ)) && !m4))))))
theorem Db (u:af) (t1 t2:Int) (l:List dC) (m0 m1:af) (m2:Int) (m3:af) (m4:Bool) (ml:List dC) (m6:af) (hu:u.size<=1048576) (k:Nat) (hk:80000010<k) :
    gT.f k u t1 t2 l m0 m1 m2 m3 m4 ml m6=some (zt u t1 t2 l m0 m1 m2 m3 m4 ml m6):=by
  unfold gT.f zt
  rw[Qy u hu k hk,ax]
  cases Gq u with
  |false=>rfl
  |true=>
    rw[if_pos rfl,Bool.true_and,vO,ax]
    cases zo t1 with
    |false=>rfl
    |true=>
      rw[if_pos rfl,Bool.true_and,vO,ax]
      cases zo t2 with
      |false=>rfl
      |true=>
        rw[if_pos rfl,Bool.true_and]
        by_cases c:t1<=t2
        case neg=>rw[if_neg c,bQ c,Bool.false_and]
        rw[if_pos c,bK c,Bool.true_and,xg l k ae,ax]
        cases gP l with
        |false=>rfl
        |true=>
          rw[if_pos rfl,Bool.true_and,Qw m0 m1 m2 m3 m4 ml m6 k ae,ax]
          cases Gp m0 m1 m2 m3 m4 ml m6 with
          |false=>rfl
          |true=>
            rw[if_pos rfl,Bool.true_and]
            by_cases d:m0.toList=([]:aQ)
            · rw[if_pos d,bK d,Bool.true_and]
            · rw[if_neg d,bQ d,Bool.false_and]
theorem Mf (u:af) (t1 t2:Int) (l:List dC) (m0 m1:af) (m2:Int) (m3:af) (m4:Bool) (ml:List dC) (m6:af) (hu:u.size<=1048576) (k:Nat) (hk:80000010<k) :
    ji.f k u t1 t2 l m0 m1 m2 m3 m4 ml m6=some (zt u t1 t2 l m0 m1 m2 m3 m4 ml m6):=by
  unfold ji.f zt
  rw[Qz u hu k hk,ax]
  cases Gq u with
  |false=>rfl
  |true=>
    rw[if_pos rfl,Bool.true_and,tJ,ax]
    cases zo t1 with
    |false=>rfl
    |true=>
      rw[if_pos rfl,Bool.true_and,tJ,ax]
      cases zo t2 with
      |false=>rfl
      |true=>
        rw[if_pos rfl,Bool.true_and]
        by_cases c:t1<=t2
        case neg=>rw[if_neg c,bQ c,Bool.false_and]
        rw[if_pos c,bK c,Bool.true_and,tF l k ae,ax]
        cases gP l with
        |false=>rfl
        |true=>
          rw[if_pos rfl,Bool.true_and,Qx m0 m1 m2 m3 m4 ml m6 k ae,ax]
          cases Gp m0 m1 m2 m3 m4 ml m6 with
          |false=>rfl
          |true=>
            rw[if_pos rfl,Bool.true_and]
            by_cases d:m0.toList=([]:aQ)
            · rw[if_pos d,bK d,Bool.true_and]
            · rw[if_neg d,bQ d,Bool.false_and]
theorem Zm (m0 m1:af) (m2:Int) (m3:af) (m4:Bool) (l:List rR) (m6:af) (n:Int) (hl:l.length<=4398046511104) (k:Nat) (hk:l.length<k):∃ t,mh.f k m0 m1 m2 m3 m4 l m6 n=some t:=by
  unfold mh.f
  split
  · exact⟨_,rfl⟩
  · split
    · exact⟨_,rfl⟩
    · split
      · exact⟨_,rfl⟩
      · obtain⟨t,ht⟩:=FD l hl (wrap64 (wrap64 (wrap64 (n-(m0.size:Int))-(m1.size:Int))-(m3.size:Int))) k hk
        rw[ht,ax]
        split
        · exact⟨_,rfl⟩
        · split <;> exact⟨_,rfl⟩
theorem TQ (u:af) (t1 t2:Int) (l:List rR) (m0 m1:af) (m2:Int) (m3:af) (m4:Bool) (ml:List rR) (m6:af) (hu:u.size<=140737488351232) (hl:l.length<=4398046511104) (hm:ml.length<=4398046511104) (k:Nat) (hk:l.length+ml.length<k) :
    ∃ t,kW.f k u t1 t2 l m0 m1 m2 m3 m4 ml m6 1048576=some t/\(¬ t<0->u.size<=1048576):=by
  unfold kW.f
  have hw:wrap64 (1048576-(u.size:Int))=1048576-(u.size:Int):=aC ae ae
  rw[hw]
  by_cases c:1048576-(u.size:Int)<0
  · rw[if_pos c];exact⟨-1,rfl,fun h=>absurd aA h⟩
  · rw[if_neg c]
    obtain⟨t,ht⟩:=FD l hl (1048576-(u.size:Int)) k ae
    rw[ht,ax]
    split
    · exact⟨-1,rfl,fun h=>absurd aA h⟩
    · obtain⟨t2,ht2⟩:=Zm m0 m1 m2 m3 m4 ml m6 t hm k ae
      rw[ht2,ax]
      split
      · exact⟨-1,rfl,fun h=>absurd aA h⟩
      · exact⟨t2,rfl,fun _=>by omega⟩
theorem Zn (u:af) (t1 t2:Int) (l:List rR) (m0 m1:af) (m2:Int) (m3:af) (m4:Bool) (ml:List rR) (m6:af) (hl:l.length<=4398046511104) (hm:ml.length<=4398046511104) (k:Nat) (hk:l.length+ml.length<k) :
    mi.f k u t1 t2 l m0 m1 m2 m3 m4 ml m6=some (u,t1,t2,l.map toF,m0,m1,m2,m3,m4,ml.map toF,m6):=by
  unfold mi.f xk.f
  rw[KS l hl k ae,ax,KS ml hm k ae,ax,ax]
theorem TR (u:af) (t1 t2:Int) (l:List dC) (m0 m1:af) (m2:Int) (m3:af) (m4:Bool) (ml:List dC) (m6:af) (hl:l.length<=4398046511104) (hm:ml.length<=4398046511104) (k:Nat) (hk:l.length+ml.length<k) :
    kv.f k u t1 t2 l m0 m1 m2 m3 m4 ml m6 u t1 t2 l m0 m1 m2 m3 m4 ml m6=some true:=by
  have h1:=DV k l ae ae
  have h2:=DV k ml ae ae
  unfold kv.f lv.f
  rw[if_pos rfl,if_pos rfl,if_pos rfl,h1,ax,if_pos rfl,if_pos rfl,if_pos rfl,if_pos rfl,if_pos rfl,if_neg (by simp),h2,ax,if_pos rfl,if_pos rfl,ax,if_pos rfl]

def uk (y:Int):Prop:=y%4=0/\(y%100≠0∨y%400=0)
instance (y:Int):Decidable (uk y):=by unfold uk;infer_instance
def Be (y:Int):Int:=365*(y-1970)+(y-1) / 4-(y-1) / 100+(y-1) / 400-477
def ylI (y:Int):Int:=if uk y then 366 else 365
def KT (y m:Int):Int:=if m=2 then(if uk y then 29 else 28) else if m=4∨m=6∨m=9∨m=11 then 30 else 31
def Bf (y:Int):Nat->Int
  |0=>0
  |n+1=>Bf y n+KT y ((n:Int)+1)
theorem Cj (y:Int):Be (y+1)=Be y+ylI y:=by
  unfold Be ylI
  by_cases h:uk y
  · rw[if_pos h];unfold uk at h;omega
  · rw[if_neg h];unfold uk at h;omega
theorem anF (y:Int):365<=ylI y:=by unfold ylI;split <;> omega
theorem VA (y:Int):ylI y<=366:=by unfold ylI;split <;> omega
theorem afg (y m:Int):28<=KT y m:=by unfold KT;split <;> split <;> omega
theorem Ro (y m:Int):KT y m<=31:=by unfold KT;split <;> split <;> omega
theorem TS (y:Int):Bf y 12=ylI y:=by
  unfold ylI
  by_cases h:uk y <;> simp[Bf,KT,h]
theorem H8 (y:Int):∀(n m:Nat),n<=m->Bf y n+28*((m-n:Nat):Int)<=Bf y m:=by
  intro n m
  induction m with
  |zero=>
    intro h
    obtain rfl:n=0:=by omega
    simp
  |succ m ih=>
    intro h
    by_cases e:n=m+1
    · subst e;simp
    · have:=ih ae
      have:=afg y ((m:Int)+1)
      show _<=Bf y m+KT y ((m:Int)+1)
      omega
theorem Rp (y:Int) (n:Nat):0<=Bf y n:=by
  have h:=H8 y 0 n (Nat.zero_le _)
  have:Bf y 0=0:=rfl
  omega
theorem H9 (y z:Int) (h:y<=z):Be y<=Be z:=by unfold Be;omega
def DD (Y M D h m s:Int):Bool:=decide (1970<=Y/\Y<=9999)&&(decide (1<=M/\M<=12)&&(decide (1<=D/\D<=KT Y M)&&(decide (0<=h/\h<=23)&&(decide (0<=m/\m<=59)&&decide (0<=s/\s<=59)))))
theorem mo (Y M D h m s:Int):DD Y M D h m s=true↔(1970<=Y/\Y<=9999)/\(1<=M/\M<=12)/\(1<=D/\D<=KT Y M)/\(0<=h/\h<=23)/\(0<=m/\m<=59)/\(0<=s/\s<=59):=by
  unfold DD
  simp only[Bool.and_eq_true,decide_eq_true_eq]
def QA (Y M D h m s:Int):Int:=86400*(Be Y+Bf Y (M-1).toNat+D-1)+3600*h+60*m+s
def yrI : Nat->Int->Int->Int
  |0,y,_=>y
  |n+1,y,d=>if Be (y+1)<=d then yrI n (y+1) d else y
theorem ajW : ∀(n:Nat) (y d:Int),Be y<=d->d<Be (y+n+1)->Be (yrI n y d)<=d/\d<Be (yrI n y d+1)/\y<=yrI n y d/\yrI n y d<=y+n:=by
  intro n
  induction n with
  |zero=>intro y d h1 h2;refine⟨h1,?_,Int.le_refl _,by simp[yrI]⟩;simpa [yrI] using h2
  |succ n ih=>
    intro y d h1 h2
    unfold yrI
    by_cases h:Be (y+1)<=d
    · rw[if_pos h]
      obtain⟨a,b,c,e⟩:=ih (y+1) d h (by rw[show y+1+(n:Int)+1=y+((n+1:Nat):Int)+1 by omega];exact h2)
      exact⟨a,b,by omega,by omega⟩
    · rw[if_neg h];exact⟨h1,by omega,Int.le_refl _,by omega⟩
def Rq (d:Int):Int:=yrI 8029 1970 d
theorem adB (d:Int) (h0:0<=d) (h1:d<=2932896):Be (Rq d)<=d/\d<Be (Rq d+1)/\1970<=Rq d/\Rq d<=9999:=by
  obtain⟨a,b,c,e⟩:=ajW 8029 1970 d (by unfold Be;omega) (by unfold Be;omega)
  exact⟨a,b,c,by unfold Rq;omega⟩
def moI (y:Int):Nat->Nat->Int->Nat
  |0,n,_=>n
  |k+1,n,d=>if Bf y (n+1)<=d then moI y k (n+1) d else n
theorem ajX (y:Int):∀(k n:Nat) (d:Int),Bf y n<=d->d<Bf y (n+k+1)->Bf y (moI y k n d)<=d/\d<Bf y (moI y k n d+1)/\moI y k n d<=n+k:=by
  intro k
  induction k with
  |zero=>intro n d h1 h2;exact⟨h1,h2,Nat.le_refl _⟩
  |succ k ih=>
    intro n d h1 h2
    unfold moI
    by_cases h:Bf y (n+1)<=d
    · rw[if_pos h]
      obtain⟨a,b,e⟩:=ih (n+1) d h (by rw[show n+1+k+1=n+(k+1)+1 by omega];exact h2)
      exact⟨a,b,by omega⟩
    · rw[if_neg h];exact⟨h1,by omega,by omega⟩
def afh (y d:Int):Nat:=moI y 11 0 d
theorem afi (y d:Int) (h0:0<=d) (h1:d<ylI y):Bf y (afh y d)<=d/\d<Bf y (afh y d+1)/\afh y d<=11:=by
  obtain⟨a,b,e⟩:=ajX y 11 0 d h0 (by rw[TS];exact h1)
  exact⟨a,b,by unfold afh;omega⟩
def cY (t:Int):Int:=Rq (t / 86400)
def cN (t:Int):Nat:=afh (cY t) (t / 86400-Be (cY t))
def cM (t:Int):Int:=(cN t:Int)+1
def cD (t:Int):Int:=t / 86400-Be (cY t)-Bf (cY t) (cN t)+1
def cH (t:Int):Int:=t%86400 / 3600
def cI (t:Int):Int:=t%3600 / 60
def cS (t:Int):Int:=t%60
def yB (t:Int):Prop:=0<=t/\t<=253402300799
theorem DW (t:Int) (h:yB t):Be (cY t)<=t / 86400/\t / 86400<Be (cY t+1)/\1970<=cY t/\cY t<=9999:=by
  unfold yB at h
  exact adB _ ae ae
theorem Ia (t:Int) (h:yB t):Bf (cY t) (cN t)<=t / 86400-Be (cY t)/\t / 86400-Be (cY t)<Bf (cY t) (cN t+1)/\cN t<=11:=by
  obtain⟨a,b,-,-⟩:=DW t h
  rw[Cj] at b
  exact afi _ _ ae ae
theorem asS (t:Int) (h:yB t):DD (cY t) (cM t) (cD t) (cH t) (cI t) (cS t)=true:=by
  obtain⟨-,-,a,b⟩:=DW t h
  obtain⟨c,d,e⟩:=Ia t h
  have d':t / 86400-Be (cY t)<Bf (cY t) (cN t)+KT (cY t) (cM t):=d
  rw[mo]
  unfold cH cI cS
  refine⟨⟨a,b⟩,⟨by unfold cM;omega,by unfold cM;omega⟩,⟨by unfold cD;omega,by unfold cD;omega⟩,⟨by omega,by omega⟩,⟨by omega,by omega⟩,by omega,by omega⟩
theorem asT (t:Int):QA (cY t) (cM t) (cD t) (cH t) (cI t) (cS t)=t:=by
  have e:(cM t-1).toNat=cN t:=by unfold cM;omega
  unfold QA
  rw[e]
  unfold cD cH cI cS
  omega
theorem afj (Y M D h m s:Int) (hc:DD Y M D h m s=true):yB (QA Y M D h m s):=by
  rw[mo] at hc
  obtain⟨h1,h2,h3,h4,h5,h6⟩:=hc
  have a:=H9 1970 Y h1.1
  have b:=H9 (Y+1) 10000 ae
  have e1:Be 1970=0:=by decide
  have e2:Be 10000=2932897:=by decide
  have c:=Cj Y
  obtain⟨n,hn⟩:∃ n:Nat,(M-1).toNat=n:=⟨_,rfl⟩
  have d:=H8 Y (n+1) 12 ae
  rw[TS] at d
  have d':Bf Y (n+1)=Bf Y n+KT Y M:=by
    show Bf Y n+KT Y ((n:Int)+1)=_
    rw[show(n:Int)+1=M by omega]
  have f:=Rp Y n
  unfold yB QA
  rw[hn]
  omega
def ny (n:Int):UInt8:=UInt8.ofNat (48+(n%10).toNat)
theorem TT (n:Int):((ny n).toNat:Int)=48+n%10:=by
  unfold ny
  rw[UInt8.toNat_ofNat']
  omega
theorem vP (n:Int):48<=(ny n).toNat/\(ny n).toNat<=57:=by
  have:=TT n
  omega
def vF (m:Int):List UInt8:=
  if m=1 then [74,97,110] else if m=2 then [70,101,98] else if m=3 then [77,97,114] else if m=4 then [65,112,114] else if m=5 then [77,97,121] else if m=6 then [74,117,110]
  else if m=7 then [74,117,108] else if m=8 then [65,117,103] else if m=9 then [83,101,112] else if m=10 then [79,99,116] else if m=11 then [78,111,118] else [68,101,99]
def vQ (k:Int):List UInt8:=
  if k=0 then [77,111,110,100,97,121] else if k=1 then [84,117,101,115,100,97,121] else if k=2 then [87,101,100,110,101,115,100,97,121] else if k=3 then [84,104,117,114,115,100,97,121]
  else if k=4 then [70,114,105,100,97,121] else if k=5 then [83,97,116,117,114,100,97,121] else [83,117,110,100,97,121]
def kE (n:Int):List UInt8:=[ny (n / 10),ny n]
def vR (n:Int):List UInt8:=[ny (n / 1000),ny (n / 100),ny (n / 10),ny n]
def sF (h i s:Int):List UInt8:=kE h ++ [58]++kE i ++ [58]++kE s
def Bj : List UInt8:=[32,71,77,84]
def zu (Y M D h i s:Int):List UInt8:=[44,32]++kE D ++ [32]++vF M ++ [32]++vR Y ++ [32]++sF h i s++Bj
def Bl (Y M D h i s:Int):List UInt8:=[44,32]++kE D ++ [45]++vF M ++ [45]++kE Y ++ [32]++sF h i s++Bj
def tV (Y M D h i s:Int):List UInt8:=[32]++vF M ++ [32]++(if D<10 then [32,ny D] else kE D) ++ [32]++sF h i s ++ [32]++vR Y
theorem jY (m:Int):∃ a b c,vF m = [a,b,c]/\(65<=a.toNat/\a.toNat<=90)/\(97<=b.toNat/\b.toNat<=122)/\(97<=c.toNat/\c.toNat<=122):=by
  generalize hl:vF m=l
  unfold vF at hl
  repeat' split at hl
  all_goals (subst hl;refine⟨_,_,_,rfl,?_,?_,?_⟩ <;> decide)
theorem VB (m n:Int) (hm:1<=m/\m<=12) (hn:1<=n/\n<=12) (h:vF m=vF n):m=n:=by
  have e:∀ x:Int,1<=x/\x<=12->x=1∨x=2∨x=3∨x=4∨x=5∨x=6∨x=7∨x=8∨x=9∨x=10∨x=11∨x=12:=by omega
  rcases e m hm with rfl|rfl|rfl|rfl|rfl|rfl|rfl|rfl|rfl|rfl|rfl|rfl <;> rcases e n hn with rfl|rfl|rfl|rfl|rfl|rfl|rfl|rfl|rfl|rfl|rfl|rfl <;> first|rfl|exact absurd h aA
theorem Ck (k:Int):∀ b∈vQ k,65<=b.toNat:=by
  unfold vQ
  repeat' split
  all_goals decide
theorem xM (k:Int):6<=(vQ k).length/\(vQ k).length<=9:=by
  unfold vQ
  repeat' split
  all_goals decide
def NR (s:af) (n:Nat) (T:List UInt8):Prop:=s.size=n+T.length/\(∀ j:Nat,j<n->65<=bt s (j:Int))/\∀(j:Nat) (b:UInt8),T[j]? = some b->bt s ((n+j:Nat):Int)=(b.toNat:Int)
theorem MX (L:List UInt8) (j:Nat) (b:UInt8) (h:L[j]? = some b):bt (⟨L.toArray⟩:af) (j:Int)=(b.toNat:Int):=by
  obtain⟨h1,h2⟩:=List.getElem?_eq_some_iff.1 h
  unfold bt
  rw[dif_pos (show((j:Int)).toNat<(⟨L.toArray⟩:af).size by simpa [ByteArray.size] using h1)]
  simp only[Int.toNat_natCast]
  rw[<- h2]
  rfl
theorem TU (nm T:List UInt8) (hn:∀ b∈nm,65<=b.toNat):NR (⟨(nm++T).toArray⟩:af) nm.length T:=by
  refine⟨by simp[ByteArray.size],fun j hj=>?_,fun j b h=>?_⟩
  · have h1:(nm++T)[j]? = some nm[j]:=by rw[List.getElem?_append_left hj,List.getElem?_eq_getElem hj]
    rw[MX _ _ _ h1]
    have:=hn nm[j] (List.getElem_mem hj)
    omega
  · exact MX _ _ _ (by rw[List.getElem?_append_right ae,Nat.add_sub_cancel_left];exact h)
theorem NR.get {s:ByteArray} {n:Nat} {T:List UInt8} (h:NR s n T) (j:Nat) (b:UInt8) (e:T[j]? = some b):bt s ((n+j:Nat):Int)=(b.toNat:Int):=h.2.2 j b e
def yg (x:Int):Prop:=48<=x/\x<=57
instance (x:Int):Decidable (yg x):=by unfold yg;infer_instance
def tX (s:af) (i:Nat):Nat->Nat->Int->Nat×Int
  |0,k,n=>(k,n)
  |d+1,k,n=>if k<s.size/\yg (bt s (k:Int))/\k<i+9 then tX s i d (k+1) (10*n+(bt s (k:Int)-48)) else(k,n)
def vS (s:af):Nat->Nat->List Int->List Int
  |0,_,out=>out
  |d+1,i,out=>if i<s.size then(if(tX s i 10 i 0).1>i then vS s d (tX s i 10 i 0).1 (out ++ [(tX s i 10 i 0).2]) else vS s d (i+1) out) else out
theorem TV (s:af) (i:Nat):∀(d k:Nat) (n:Int),i<=k->0<=n->n<10 ^ (k-i)->k<=i+9->k<=s.size->k<=(tX s i d k n).1/\(tX s i d k n).1<=s.size/\(tX s i d k n).1<=i+9/\0<=(tX s i d k n).2/\(tX s i d k n).2<10 ^ ((tX s i d k n).1-i):=by
  intro d
  induction d with
  |zero=>intro k n h1 h2 h3 h4 h5;exact⟨Nat.le_refl _,h5,h4,h2,h3⟩
  |succ d ih=>
    intro k n h1 h2 h3 h4 h5
    unfold tX
    split
    · rename_i h
      have hd:=h.2.1
      unfold yg at hd
      obtain⟨a,b,c,e,f⟩:=ih (k+1) (10*n+(bt s (k:Int)-48)) ae ae (by rw[show k+1-i=(k-i)+1 by omega,Int.pow_succ];omega) ae ae
      exact⟨by omega,b,c,e,f⟩
    · exact⟨Nat.le_refl _,h5,h4,h2,h3⟩
theorem afk (s:af) (i:Nat) (hi:i<=s.size) (d:Nat):0<=(tX s i d i 0).2/\(tX s i d i 0).2<=999999999:=by
  obtain⟨_,_,c,e,f⟩:=TV s i d i 0 (Nat.le_refl _) (Int.le_refl _) (by simp) ae hi
  refine⟨e,?_⟩
  have key:∀ n:Nat,n<=9->(10:Int) ^ n<=1000000000:=fun n hn=>
    match n,hn with
    |0,_=>by decide
    |1,_=>by decide
    |2,_=>by decide
    |3,_=>by decide
    |4,_=>by decide
    |5,_=>by decide
    |6,_=>by decide
    |7,_=>by decide
    |8,_=>by decide
    |9,_=>by decide
    |n+10,hn=>absurd hn ae
  have h':=key ((tX s i d i 0).1-i) ae
  omega
theorem afl (s:af):∀(d i:Nat) (out:List Int),i<=s.size->(∀ x∈out,0<=x/\x<=999999999)->∀ x∈vS s d i out,0<=x/\x<=999999999:=by
  intro d
  induction d with
  |zero=>intro i out hi h;exact h
  |succ d ih=>
    intro i out hi h
    unfold vS
    split
    · split
      · refine ih _ _ (TV s i 10 i 0 (Nat.le_refl _) (Int.le_refl _) (by simp) ae hi).2.1 fun x hx=>?_
        rcases List.mem_append.1 hx with hx|hx
        · exact h x hx
        · obtain rfl:=List.mem_singleton.1 hx
          exact afk s i hi 10
      · exact ih _ _ ae h
    · exact h
theorem fJ {s:ByteArray} {d i:Nat} {out:List Int} (h1:i<s.size) (h2:¬ yg (bt s (i:Int))):vS s (d+1) i out=vS s d (i+1) out:=by
  have e:tX s i 10 i 0=(i,0):=by unfold tX;rw[if_neg fun h=>h2 h.2.1]
  rw[vS,if_pos h1,e,if_neg (Nat.lt_irrefl _)]
theorem Ib {s:ByteArray} {d i:Nat} {out:List Int} (h1:s.size<=i):vS s d i out=out:=by
  cases d with
  |zero=>rfl
  |succ d=>rw[vS,if_neg ae]
theorem Cm {s:ByteArray} {i d k:Nat} {n:Int} (x:Int) (h1:k<s.size) (h2:bt s (k:Int)=48+x%10) (h3:k<i+9):tX s i (d+1) k n=tX s i d (k+1) (10*n+x%10):=by
  rw[tX,if_pos ⟨h1,by unfold yg;omega,h3⟩,h2]
  congr 1
  omega
theorem NS {s:ByteArray} {i d k:Nat} {n:Int} (h:k<s.size->¬ yg (bt s (k:Int))):tX s i d k n=(k,n):=by
  cases d with
  |zero=>rfl
  |succ d=>rw[tX,if_neg fun q=>h q.1 q.2.1]
theorem afm {s:ByteArray} {d i:Nat} {out:List Int} (x:Int) (h1:i<s.size) (a:bt s (i:Int)=48+x%10) (h:i+1<s.size->¬ yg (bt s ((i+1:Nat):Int))) :
    vS s (d+1) i out=vS s d (i+1) (out ++ [x%10]):=by
  have e:tX s i 10 i 0=(i+1,x%10):=by
    rw[Cm x h1 a ae,NS h]
    congr 1
    omega
  rw[vS,if_pos h1,e,if_pos (by show i+1>i;omega)]
theorem nQ {s:ByteArray} {d i:Nat} {out:List Int} (n:Int) (hn:0<=n) (h1:i+1<s.size) (a:bt s (i:Int)=48+n / 10%10) (b:bt s ((i+1:Nat):Int)=48+n%10) (h:i+2<s.size->¬ yg (bt s ((i+2:Nat):Int))) :
    vS s (d+1) i out=vS s d (i+2) (out ++ [n%100]):=by
  have e:tX s i 10 i 0=(i+2,n%100):=by
    rw[Cm (n / 10) ae a ae,Cm n h1 b ae,NS h]
    congr 1
    omega
  rw[vS,if_pos ae,e,if_pos (by show i+2>i;omega)]
theorem J3 {s:ByteArray} {d i:Nat} {out:List Int} (n:Int) (hn:0<=n) (h1:i+3<s.size) (a:bt s (i:Int)=48+n / 1000%10) (b:bt s ((i+1:Nat):Int)=48+n / 100%10) (c:bt s ((i+2:Nat):Int)=48+n / 10%10) (e:bt s ((i+3:Nat):Int)=48+n%10) (h:i+4<s.size->¬ yg (bt s ((i+4:Nat):Int))) :
    vS s (d+1) i out=vS s d (i+4) (out ++ [n%10000]):=by
  have e:tX s i 10 i 0=(i+4,n%10000):=by
    rw[Cm (n / 1000) ae a ae,Cm (n / 100) ae b ae,Cm (n / 10) ae c ae,Cm n h1 e ae,NS h]
    congr 1
    omega
  rw[vS,if_pos ae,e,if_pos (by show i+4>i;omega)]
theorem adC {s:ByteArray} {out:List Int}:∀(n d i:Nat),i+n<=s.size->(∀ j:Nat,i<=j->j<i+n->¬ yg (bt s (j:Int)))->vS s (d+n) i out=vS s d (i+n) out:=by
  intro n
  induction n with
  |zero=>intro d i _ _;rfl
  |succ n ih=>
    intro d i h1 h2
    rw[show d+(n+1)=(d+n)+1 by omega,fJ ae (h2 i (Nat.le_refl _) ae),ih d (i+1) ae (fun j a b=>h2 j ae ae),show i+1+n=i+(n+1) by omega]
def numsOf (s:af):List Int:=vS s 100 0 []
theorem anG {x:Int} (h:x<48∨57<x):¬ yg x:=by unfold yg;omega
theorem NR.nd {s:ByteArray} {n:Nat} {T:List UInt8} (h:NR s n T) (j:Nat) (b:UInt8) (e:T[j]? = some b) (hb:b.toNat<48∨57<b.toNat):¬ yg (bt s ((n+j:Nat):Int)):=by
  rw[h.get j b e]
  exact anG ae
theorem NR.dg {s:ByteArray} {n:Nat} {T:List UInt8} (h:NR s n T) (j:Nat) (x:Int) (e:T[j]? = some (ny x)):bt s ((n+j:Nat):Int)=48+x%10:=by
  rw[h.get j _ e,TT]
theorem Cn {s:ByteArray} {n:Nat} {T:List UInt8} (h:NR s n T) (hn:n<=9):numsOf s=vS s (100-n) (n+0) []:=by
  unfold numsOf
  rw[show(100:Nat)=(100-n)+n by omega,adC n (100-n) 0 (by have:=h.1;omega) (fun j a b=>anG (by have:=h.2.1 j ae;omega))]
  congr 1 <;> omega
theorem adD {s:ByteArray} {n:Nat} {Y M D a i e:Int} (h:NR s n (zu Y M D a i e)) (hn:n<=9) (hY:0<=Y) (hD:0<=D) (ha:0<=a) (hi:0<=i) (he:0<=e) :
    numsOf s = [D%100,Y%10000,a%100,i%100,e%100]:=by
  obtain⟨x,y,z,hm,hx,hy,hz⟩:=jY M
  have hs:s.size=n+26:=by rw[h.1];unfold zu;rw[hm];rfl
  have T:zu Y M D a i e = [44,32,ny (D / 10),ny D,32,x,y,z,32,ny (Y / 1000),ny (Y / 100),ny (Y / 10),ny Y,32,ny (a / 10),ny a,58,ny (i / 10),ny i,58,ny (e / 10),ny e,32,71,77,84]:=by unfold zu;rw[hm];rfl
  rw[T] at h
  obtain⟨d,hd⟩:∃ d,100-n=d+30:=⟨70-n,by omega⟩
  rw[Cn h hn,hd]
  rw[fJ ae (h.nd 0 44 rfl aA),fJ ae (h.nd 1 32 rfl aA),nQ D hD ae (h.dg 2 _ rfl) (h.dg 3 _ rfl) (fun _=>h.nd 4 32 rfl aA),
    fJ ae (h.nd 4 32 rfl aA),fJ ae (h.nd 5 x rfl ae),fJ ae (h.nd 6 y rfl ae),fJ ae (h.nd 7 z rfl ae),fJ ae (h.nd 8 32 rfl aA),
    J3 Y hY ae (h.dg 9 _ rfl) (h.dg 10 _ rfl) (h.dg 11 _ rfl) (h.dg 12 _ rfl) (fun _=>h.nd 13 32 rfl aA),
    fJ ae (h.nd 13 32 rfl aA),nQ a ha ae (h.dg 14 _ rfl) (h.dg 15 _ rfl) (fun _=>h.nd 16 58 rfl aA),
    fJ ae (h.nd 16 58 rfl aA),nQ i hi ae (h.dg 17 _ rfl) (h.dg 18 _ rfl) (fun _=>h.nd 19 58 rfl aA),
    fJ ae (h.nd 19 58 rfl aA),nQ e he ae (h.dg 20 _ rfl) (h.dg 21 _ rfl) (fun _=>h.nd 22 32 rfl aA),
    fJ ae (h.nd 22 32 rfl aA),fJ ae (h.nd 23 71 rfl aA),fJ ae (h.nd 24 77 rfl aA),fJ ae (h.nd 25 84 rfl aA),Ib ae]
  rfl
theorem adE {s:ByteArray} {n:Nat} {Y M D a i e:Int} (h:NR s n (Bl Y M D a i e)) (hn:n<=9) (hY:0<=Y) (hD:0<=D) (ha:0<=a) (hi:0<=i) (he:0<=e) :
    numsOf s = [D%100,Y%100,a%100,i%100,e%100]:=by
  obtain⟨x,y,z,hm,hx,hy,hz⟩:=jY M
  have hs:s.size=n+24:=by rw[h.1];unfold Bl;rw[hm];rfl
  have T:Bl Y M D a i e = [44,32,ny (D / 10),ny D,45,x,y,z,45,ny (Y / 10),ny Y,32,ny (a / 10),ny a,58,ny (i / 10),ny i,58,ny (e / 10),ny e,32,71,77,84]:=by unfold Bl;rw[hm];rfl
  rw[T] at h
  obtain⟨d,hd⟩:∃ d,100-n=d+30:=⟨70-n,by omega⟩
  rw[Cn h hn,hd]
  rw[fJ ae (h.nd 0 44 rfl aA),fJ ae (h.nd 1 32 rfl aA),nQ D hD ae (h.dg 2 _ rfl) (h.dg 3 _ rfl) (fun _=>h.nd 4 45 rfl aA),
    fJ ae (h.nd 4 45 rfl aA),fJ ae (h.nd 5 x rfl ae),fJ ae (h.nd 6 y rfl ae),fJ ae (h.nd 7 z rfl ae),fJ ae (h.nd 8 45 rfl aA),
    nQ Y hY ae (h.dg 9 _ rfl) (h.dg 10 _ rfl) (fun _=>h.nd 11 32 rfl aA),
    fJ ae (h.nd 11 32 rfl aA),nQ a ha ae (h.dg 12 _ rfl) (h.dg 13 _ rfl) (fun _=>h.nd 14 58 rfl aA),
    fJ ae (h.nd 14 58 rfl aA),nQ i hi ae (h.dg 15 _ rfl) (h.dg 16 _ rfl) (fun _=>h.nd 17 58 rfl aA),
    fJ ae (h.nd 17 58 rfl aA),nQ e he ae (h.dg 18 _ rfl) (h.dg 19 _ rfl) (fun _=>h.nd 20 32 rfl aA),
    fJ ae (h.nd 20 32 rfl aA),fJ ae (h.nd 21 71 rfl aA),fJ ae (h.nd 22 77 rfl aA),fJ ae (h.nd 23 84 rfl aA),Ib ae]
  rfl
theorem adF {s:ByteArray} {n:Nat} {Y M D a i e:Int} (h:NR s n (tV Y M D a i e)) (hn:n<=9) (hY:0<=Y) (hD:0<=D) (ha:0<=a) (hi:0<=i) (he:0<=e) :
    numsOf s = [D%100,a%100,i%100,e%100,Y%10000]:=by
  obtain⟨x,y,z,hm,hx,hy,hz⟩:=jY M
  obtain⟨d,hd⟩:∃ d,100-n=d+30:=⟨70-n,by omega⟩
  by_cases h10:D<10
  · have T:tV Y M D a i e = [32,x,y,z,32,32,ny D,32,ny (a / 10),ny a,58,ny (i / 10),ny i,58,ny (e / 10),ny e,32,ny (Y / 1000),ny (Y / 100),ny (Y / 10),ny Y]:=by unfold tV;rw[hm,if_pos h10];rfl
    have hs:s.size=n+21:=by rw[h.1,T];rfl
    rw[T] at h
    rw[Cn h hn,hd]
    rw[fJ ae (h.nd 0 32 rfl aA),fJ ae (h.nd 1 x rfl ae),fJ ae (h.nd 2 y rfl ae),fJ ae (h.nd 3 z rfl ae),fJ ae (h.nd 4 32 rfl aA),fJ ae (h.nd 5 32 rfl aA),
      afm D ae (h.dg 6 _ rfl) (fun _=>h.nd 7 32 rfl aA),
      fJ ae (h.nd 7 32 rfl aA),nQ a ha ae (h.dg 8 _ rfl) (h.dg 9 _ rfl) (fun _=>h.nd 10 58 rfl aA),
      fJ ae (h.nd 10 58 rfl aA),nQ i hi ae (h.dg 11 _ rfl) (h.dg 12 _ rfl) (fun _=>h.nd 13 58 rfl aA),
      fJ ae (h.nd 13 58 rfl aA),nQ e he ae (h.dg 14 _ rfl) (h.dg 15 _ rfl) (fun _=>h.nd 16 32 rfl aA),
      fJ ae (h.nd 16 32 rfl aA),J3 Y hY ae (h.dg 17 _ rfl) (h.dg 18 _ rfl) (h.dg 19 _ rfl) (h.dg 20 _ rfl) (fun q=>absurd q ae),Ib ae]
    show [D%10,a%100,i%100,e%100,Y%10000]=_
    rw[show D%10=D%100 by omega]
  · have T:tV Y M D a i e = [32,x,y,z,32,ny (D / 10),ny D,32,ny (a / 10),ny a,58,ny (i / 10),ny i,58,ny (e / 10),ny e,32,ny (Y / 1000),ny (Y / 100),ny (Y / 10),ny Y]:=by unfold tV;rw[hm,if_neg h10];rfl
    have hs:s.size=n+21:=by rw[h.1,T];rfl
    rw[T] at h
    rw[Cn h hn,hd]
    rw[fJ ae (h.nd 0 32 rfl aA),fJ ae (h.nd 1 x rfl ae),fJ ae (h.nd 2 y rfl ae),fJ ae (h.nd 3 z rfl ae),fJ ae (h.nd 4 32 rfl aA),
      nQ D hD ae (h.dg 5 _ rfl) (h.dg 6 _ rfl) (fun _=>h.nd 7 32 rfl aA),
      fJ ae (h.nd 7 32 rfl aA),nQ a ha ae (h.dg 8 _ rfl) (h.dg 9 _ rfl) (fun _=>h.nd 10 58 rfl aA),
      fJ ae (h.nd 10 58 rfl aA),nQ i hi ae (h.dg 11 _ rfl) (h.dg 12 _ rfl) (fun _=>h.nd 13 58 rfl aA),
      fJ ae (h.nd 13 58 rfl aA),nQ e he ae (h.dg 14 _ rfl) (h.dg 15 _ rfl) (fun _=>h.nd 16 32 rfl aA),
      fJ ae (h.nd 16 32 rfl aA),J3 Y hY ae (h.dg 17 _ rfl) (h.dg 18 _ rfl) (h.dg 19 _ rfl) (h.dg 20 _ rfl) (fun q=>absurd q ae),Ib ae]
    rfl

theorem td {a:Int} (b:Int) (h:0<=a):Int.tdiv a b=a / b:=Int.tdiv_eq_ediv_of_nonneg h
theorem tm {a:Int} (b:Int) (h:0<=a):Int.tmod a b=a%b:=Int.tmod_eq_emod_of_nonneg h
theorem Ic (y:Int) (h:0<=y):nA.f y=some (decide (uk y)):=by
  unfold nA.f
  rw[tm _ h,tm _ h,tm _ h]
  by_cases a:y%4=0
  · rw[if_pos a]
    by_cases b:y%100=0
    · rw[if_pos b]
      congr 1
      by_cases c:y%400=0
      · rw[c,bK (show uk y from⟨a,Or.inr c⟩)];rfl
      · rw[bQ (show ¬ uk y from fun q=>q.2.elim (fun z=>z b) c),beq_eq_false_iff_ne.2 c]
    · rw[if_neg b,bK (show uk y from⟨a,Or.inl b⟩)]
  · rw[if_neg a,bQ (show ¬ uk y from fun q=>a q.1)]
theorem yN (y m:Int) (h:0<=y):jS.f y m=some (KT y m):=by
  unfold jS.f KT
  by_cases a:m=2
  · rw[if_pos a,if_pos a,Ic y h,ax]
    by_cases b:uk y
    · rw[bK b,if_pos rfl,if_pos b]
    · rw[bQ b,if_neg aA,if_neg b]
  · rw[if_neg a,if_neg a]
    by_cases b:m=4
    · rw[if_pos b,if_pos (Or.inl b)]
    · rw[if_neg b]
      by_cases c:m=6
      · rw[if_pos c,if_pos (Or.inr (Or.inl c))]
      · rw[if_neg c]
        by_cases d:m=9
        · rw[if_pos d,if_pos (Or.inr (Or.inr (Or.inl d)))]
        · rw[if_neg d]
          by_cases e:m=11
          · rw[if_pos e,if_pos (Or.inr (Or.inr (Or.inr e)))]
          · rw[if_neg e,if_neg ae]
theorem Co (y:Int) (h:0<=y):kM.f y=some (ylI y):=by
  unfold kM.f ylI
  rw[Ic y h,ax]
  by_cases b:uk y
  · rw[bK b,if_pos rfl,if_pos b]
  · rw[bQ b,if_neg aA,if_neg b]
theorem yO (y m:Int) (h:0<=y) (k:Nat) (hk:0<k):fq.f k y m=some (KT y m):=by
  obtain⟨k,rfl⟩:=dm k hk
  have j:∀ b:Bool,(m=2->b=decide (uk y))->(m≠2->b=false)->fq.j0 (k+1) m b=some (KT y m):=by
    intro b h1 h2
    simp only[fq.j0]
    unfold KT
    by_cases a:m=2
    · rw[h1 a,if_pos a,if_pos a]
      by_cases c:uk y
      · rw[bK c,if_pos rfl,if_pos c]
      · rw[bQ c,if_neg aA,if_neg c]
    · rw[h2 a,if_neg aA,if_neg a,if_neg a]
      by_cases b:m=4
      · rw[if_pos b,if_pos (Or.inl b)]
      · rw[if_neg b]
        by_cases c:m=6
        · rw[if_pos c,if_pos (Or.inr (Or.inl c))]
        · rw[if_neg c]
          by_cases d:m=9
          · rw[if_pos d,if_pos (Or.inr (Or.inr (Or.inl d)))]
          · rw[if_neg d]
            by_cases e:m=11
            · rw[if_pos e,if_pos (Or.inr (Or.inr (Or.inr e)))]
            · rw[if_neg e,if_neg ae]
  unfold fq.f
  rw[tm _ h,tm _ h,tm _ h]
  by_cases a:m=2
  · rw[if_pos a]
    by_cases c:y%4=0
    · rw[if_pos c]
      by_cases d:y%100=0
      · rw[if_pos d]
        refine j _ (fun _=>?_) (fun z=>absurd a z)
        by_cases e:y%400=0
        · rw[e,bK (show uk y from⟨c,Or.inr e⟩)];rfl
        · rw[bQ (show ¬ uk y from fun q=>q.2.elim (fun z=>z d) e),beq_eq_false_iff_ne.2 e]
      · rw[if_neg d]
        exact j _ (fun _=>(bK (show uk y from⟨c,Or.inl d⟩)).symm) (fun z=>absurd a z)
    · rw[if_neg c]
      refine j _ (fun _=>?_) (fun z=>absurd a z)
      rw[bQ (show ¬ uk y from fun q=>c q.1),beq_eq_false_iff_ne.2 ae]
  · rw[if_neg a]
    exact j false (fun z=>absurd z a) (fun _=>rfl)
theorem EZ (y:Int) (h0:1970<=y) (h1:y<=1000000):iR.f y=some (Be y):=by
  unfold iR.f Be
  have e1:wrap64 (y-1970)=y-1970:=aC ae ae
  have e2:wrap64 (y-1)=y-1:=aC ae ae
  rw[e1,e2,td _ (by omega:0<=y-1),td _ (by omega:0<=y-1),td _ (by omega:0<=y-1)]
  rw[aC (x:=365*(y-1970)) ae ae,aC (x:=(y-1) / 4) ae ae,aC (x:=(y-1) / 100) ae ae,aC (x:=(y-1) / 400) ae ae]
  rw[aC (x:=365*(y-1970)+(y-1) / 4) ae ae,aC (x:=365*(y-1970)+(y-1) / 4-(y-1) / 100) ae ae,aC (x:=365*(y-1970)+(y-1) / 4-(y-1) / 100+(y-1) / 400) ae ae,aC ae ae]
theorem uT (a l h:Int):bG.f a l h=some (decide (l<=a/\a<=h)):=xh a l h
theorem Mg (Y M D h m s:Int) (k:Nat) (hk:0<k):eX.f k Y M D h m s=some (DD Y M D h m s):=by
  unfold eX.f DD
  rw[uT,ax]
  by_cases a:1970<=Y/\Y<=9999
  case neg=>rw[bQ a,if_neg aA];rfl
  rw[bK a,if_pos rfl,uT,ax,Bool.true_and]
  by_cases b:1<=M/\M<=12
  case neg=>rw[bQ b,if_neg aA];rfl
  rw[bK b,if_pos rfl,yO Y M ae k hk,ax,uT,ax,Bool.true_and]
  by_cases c:1<=D/\D<=KT Y M
  case neg=>rw[bQ c,if_neg aA];rfl
  rw[bK c,if_pos rfl,uT,ax,Bool.true_and]
  by_cases d:0<=h/\h<=23
  case neg=>rw[bQ d,if_neg aA];rfl
  rw[bK d,if_pos rfl,uT,ax,Bool.true_and]
  by_cases e:0<=m/\m<=59
  case neg=>rw[bQ e,if_neg aA];rfl
  rw[bK e,if_pos rfl,uT,ax,Bool.true_and]
theorem Mh (Y M D h m s:Int):dW.f Y M D h m s=some (DD Y M D h m s):=by
  have bad:∀ p:Prop,[Decidable p]->(DD Y M D h m s=true->p)->¬ p->some false=some (DD Y M D h m s):=by
    intro p _ h1 h2
    cases hc:DD Y M D h m s with
    |false=>rfl
    |true=>exact absurd (h1 hc) h2
  unfold dW.f
  by_cases a1:Y>=1970
  case neg=>rw[if_neg a1];exact bad (Y>=1970) (fun q=>((mo ..).1 q).1.1) a1
  rw[if_pos a1]
  by_cases a2:Y<=9999
  case neg=>rw[if_neg a2];exact bad _ (fun q=>((mo ..).1 q).1.2) a2
  rw[if_pos a2]
  by_cases b1:M>=1
  case neg=>rw[if_neg b1];exact bad (M>=1) (fun q=>((mo ..).1 q).2.1.1) b1
  rw[if_pos b1]
  by_cases b2:M<=12
  case neg=>rw[if_neg b2];exact bad _ (fun q=>((mo ..).1 q).2.1.2) b2
  rw[if_pos b2]
  by_cases c1:D>=1
  case neg=>rw[if_neg c1];exact bad (D>=1) (fun q=>((mo ..).1 q).2.2.1.1) c1
  rw[if_pos c1,yN Y M ae,ax]
  by_cases c2:D<=KT Y M
  case neg=>rw[if_neg c2];exact bad _ (fun q=>((mo ..).1 q).2.2.1.2) c2
  rw[if_pos c2]
  by_cases d1:h>=0
  case neg=>rw[if_neg d1];exact bad (h>=0) (fun q=>((mo ..).1 q).2.2.2.1.1) d1
  rw[if_pos d1]
  by_cases d2:h<=23
  case neg=>rw[if_neg d2];exact bad _ (fun q=>((mo ..).1 q).2.2.2.1.2) d2
  rw[if_pos d2]
  by_cases e1:m>=0
  case neg=>rw[if_neg e1];exact bad (m>=0) (fun q=>((mo ..).1 q).2.2.2.2.1.1) e1
  rw[if_pos e1]
  by_cases e2:m<=59
  case neg=>rw[if_neg e2];exact bad _ (fun q=>((mo ..).1 q).2.2.2.2.1.2) e2
  rw[if_pos e2]
  by_cases f1:s>=0
  case neg=>rw[if_neg f1];exact bad (s>=0) (fun q=>((mo ..).1 q).2.2.2.2.2.1) f1
  rw[if_pos f1]
  unfold DD
  rw[bK (⟨a1,a2⟩:1970<=Y/\Y<=9999),bK (⟨b1,b2⟩:1<=M/\M<=12),bK (⟨c1,c2⟩:1<=D/\D<=KT Y M),bK (⟨d1,d2⟩:0<=h/\h<=23),bK (⟨e1,e2⟩:0<=m/\m<=59),Bool.true_and,Bool.true_and,Bool.true_and,Bool.true_and,Bool.true_and]
  exact congrArg some (decide_eq_decide.2 ⟨fun q=>⟨f1,q⟩,fun q=>q.2⟩)
theorem KU (y:Int) (h0:1970<=y) (h1:y<=10000):0<=Be y/\Be y<=2932897:=by
  unfold Be;omega
theorem FE (y:Int) (n:Nat) (h:n<=12):0<=Bf y n/\Bf y n<=366:=by
  have a:=Rp y n
  have b:=H8 y n 12 h
  rw[TS] at b
  have c:=VA y
  omega
def Fq (Y M D h m s:Int):Int×Bool:=if DD Y M D h m s=true then(QA Y M D h m s,true) else(0,false)
theorem Mi (Y M D h m s:Int) (hc:DD Y M D h m s=true):∀(d n k:Nat),n+d+1=M.toNat->d<k->∀ x:Int,x=Be Y+D-1+Bf Y n->
    gX.l0 (k+1) x ((n:Int)+1) Y M D h m s=some (QA Y M D h m s,true):=by
  have hf:=(mo ..).1 hc
  have hy:=KU Y hf.1.1 ae
  have hdm:=Ro Y M
  intro d
  induction d with
  |zero=>
    intro n k h1 h2 x hx
    have hmb:=FE Y n ae
    simp only[gX.l0]
    rw[if_neg ae]
    rw[aC (x:=86400*x) ae ae,aC (x:=3600*h) ae ae,aC (x:=60*m) ae ae,aC (x:=86400*x+3600*h) ae ae,aC (x:=86400*x+3600*h+60*m) ae ae,aC ae ae]
    unfold QA
    rw[show(M-1).toNat=n by omega]
    congr 2
    omega
  |succ d ih=>
    intro n k h1 h2 x hx
    obtain⟨k,rfl⟩:=dm k ae
    have hmb:=FE Y n ae
    have axU:=FE Y (n+1) ae
    have hs:Bf Y (n+1)=Bf Y n+KT Y ((n:Int)+1):=rfl
    rw[gX.l0,if_pos ae,yO Y _ ae (k+1) ae,ax,aC (x:=x+_) ae ae,aC ae ae]
    exact ih (n+1) k ae ae _ ae
theorem Ie (Y M D h m s:Int) (k:Nat) (hk:20<k):gX.f k Y M D h m s=some (Fq Y M D h m s):=by
  unfold gX.f Fq
  rw[Mg _ _ _ _ _ _ k ae,ax]
  cases hc:DD Y M D h m s with
  |false=>rfl
  |true=>
    have hf:=(mo ..).1 hc
    have hy:=KU Y hf.1.1 ae
    have hdm:=Ro Y M
    obtain⟨k,rfl⟩:=dm k ae
    rw[if_pos rfl,if_pos rfl,EZ Y ae ae,ax,aC (x:=Be Y+D) ae ae,aC ae ae]
    exact Mi Y M D h m s hc (M.toNat-1) 0 k ae ae _ (by show _=_+0;omega)
theorem Mj (Y M D h m s:Int) (hc:DD Y M D h m s=true):∀(d n k:Nat),n+d+1=M.toNat->d<k->∀ x:Int,x=Be Y+D-1+Bf Y n->
    dI.l1 (k+1) x ((n:Int)+1) Y M D h m s=some (QA Y M D h m s,true):=by
  have hf:=(mo ..).1 hc
  have hy:=KU Y hf.1.1 ae
  have hdm:=Ro Y M
  intro d
  induction d with
  |zero=>
    intro n k h1 h2 x hx
    have hmb:=FE Y n ae
    simp only[dI.l1]
    rw[if_neg ae]
    rw[aC (x:=x*24) ae ae,aC (x:=x*24+h) ae ae,aC (x:=(x*24+h)*60) ae ae,aC (x:=(x*24+h)*60+m) ae ae,aC (x:=((x*24+h)*60+m)*60) ae ae,aC ae ae]
    unfold QA
    rw[show(M-1).toNat=n by omega]
    congr 2
    omega
  |succ d ih=>
    intro n k h1 h2 x hx
    obtain⟨k,rfl⟩:=dm k ae
    have hmb:=FE Y n ae
    have axU:=FE Y (n+1) ae
    have hs:Bf Y (n+1)=Bf Y n+KT Y ((n:Int)+1):=rfl
    rw[dI.l1,if_pos ae,yN Y _ ae,ax,aC (x:=x+_) ae ae,aC ae ae]
    exact ih (n+1) k ae ae _ ae
theorem NT (Y M D h m s:Int) (hc:DD Y M D h m s=true):∀(d k:Nat) (y x:Int),1970<=y->y+d=Y->d+20<k->x=Be y+D-1->dI.l0 k x y Y M D h m s=some (QA Y M D h m s,true):=by
  have hf:=(mo ..).1 hc
  have hdm:=Ro Y M
  intro d
  induction d with
  |zero=>
    intro k y x h0 h1 h2 hx
    obtain⟨k,rfl⟩:∃ q,k=q+2:=⟨k-2,by omega⟩
    rw[dI.l0,if_neg ae]
    exact Mj Y M D h m s hc (M.toNat-1) 0 k ae ae _ (by show _=_+0;rw[show Y=y by omega];omega)
  |succ d ih=>
    intro k y x h0 h1 h2 hx
    obtain⟨k,rfl⟩:=dm k ae
    have hy:=KU y h0 ae
    have hs:=Cj y
    have hl:=VA y
    have hg:=anF y
    rw[dI.l0,if_pos ae,Co y ae,ax,aC (x:=x+_) ae ae,aC (x:=y+1) ae ae]
    exact ih k (y+1) _ ae ae ae ae
theorem Ak (Y M D h m s:Int) (k:Nat) (hk:9000<k):dI.f k Y M D h m s=some (Fq Y M D h m s):=by
  unfold dI.f Fq
  rw[Mh,ax]
  cases hc:DD Y M D h m s with
  |false=>rfl
  |true=>
    have hf:=(mo ..).1 hc
    have hdm:=Ro Y M
    have e:Be 1970=0:=by decide
    rw[if_pos rfl,if_pos rfl,aC (x:=D-1) ae ae]
    exact NT Y M D h m s hc (Y-1970).toNat k 1970 _ (Int.le_refl _) ae ae (by rw[e];omega)
theorem Mk (t:Int) (ht:yB t) (h i s:Int):∀(d n k:Nat),n+d=cN t->d<k->∀ x:Int,x=t / 86400-Be (cY t)-Bf (cY t) n->
    dn.l1 k x (cY t) ((n:Int)+1) 0 h i s=some (cY t,cM t,cD t,h,i,s,true):=by
  obtain⟨y1,y2,y3,y4⟩:=DW t ht
  obtain⟨m1,m2,m3⟩:=Ia t ht
  have hy:=KU (cY t) y3 ae
  have hys:=Cj (cY t)
  have hyl:=VA (cY t)
  intro d
  induction d with
  |zero=>
    intro n k h1 h2 x hx
    obtain⟨k,rfl⟩:=dm k ae
    obtain rfl:n=cN t:=by omega
    have hmb:=FE (cY t) (cN t) ae
    have hs:Bf (cY t) (cN t+1)=Bf (cY t) (cN t)+KT (cY t) ((cN t:Int)+1):=rfl
    rw[dn.l1,yN _ _ ae,ax,if_neg ae,aC ae ae]
    unfold cD cM
    rw[hx]
  |succ d ih=>
    intro n k h1 h2 x hx
    obtain⟨k,rfl⟩:=dm k ae
    have hmb:=FE (cY t) n ae
    have hs:Bf (cY t) (n+1)=Bf (cY t) n+KT (cY t) ((n:Int)+1):=rfl
    have hmono:=H8 (cY t) (n+1) (cN t) ae
    have hdg:=afg (cY t) ((n:Int)+1)
    rw[dn.l1,yN _ _ ae,ax,if_pos ae,ax,aC (x:=x-_) ae ae,aC ae ae]
    exact ih (n+1) k ae ae _ ae
theorem NU (t:Int) (ht:yB t) (h i s:Int):∀(d k:Nat) (y x:Int),1970<=y->y+d=cY t->d+20<k->x=t / 86400-Be y->dn.l0 k x y 1 0 h i s=some (cY t,cM t,cD t,h,i,s,true):=by
  obtain⟨y1,y2,y3,y4⟩:=DW t ht
  intro d
  induction d with
  |zero=>
    intro k y x h0 h1 h2 hx
    obtain⟨k,rfl⟩:=dm k ae
    obtain rfl:y=cY t:=by omega
    have hys:=Cj (cY t)
    obtain⟨m1,m2,m3⟩:=Ia t ht
    rw[dn.l0,Co _ ae,ax,if_neg ae]
    exact Mk t ht h i s (cN t) 0 k ae ae x (by show _=_-0;omega)
  |succ d ih=>
    intro k y x h0 h1 h2 hx
    obtain⟨k,rfl⟩:=dm k ae
    have hy:=KU y h0 ae
    have hs:=Cj y
    have hm:=H9 (y+1) (cY t) ae
    have hl:=VA y
    have hlg:=anF y
    unfold yB at ht
    rw[dn.l0,Co _ ae,ax,if_pos ae,ax,aC (x:=x-_) ae ae,aC (x:=y+1) ae ae]
    exact ih k (y+1) _ ae ae ae ae
instance (t:Int):Decidable (yB t):=by unfold yB;infer_instance
theorem xm (t:Int):zo t=true↔yB t:=by unfold zo yB;exact decide_eq_true_iff
theorem yh (t:Int) (ht:yB t) (k:Nat) (hk:9000<k):dn.f k t=some (cY t,cM t,cD t,cH t,cI t,cS t,true):=by
  obtain⟨y1,y2,y3,y4⟩:=DW t ht
  have ht':=ht
  unfold yB at ht'
  have e:Be 1970=0:=by decide
  unfold dn.f
  rw[vO,ax,if_pos ((xm t).2 ht),td _ ht'.1,td _ ht'.1,td _ ht'.1,aC (x:=t / 86400) ae ae,aC (x:=t / 3600) ae ae,aC (x:=t / 60) ae ae,tm _ (by omega:0<=t / 3600),tm _ (by omega:0<=t / 60),tm _ ht'.1]
  have h1:t / 3600%24=cH t:=by unfold cH;omega
  have h2:t / 60%60=cI t:=by unfold cI;omega
  rw[h1,h2,show t%60=cS t from rfl]
  exact NU t ht _ _ _ (cY t-1970).toNat k 1970 _ (Int.le_refl _) ae ae (by rw[e];omega)
theorem yj (t:Int) (ht:¬ yB t) (k:Nat):dn.f k t=some (0,0,0,0,0,0,false):=by
  unfold dn.f
  rw[vO,ax,if_neg (fun q=>ht ((xm t).1 q))]
theorem Ml (t:Int) (ht:yB t) (h i s:Int):∀(d n k:Nat),n+d=cN t->d<k->∀ x:Int,x=t / 86400-Be (cY t)-Bf (cY t) n->
    dL.l1 (k+1) x (cY t) ((n:Int)+1) 0 h i s=some (cY t,cM t,cD t,h,i,s):=by
  obtain⟨y1,y2,y3,y4⟩:=DW t ht
  obtain⟨m1,m2,m3⟩:=Ia t ht
  have hy:=KU (cY t) y3 ae
  have hys:=Cj (cY t)
  have hyl:=VA (cY t)
  intro d
  induction d with
  |zero=>
    intro n k h1 h2 x hx
    obtain rfl:n=cN t:=by omega
    have hmb:=FE (cY t) (cN t) ae
    have hs:Bf (cY t) (cN t+1)=Bf (cY t) (cN t)+KT (cY t) ((cN t:Int)+1):=rfl
    rw[dL.l1,yO _ _ ae k ae,ax,if_neg ae,aC ae ae]
    unfold cD cM
    rw[hx]
  |succ d ih=>
    intro n k h1 h2 x hx
    obtain⟨k,rfl⟩:=dm k ae
    have hmb:=FE (cY t) n ae
    have hs:Bf (cY t) (n+1)=Bf (cY t) n+KT (cY t) ((n:Int)+1):=rfl
    have hmono:=H8 (cY t) (n+1) (cN t) ae
    have hdg:=afg (cY t) ((n:Int)+1)
    rw[dL.l1,yO _ _ ae (k+1) ae,ax,if_pos ae,ax,aC (x:=x-_) ae ae,aC ae ae]
    exact ih (n+1) k ae ae _ ae
theorem NV (t:Int) (ht:yB t) (h i s:Int):∀(d k:Nat) (y:Int),1970<=y->y+d=cY t->d+20<k->dL.l0 k (t / 86400) y 1 0 h i s=some (cY t,cM t,cD t,h,i,s):=by
  obtain⟨y1,y2,y3,y4⟩:=DW t ht
  have ht':=ht
  unfold yB at ht'
  intro d
  induction d with
  |zero=>
    intro k y h0 h1 h2
    obtain⟨k,rfl⟩:∃ q,k=q+2:=⟨k-2,by omega⟩
    obtain rfl:y=cY t:=by omega
    have hy:=KU (cY t) y3 ae
    obtain⟨m1,m2,m3⟩:=Ia t ht
    rw[dL.l0,aC (x:=cY t+1) ae ae,EZ _ ae ae,ax,if_neg ae,EZ _ ae ae,ax,aC (x:=t / 86400-_) ae ae]
    exact Ml t ht h i s (cN t) 0 k ae ae _ (by show _=_-0;omega)
  |succ d ih=>
    intro k y h0 h1 h2
    obtain⟨k,rfl⟩:=dm k ae
    have hm:=H9 (y+1) (cY t) ae
    rw[dL.l0,aC (x:=y+1) ae ae,EZ _ ae ae,ax,if_pos ae]
    exact ih k (y+1) ae ae ae
theorem uK (t:Int) (ht:yB t) (k:Nat) (hk:9000<k):dL.f k t=some (cY t,cM t,cD t,cH t,cI t,cS t):=by
  obtain⟨y1,y2,y3,y4⟩:=DW t ht
  have ht':=ht
  unfold yB at ht'
  have hstart:1970+t / 86400 / 366<=cY t:=by
    by_cases q:1970+t / 86400 / 366<=cY t
    · exact q
    · exfalso
      have hm:=H9 (cY t+1) (1970+t / 86400 / 366) ae
      have hb:Be (1970+t / 86400 / 366)<=366*(t / 86400 / 366):=by unfold Be;omega
      omega
  unfold dL.f
  rw[td _ ht'.1,tm _ ht'.1,aC (x:=t / 86400) ae ae,td _ (by omega:0<=t / 86400),td _ (by omega:0<=t%86400),td _ (by omega:0<=t%86400),tm _ (by omega:0<=t%86400),aC (x:=t / 86400 / 366) ae ae,aC (x:=1970+_) ae ae,aC (x:=t%86400 / 3600) ae ae,aC (x:=t%86400 / 60) ae ae,tm _ (by omega:0<=t%86400 / 60)]
  have h2:t%86400 / 60%60=cI t:=by unfold cI;omega
  have h3:t%86400%60=cS t:=by unfold cS;omega
  rw[h2,h3,show t%86400 / 3600=cH t from rfl]
  exact NV t ht _ _ _ (cY t-(1970+t / 86400 / 366)).toNat k _ ae ae ae
def Bn (t:Int):Int:=(t / 86400+3)%7
theorem Gr (t:Int) (ht:yB t):ky.f t=some (Bn t):=by
  have ht':=ht
  unfold yB at ht'
  unfold ky.f Bn
  rw[vO,ax,if_pos ((xm t).2 ht),td _ ht'.1,aC (x:=t / 86400) ae ae,aC (x:=t / 86400+3) ae ae,tm _ ae]
theorem Gs (t:Int) (ht:yB t):kz.f t=some (Bn t):=by
  have ht':=ht
  unfold yB at ht'
  unfold kz.f Bn
  rw[tJ,ax,if_pos ((xm t).2 ht),td _ ht'.1,aC (x:=t / 86400) ae ae,aC (x:=t / 86400+3) ae ae,tm _ ae]

def mZ (l:List UInt8):ByteArray:=⟨l.toArray⟩
theorem jT (l:List UInt8):(mZ l).size=l.length:=by simp[mZ,ByteArray.size]
theorem sj (a b:List UInt8):mZ a++mZ b=mZ (a++b):=by
  apply ByteArray.ext
  simp[mZ]
theorem NW (n:Int) (h0:0<=n) (h1:n<10):jg n=mZ [ny n]:=by
  obtain⟨m,rfl⟩:=Int.eq_ofNat_of_zero_le h0
  unfold jg Lib.itoa
  rw[if_neg ae,Int.toNat_natCast,Lib.decDigits_one ae]
  unfold ny mZ
  rw[show((m:Int)%10).toNat=m by omega]
theorem ajY (n:Int):ny (n%10)=ny n:=by
  unfold ny
  rw[show n%10%10=n%10 by omega]
theorem FH : ∀(c:Nat) (n:Int) (out:List UInt8) (k:Nat),0<=n->n<=1000000000->out.length+c<=100->c<=10->c<k->
    dR.l0 k n (c:Int) (mZ out)=some (mZ (((List.range c).reverse.map fun j=>ny (n / 10 ^ j))++out)):=by
  intro c
  induction c with
  |zero=>
    intro n out k h0 h1 h2 h3 hk
    obtain⟨k,rfl⟩:=dm k ae
    rw[dR.l0,if_neg ae]
    rfl
  |succ c ih=>
    intro n out k h0 h1 h2 h3 hk
    obtain⟨k,rfl⟩:=dm k ae
    have hi:fT.f (n%10)=some (jg (n%10)):=if_pos ⟨by omega,by omega⟩
    have hz:=jT [ny (n%10)]
    have hz2:=jT out
    rw[dR.l0,if_pos ae,tm _ h0,hi,ax,NW (n%10) ae ae,if_pos (by rw[hz,hz2];have q:[ny (n%10)].length=1:=rfl;omega),td _ h0,aC (x:=n / 10) ae ae,aC ae ae,show((c+1:Nat):Int)-1=(c:Int) by omega,sj,ih (n / 10) _ k ae ae (by rw[List.length_append,List.length_singleton];omega) ae ae]
    congr 2
    rw[List.range_succ_eq_map,List.reverse_cons,List.map_append]
    simp only[List.map_reverse,List.map_map,List.map_cons,List.map_nil,List.append_assoc,List.cons_append,List.nil_append]
    have e1:ny (n / 10 ^ 0)=ny (n%10):=by rw[ajY];simp
    rw[e1]
    congr 1
    congr 1
    apply List.map_congr_left
    intro j _
    show ny (n / 10 / 10 ^ j)=ny (n / 10 ^ (j+1))
    rw[Int.pow_succ,Int.mul_comm,<- Int.ediv_ediv_of_nonneg aA]
theorem xn (n:Int) (h0:0<=n) (h1:n<=1000000000) (k:Nat) (hk:20<k):dR.f k n 2=some (mZ (kE n)):=by
  have:=FH 2 n [] k h0 h1 aA aA ae
  unfold dR.f
  refine this.trans ?_
  congr 2
  show [ny (n / 10 ^ 1),ny (n / 10 ^ 0)] ++ []=_
  unfold kE
  simp
theorem Rs (n:Int) (h0:0<=n) (h1:n<=1000000000) (k:Nat) (hk:20<k):dR.f k n 4=some (mZ (vR n)):=by
  have:=FH 4 n [] k h0 h1 aA aA ae
  unfold dR.f
  refine this.trans ?_
  congr 2
  show [ny (n / 10 ^ 3),ny (n / 10 ^ 2),ny (n / 10 ^ 1),ny (n / 10 ^ 0)] ++ []=_
  unfold vR
  simp
theorem Ig (u:Nat) (h:10<=u):Lib.decDigits u=Lib.decDigits (u / 10) ++ [ny (u:Int)]:=by
  have e:ny (u:Int)=UInt8.ofNat (48+u%10):=by unfold ny;rw[show((u:Int)%10).toNat=u%10 by omega]
  rw[e,Lib.decDigits,dif_neg ae]
theorem NY (u:Nat) (h:u<10):Lib.decDigits u = [ny (u:Int)]:=by
  rw[Lib.decDigits_one h]
  unfold ny
  rw[show((u:Int)%10).toNat=u by omega]
theorem VC (n:Int) (h0:0<=n):jg n=mZ (Lib.decDigits n.toNat):=by
  unfold jg Lib.itoa mZ
  rw[if_neg ae]
theorem NZ (s:af) (c:Int) (h:c<=s.size) (k:Nat):eY.l0 (k+1) c s=some s:=by
  rw[eY.l0,if_neg ae]
theorem xq (n:Int) (h0:0<=n) (h1:n<=99) (k:Nat) (hk:200<k):eY.f k n 2=some (mZ (kE n)):=by
  obtain⟨k,rfl⟩:∃ q,k=q+2:=⟨k-2,by omega⟩
  obtain⟨u,rfl⟩:=Int.eq_ofNat_of_zero_le h0
  unfold eY.f
  rw[nO _ h0 ae _ ae,ax,VC _ h0,Int.toNat_natCast]
  by_cases c:u<10
  · rw[NY u c,eY.l0,jT,if_pos (by simp),if_pos (by simp)]
    have e:(⟨#[48]⟩:af)++mZ [ny (u:Int)]=mZ (kE (u:Int)):=by
      show mZ [48]++mZ _=_
      rw[sj]
      unfold kE
      have:ny ((u:Int) / 10)=48:=by
        unfold ny
        rw[show((u:Int) / 10%10).toNat=0 by omega];rfl
      rw[this];rfl
    rw[e]
    exact NZ _ _ (by rw[jT];exact Int.le_refl _) _
  · rw[Ig u ae,NY (u / 10) ae]
    have e:[ny ((u / 10:Nat):Int)] ++ [ny (u:Int)]=kE (u:Int):=by
      unfold kE
      rw[show((u / 10:Nat):Int)=(u:Int) / 10 by omega];rfl
    rw[e]
    exact NZ _ _ (by rw[jT];exact Int.le_refl _) _
theorem Rt (n:Int) (h0:1000<=n) (h1:n<=9999) (k:Nat) (hk:200<k):eY.f k n 4=some (mZ (vR n)):=by
  obtain⟨k,rfl⟩:∃ q,k=q+2:=⟨k-2,by omega⟩
  obtain⟨u,rfl⟩:=Int.eq_ofNat_of_zero_le (by omega:0<=n)
  unfold eY.f
  rw[nO _ ae ae _ ae,ax,VC _ ae,Int.toNat_natCast,Ig u ae,Ig (u / 10) ae,Ig (u / 10 / 10) ae,NY (u / 10 / 10 / 10) ae]
  have e:[ny ((u / 10 / 10 / 10:Nat):Int)] ++ [ny ((u / 10 / 10:Nat):Int)] ++ [ny ((u / 10:Nat):Int)] ++ [ny (u:Int)]=vR (u:Int):=by
    unfold vR
    rw[show((u / 10:Nat):Int)=(u:Int) / 10 by omega,show((u / 10 / 10:Nat):Int)=(u:Int) / 100 by omega,show((u / 10 / 10 / 10:Nat):Int)=(u:Int) / 1000 by omega];rfl
  rw[e]
  exact NZ _ _ (by rw[jT];exact Int.le_refl _) _
theorem TW (w:Int) (h:0<=w/\w<=6):kN.f w=some (mZ (vQ w)):=by
  unfold kN.f vQ
  repeat' split
  all_goals rfl
theorem afn : ∀ n:Fin 12,iq.f ((n.val:Int)+1)=some (mZ (vF ((n.val:Int)+1))):=by decide +kernel
theorem Ih (m:Int) (h:1<=m/\m<=12):iq.f m=some (mZ (vF m)):=by
  obtain⟨n,hn⟩:=Int.eq_ofNat_of_zero_le (by omega:0<=m-1)
  have:=afn ⟨n,by omega⟩
  rw[show m=(n:Int)+1 by omega]
  exact this
def Cq : List ByteArray:=[(⟨#[74,97,110]⟩:af),(⟨#[70,101,98]⟩:af),(⟨#[77,97,114]⟩:af),(⟨#[65,112,114]⟩:af),(⟨#[77,97,121]⟩:af),(⟨#[74,117,110]⟩:af),(⟨#[74,117,108]⟩:af),(⟨#[65,117,103]⟩:af),(⟨#[83,101,112]⟩:af),(⟨#[79,99,116]⟩:af),(⟨#[78,111,118]⟩:af),(⟨#[68,101,99]⟩:af)]
def VD : List ByteArray:=[(⟨#[77,111,110,100,97,121]⟩:af),(⟨#[84,117,101,115,100,97,121]⟩:af),(⟨#[87,101,100,110,101,115,100,97,121]⟩:af),(⟨#[84,104,117,114,115,100,97,121]⟩:af),(⟨#[70,114,105,100,97,121]⟩:af),(⟨#[83,97,116,117,114,100,97,121]⟩:af),(⟨#[83,117,110,100,97,121]⟩:af)]
theorem E5 : mH.f=some Cq:=rfl
theorem TY : rT.f=some VD:=rfl
theorem MZ (n:Nat) (h:n<12):dh ByteArray.empty Cq (n:Int)=mZ (vF ((n:Int)+1)):=by
  have e:n=0∨n=1∨n=2∨n=3∨n=4∨n=5∨n=6∨n=7∨n=8∨n=9∨n=10∨n=11:=by omega
  rcases e with rfl|rfl|rfl|rfl|rfl|rfl|rfl|rfl|rfl|rfl|rfl|rfl <;> rfl
theorem TZ (w:Int) (h:0<=w/\w<=6):dh ByteArray.empty VD w=mZ (vQ w):=by
  have e:w=0∨w=1∨w=2∨w=3∨w=4∨w=5∨w=6:=by omega
  rcases e with rfl|rfl|rfl|rfl|rfl|rfl|rfl <;> rfl
theorem Ii (l:List UInt8) (n:Nat):(mZ l).extract 0 n=mZ (l.take n):=by
  apply ByteArray.ext
  simp[mZ]
theorem AU (a b c h i s:Int) (h1:0<=h/\h<=23) (h2:0<=i/\i<=59) (h3:0<=s/\s<=59) (k:Nat) (hk:200<k):jE.f k a b c h i s=some (mZ (sF h i s)):=by
  have e:(⟨#[58]⟩:af)=mZ [58]:=rfl
  unfold jE.f
  rw[xn h ae ae k ae,ax,if_pos (by rw[jT];simp[kE]),xn i ae ae k ae,ax,e]
  simp only[sj,jT]
  rw[if_pos (by simp[kE]),if_pos (by simp[kE]),xn s ae ae k ae,ax]
  simp only[sj,jT]
  rw[if_pos (by simp[kE])]
  rfl
theorem AV (a b c h i s:Int) (h1:0<=h/\h<=23) (h2:0<=i/\i<=59) (h3:0<=s/\s<=59) (k:Nat) (hk:200<k):iw.f k a b c h i s=some (mZ (sF h i s)):=by
  have e:(⟨#[58]⟩:af)=mZ [58]:=rfl
  unfold iw.f
  rw[xq h ae ae k ae,ax,if_pos (by rw[jT];simp[kE]),xq i ae ae k ae,ax,e]
  simp only[sj,jT]
  rw[if_pos (by simp[kE]),if_pos (by simp[kE]),xq s ae ae k ae,ax]
  simp only[sj,jT]
  rw[if_pos (by simp[kE])]
  rfl
theorem Bo (t:Int):0<=Bn t/\Bn t<=6:=by unfold Bn;omega
def zw (t:Int):ByteArray:=mZ ((vQ (Bn t)).take 3++zu (cY t) (cM t) (cD t) (cH t) (cI t) (cS t))
def uU (t:Int):ByteArray:=mZ (vQ (Bn t)++Bl (cY t) (cM t) (cD t) (cH t) (cI t) (cS t))
def zx (t:Int):ByteArray:=mZ ((vQ (Bn t)).take 3++tV (cY t) (cM t) (cD t) (cH t) (cI t) (cS t))
theorem VE (k:Int):∃ a b c,(vQ k).take 3 = [a,b,c]:=by
  generalize hl:vQ k=l
  unfold vQ at hl
  repeat' split at hl
  all_goals (subst hl;exact⟨_,_,_,rfl⟩)
theorem rM (t:Int) (h:yB t):(1970<=cY t/\cY t<=9999)/\(1<=cM t/\cM t<=12)/\(1<=cD t/\cD t<=31)/\(0<=cH t/\cH t<=23)/\(0<=cI t/\cI t<=59)/\(0<=cS t/\cS t<=59):=by
  have hc:=(mo ..).1 (asS t h)
  have:=Ro (cY t) (cM t)
  exact⟨hc.1,hc.2.1,⟨hc.2.2.1.1,by omega⟩,hc.2.2.2.1,hc.2.2.2.2.1,hc.2.2.2.2.2⟩

theorem ajZ : (⟨#[44,32]⟩:af)=mZ [44,32]:=rfl
theorem VF : (⟨#[32]⟩:af)=mZ [32]:=rfl
theorem asU : (⟨#[45]⟩:af)=mZ [45]:=rfl
theorem aj0 : (⟨#[32,71,77,84]⟩:af)=mZ Bj:=rfl
theorem T9 (t:Int) (h:yB t):wrap64 (cM t-1)=(cN t:Int)/\cN t<12/\(cN t:Int)+1=cM t:=by
  have hb:=(rM t h).2.1
  have:cM t=(cN t:Int)+1:=rfl
  refine⟨by rw[aC ae ae];omega,by omega,by omega⟩
theorem Ij (t:Int) (ht:yB t) (k:Nat) (hk:10000<k):gU.f k t=some (zw t):=by
  obtain⟨hY,hM,hD,hh,hi,hs⟩:=rM t ht
  obtain⟨a,b,c,h3⟩:=VE (Bn t)
  obtain⟨x,y,z,hm,_⟩:=jY (cM t)
  have hlen:=xM (Bn t)
  have h3':3<=((mZ (vQ (Bn t))).size:Int):=by rw[jT];omega
  unfold gU.f zw zu
  rw[yh t ht k ae,ax]
  dsimp only
  rw[if_pos rfl,Gr t ht,ax,TW _ (Bo t),ax,if_pos aA,if_pos h3',Ii,h3,ajZ,VF,aj0,xq (cD t) ae ae k ae,Ih _ hM,Rt (cY t) ae ae k ae,AV _ _ _ (cH t) (cI t) (cS t) hh hi hs k ae]
  simp only[ax,sj,jT]
  rw[hm]
  repeat rw[if_pos (by simp[kE,vR,sF,Bj])]
  simp only[List.append_assoc]
theorem Ua (t:Int) (ht:yB t) (k:Nat) (hk:10000<k):gV.f k t=some (zw t):=by
  obtain⟨hY,hM,hD,hh,hi,hs⟩:=rM t ht
  obtain⟨a,b,c,h3⟩:=VE (Bn t)
  obtain⟨x,y,z,hm,_⟩:=jY (cM t)
  obtain⟨p1,p2,p3⟩:=T9 t ht
  have hw:=Bo t
  have hlen:=xM (Bn t)
  have h3':3<=((mZ (vQ (Bn t))).size:Int):=by rw[jT];omega
  have l7:VD.length=7:=rfl
  have l12:Cq.length=12:=rfl
  unfold gV.f zw zu
  rw[tJ,ax,if_pos ((xm t).2 ht),uK t ht k ae,ax]
  dsimp only
  rw[TY,ax,Gs t ht,ax,if_pos hw.1,l7,if_pos ae,TZ _ hw,if_pos aA,if_pos h3',Ii,h3,ajZ,VF,aj0,xn (cD t) ae ae k ae,E5,Rs (cY t) ae ae k ae,AU _ _ _ (cH t) (cI t) (cS t) hh hi hs k ae,p1]
  simp only[ax,MZ _ p2,p3,sj,jT,l12]
  rw[hm]
  repeat rw[if_pos (by first|(simp[kE,vR,sF,Bj];done)|omega)]
  simp only[List.append_assoc]
theorem Ik (t:Int) (ht:yB t) (k:Nat) (hk:10000<k):eO.f k t=some (if cY t<=2069 then uU t else(⟨#[]⟩:af)):=by
  obtain⟨hY,hM,hD,hh,hi,hs⟩:=rM t ht
  obtain⟨x,y,z,hm,_⟩:=jY (cM t)
  have hlen:=xM (Bn t)
  obtain⟨k,rfl⟩:=dm k ae
  unfold eO.f
  rw[yh t ht (k+1) ae,ax]
  dsimp only
  rw[if_pos rfl]
  simp only[eO.j0]
  by_cases hc:cY t<=2069
  case neg=>rw[bK ae,if_pos rfl,if_neg hc]
  rw[bQ ae,if_neg aA,if_pos hc]
  unfold uU Bl
  have hy2:Int.tmod (cY t) 100=cY t%100:=tm _ ae
  have hd2:kE (cY t%100)=kE (cY t):=by
    unfold kE ny
    rw[show cY t%100 / 10%10=cY t / 10%10 by omega,show cY t%100%10=cY t%10 by omega]
  rw[Gr t ht,ax,TW _ (Bo t),ax,ajZ,VF,asU,aj0,xq (cD t) ae ae k ae,Ih _ hM,hy2,xq (cY t%100) ae ae k ae,hd2,AV _ _ _ (cH t) (cI t) (cS t) hh hi hs k ae]
  simp only[ax,sj,jT]
  rw[hm]
  repeat rw[if_pos (by simp[kE,vR,sF,Bj];omega)]
  simp only[List.append_assoc]
theorem Ub (t:Int) (ht:yB t) (k:Nat) (hk:10000<k):eP.f k t=some (if cY t<=2069 then uU t else(⟨#[]⟩:af)):=by
  obtain⟨hY,hM,hD,hh,hi,hs⟩:=rM t ht
  obtain⟨x,y,z,hm,_⟩:=jY (cM t)
  obtain⟨p1,p2,p3⟩:=T9 t ht
  have hw:=Bo t
  have hlen:=xM (Bn t)
  have l7:VD.length=7:=rfl
  have l12:Cq.length=12:=rfl
  obtain⟨k,rfl⟩:=dm k ae
  unfold eP.f
  rw[tJ,ax,if_pos ((xm t).2 ht),uK t ht (k+1) ae,ax]
  simp only[eP.j0]
  by_cases hc:cY t<=2069
  case neg=>rw[bK ae,if_pos rfl,if_neg hc]
  rw[bQ ae,if_neg aA,if_pos hc,uK t ht k ae,ax]
  dsimp only
  unfold uU Bl
  rw[TY,ax,Gs t ht,ax,if_pos hw.1,l7,if_pos ae,TZ _ hw,ajZ,VF,asU,aj0,xn (cD t) ae ae k ae,E5,xn (cY t) ae ae k ae,AU _ _ _ (cH t) (cI t) (cS t) hh hi hs k ae,p1]
  simp only[ax,MZ _ p2,p3,sj,jT,l12]
  rw[hm]
  repeat rw[if_pos (by first|omega|(simp[kE,vR,sF,Bj];omega))]
  simp only[List.append_assoc]
theorem Il (t:Int) (ht:yB t) (k:Nat) (hk:10000<k):dZ.f k t=some (zx t):=by
  obtain⟨hY,hM,hD,hh,hi,hs⟩:=rM t ht
  obtain⟨a,b,c,h3⟩:=VE (Bn t)
  obtain⟨x,y,z,hm,_⟩:=jY (cM t)
  have hlen:=xM (Bn t)
  have h3':3<=((mZ (vQ (Bn t))).size:Int):=by rw[jT];omega
  obtain⟨k,rfl⟩:=dm k ae
  have j:∀ dd:List UInt8,dd.length=2->dZ.j0 (k+1) t (mZ dd) (cY t) (cM t) (cD t) (cH t) (cI t) (cS t)=some (mZ ([a,b,c]++([32]++vF (cM t) ++ [32]++dd ++ [32]++sF (cH t) (cI t) (cS t) ++ [32]++vR (cY t)))):=by
    intro dd hdd
    simp only[dZ.j0]
    rw[Gr t ht,ax,TW _ (Bo t),ax,if_pos aA,if_pos h3',Ii,h3,VF,Ih _ hM,Rt (cY t) ae ae k ae,AV _ _ _ (cH t) (cI t) (cS t) hh hi hs k ae]
    simp only[ax,sj,jT]
    rw[hm]
    repeat rw[if_pos (by simp[kE,vR,sF,Bj,hdd])]
    simp only[List.append_assoc]
  unfold dZ.f zx tV
  rw[yh t ht (k+1) ae,ax]
  dsimp only
  rw[if_pos rfl,xq (cD t) ae ae (k+1) ae,ax,h3]
  by_cases q:cD t<10
  · have hx:bI.f (k+1) (cD t)=some (mZ [ny (cD t)]):=by rw[nO _ ae ae _ ae,NW _ ae ae]
    rw[if_pos q,if_pos q,hx,ax,if_pos (by rw[jT];simp),VF,sj]
    exact j [32,ny (cD t)] rfl
  · rw[if_neg q,if_neg q]
    exact j (kE (cD t)) rfl
theorem Uc (t:Int) (ht:yB t) (k:Nat) (hk:10000<k):ed.f k t=some (zx t):=by
  obtain⟨hY,hM,hD,hh,hi,hs⟩:=rM t ht
  obtain⟨a,b,c,h3⟩:=VE (Bn t)
  obtain⟨x,y,z,hm,_⟩:=jY (cM t)
  obtain⟨p1,p2,p3⟩:=T9 t ht
  have hw:=Bo t
  have hlen:=xM (Bn t)
  have h3':3<=((mZ (vQ (Bn t))).size:Int):=by rw[jT];omega
  have l7:VD.length=7:=rfl
  have l12:Cq.length=12:=rfl
  obtain⟨k,rfl⟩:=dm k ae
  have j:∀ dd:List UInt8,dd.length=2->ed.j0 (k+1) t (mZ dd) (cY t) (cM t) (cD t) (cH t) (cI t) (cS t)=some (mZ ([a,b,c]++([32]++vF (cM t) ++ [32]++dd ++ [32]++sF (cH t) (cI t) (cS t) ++ [32]++vR (cY t)))):=by
    intro dd hdd
    simp only[ed.j0]
    rw[TY,ax,Gs t ht,ax,if_pos hw.1,l7,if_pos ae,TZ _ hw,if_pos aA,if_pos h3',Ii,h3,VF,E5,Rs (cY t) ae ae k ae,AU _ _ _ (cH t) (cI t) (cS t) hh hi hs k ae,p1]
    simp only[ax,MZ _ p2,p3,sj,jT,l12]
    rw[hm]
    repeat rw[if_pos (by first|(simp[kE,vR,sF,Bj,hdd];done)|omega)]
    simp only[List.append_assoc]
  unfold ed.f zx tV
  rw[tJ,ax,if_pos ((xm t).2 ht),uK t ht (k+1) ae,ax]
  dsimp only
  rw[xn (cD t) ae ae (k+1) ae,ax,h3]
  by_cases q:cD t<10
  · have hx:(mZ (kE (cD t))).extract 1 (mZ (kE (cD t))).size=mZ [ny (cD t)]:=by
      apply ByteArray.ext
      simp[mZ,kE,ByteArray.size]
    rw[if_pos q,if_pos q,if_pos (by rw[jT];simp[kE]),hx,if_pos (by rw[jT];simp),VF,sj]
    exact j [32,ny (cD t)] rfl
  · rw[if_neg q,if_neg q]
    exact j (kE (cD t)) rfl
theorem Ud (t:Int) (ht:¬ yB t) (k:Nat):gU.f k t=some (⟨#[]⟩:af):=by
  unfold gU.f
  rw[yj t ht k,ax]
  rfl
theorem Ue (t:Int) (ht:¬ yB t) (k:Nat):dZ.f k t=some (⟨#[]⟩:af):=by
  unfold dZ.f
  rw[yj t ht k,ax]
  rfl
theorem Uf (t:Int) (ht:¬ yB t) (k:Nat) (hk:0<k):eO.f k t=some (⟨#[]⟩:af):=by
  obtain⟨k,rfl⟩:=dm k hk
  unfold eO.f
  rw[yj t ht (k+1),ax]
  simp only[eO.j0]
  rfl

def QB (u:af) (l:List UInt8):Bool:=Lib.contains u.data.toList l
theorem Im (u:af) (p:Nat) (a:UInt8):u.data.toList[p]? = some a↔p<u.size/\bt u (p:Int)=(a.toNat:Int):=by
  constructor
  · intro h
    obtain⟨h1,h2⟩:=List.getElem?_eq_some_iff.1 h
    have h3:p<u.size:=by rw[<- jd];exact h1
    refine⟨h3,?_⟩
    unfold bt
    rw[dif_pos (show((p:Int)).toNat<u.size by simpa using h3),<- h2]
    rfl
  · intro⟨h1,h2⟩
    have h3:p<u.data.toList.length:=by rw[jd];exact h1
    rw[List.getElem?_eq_getElem h3]
    unfold bt at h2
    rw[dif_pos (show((p:Int)).toNat<u.size by simpa using h1)] at h2
    have h4:(u.data.toList[p]).toNat=a.toNat:=by
      have:((u.data.toList[p]).toNat:Int)=(a.toNat:Int):=h2
      omega
    rw[UInt8.toNat_inj.1 h4]
theorem asV (s:List UInt8) (a b c:UInt8) (p:Nat):Lib.occAt s [a,b,c] p=true↔s[p]? = some a/\s[p+1]? = some b/\s[p+2]? = some c:=by
  unfold Lib.occAt
  have e0:s[p]? = (s.drop p)[0]?:=by rw[List.getElem?_drop];rfl
  have e1:s[p+1]? = (s.drop p)[1]?:=by rw[List.getElem?_drop]
  have e2:s[p+2]? = (s.drop p)[2]?:=by rw[List.getElem?_drop]
  rw[e0,e1,e2]
  generalize s.drop p=l
  match l with
  |[]=>simp
  |[x]=>simp
  |[x,y]=>simp
  |x::y::z::r=>
    have e:[a,b,c].isPrefixOf (x::y::z::r)=(a==x&&(b==y&&(c==z&&true))):=by
      simp only[List.isPrefixOf]
    have f0:(x::y::z::r)[0]? = some x:=rfl
    have f1:(x::y::z::r)[1]? = some y:=rfl
    have f2:(x::y::z::r)[2]? = some z:=rfl
    rw[e,f0,f1,f2]
    simp only[Bool.and_eq_true,beq_iff_eq,Option.some.injEq,and_true]
    constructor
    · rintro⟨rfl,rfl,rfl⟩;exact⟨rfl,rfl,rfl⟩
    · rintro⟨rfl,rfl,rfl⟩;exact⟨rfl,rfl,rfl⟩
theorem VG (u:af) (a b c:UInt8):QB u [a,b,c]=true↔∃ p:Nat,p+2<u.size/\bt u (p:Int)=(a.toNat:Int)/\bt u ((p+1:Nat):Int)=(b.toNat:Int)/\bt u ((p+2:Nat):Int)=(c.toNat:Int):=by
  unfold QB Lib.contains
  rw[decide_eq_true_iff]
  constructor
  · intro h
    rcases Lib.index_spec u.data.toList [a,b,c] with⟨h1,_⟩|⟨i,h1,h2,h3,_⟩
    · omega
    · rw[asV] at h3
      obtain⟨x,y,z⟩:=h3
      rw[Im] at x y z
      exact⟨i,z.1,x.2,y.2,z.2⟩
  · intro⟨p,h,x,y,z⟩
    rcases Lib.index_spec u.data.toList [a,b,c] with⟨h1,h2⟩|⟨i,h1,_⟩
    · have:=h2 p (by rw[jd];omega)
      rw[(asV _ _ _ _ _).2 ⟨(Im _ _ _).2 ⟨by omega,x⟩,(Im _ _ _).2 ⟨by omega,y⟩,(Im _ _ _).2 ⟨h,z⟩⟩] at this
      simp at this
    · omega
def monE (u:af):Nat->Int->Int
  |0,_=>0
  |d+1,m=>if QB u (vF m)=true then m else monE u d (m+1)
theorem afo (u:af) (M:Int) (hM:QB u (vF M)=true):∀(d:Nat) (m:Int),m<=M->M<m+d->(∀ x,m<=x->x<M->QB u (vF x)=false)->monE u d m=M:=by
  intro d
  induction d with
  |zero=>intro m h1 h2 _;omega
  |succ d ih=>
    intro m h1 h2 h3
    unfold monE
    by_cases e:m=M
    · rw[e,if_pos hM]
    · rw[h3 m (Int.le_refl _) ae,if_neg aA]
      exact ih (m+1) ae ae (fun x a b=>h3 x ae b)
def Al (u:af):Int:=monE u 12 1
theorem N7 {u:ByteArray} (A B:List UInt8) (M:Int) (hM:1<=M/\M<=12) (h:NR u 0 (A++vF M++B)) (hA:∀ b∈A,b.toNat<97) (hB:∀ b∈B,b.toNat<97):Al u=M:=by
  obtain⟨x,y,z,hm,hx,hy,hz⟩:=jY M
  have hs:=h.1
  rw[hm] at h hs
  have gx:=h.get A.length x (by rw[List.append_assoc,List.getElem?_append_right (Nat.le_refl _),Nat.sub_self];rfl)
  have gy:=h.get (A.length+1) y (by rw[List.append_assoc,List.getElem?_append_right ae,Nat.add_sub_cancel_left];rfl)
  have gz:=h.get (A.length+2) z (by rw[List.append_assoc,List.getElem?_append_right ae,Nat.add_sub_cancel_left];rfl)
  rw[Nat.zero_add] at gx gy gz
  simp only[List.length_append,List.length_cons,List.length_nil] at hs
  have low:∀ j:Nat,j<u.size->97<=bt u (j:Int)->j=A.length+1∨j=A.length+2:=by
    intro j hj hb
    by_cases h1:j<A.length
    · have g:=h.get j A[j] (by rw[List.append_assoc,List.getElem?_append_left h1,List.getElem?_eq_getElem h1])
      rw[Nat.zero_add] at g
      have:=hA A[j] (List.getElem_mem h1)
      omega
    · by_cases h2:j<A.length+3
      · by_cases h3:j=A.length
        · subst h3;omega
        · omega
      · have hl:j-(A.length+3)<B.length:=by omega
        have g:=h.get j B[j-(A.length+3)] (by
          have e3:(A ++ [x,y,z]).length=A.length+3:=by simp
          rw[List.getElem?_append_right ae,e3,List.getElem?_eq_getElem hl])
        rw[Nat.zero_add] at g
        have:=hB B[j-(A.length+3)] (List.getElem_mem hl)
        omega
  have hit:QB u (vF M)=true:=by
    rw[hm,VG]
    exact⟨A.length,by omega,gx,gy,gz⟩
  refine afo u M hit 12 1 ae ae fun m h1 h2=>?_
  cases hq:QB u (vF m) with
  |false=>rfl
  |true=>
    exfalso
    obtain⟨a,b,c,hn,ha,hb,hc⟩:=jY m
    rw[hn,VG] at hq
    obtain⟨p,q1,q2,q3,q4⟩:=hq
    have r1:=low (p+1) ae ae
    have r2:=low (p+2) q1 ae
    obtain rfl:p=A.length:=by omega
    have e1:a=x:=UInt8.toNat_inj.1 ae
    have e2:b=y:=UInt8.toNat_inj.1 ae
    have e3:c=z:=UInt8.toNat_inj.1 ae
    have:m=M:=VB m M ae hM (by rw[hn,hm,e1,e2,e3])
    omega
theorem NR.tail {s:ByteArray} {n:Nat} {T:List UInt8} (h:NR s n T):NR (s.extract n s.size) 0 T:=by
  have h1:=h.1
  refine⟨by rw[size_extract];omega,fun j hj=>absurd hj ae,fun j b e=>?_⟩
  have hj:j<T.length:=(List.getElem?_eq_some_iff.1 e).1
  rw[Nat.zero_add,mq _ _ _ _ ae ae ae,show((n:Int)+(j:Int))=((n+j:Nat):Int) by omega]
  exact h.2.2 j b e
theorem zy (n:Int):∀ b∈kE n,b.toNat<97:=by
  intro b hb
  unfold kE at hb
  simp only[List.mem_cons,List.not_mem_nil,or_false] at hb
  rcases hb with rfl|rfl <;> (have:=vP (n / 10);have:=vP n;omega)
theorem VH (n:Int):∀ b∈vR n,b.toNat<97:=by
  intro b hb
  unfold vR at hb
  simp only[List.mem_cons,List.not_mem_nil,or_false] at hb
  rcases hb with rfl|rfl|rfl|rfl <;> (have:=vP (n / 10);have:=vP n;have:=vP (n / 100);have:=vP (n / 1000);omega)
theorem ng {A B:List UInt8} (hA:∀ b∈A,b.toNat<97) (hB:∀ b∈B,b.toNat<97):∀ b∈A++B,b.toNat<97:=by
  intro b hb
  rcases List.mem_append.1 hb with h|h
  · exact hA b h
  · exact hB b h
theorem Ug (h i s:Int):∀ b∈sF h i s,b.toNat<97:=ng (ng (ng (ng (zy _) aA) (zy _)) aA) (zy _)
theorem Zo {s:ByteArray} {n:Nat} {Y M D a i e:Int} (h:NR s n (zu Y M D a i e)) (hM:1<=M/\M<=12):Al (s.extract n s.size)=M:=
  N7 ([44,32]++kE D ++ [32]) ([32]++vR Y ++ [32]++sF a i e++Bj) M hM (by have:=h.tail;unfold zu at this;simpa only[List.append_assoc] using this)
    (ng (ng aA (zy _)) aA) (ng (ng (ng (ng aA (VH _)) aA) (Ug _ _ _)) aA)
theorem Zp {s:ByteArray} {n:Nat} {Y M D a i e:Int} (h:NR s n (Bl Y M D a i e)) (hM:1<=M/\M<=12):Al (s.extract n s.size)=M:=
  N7 ([44,32]++kE D ++ [45]) ([45]++kE Y ++ [32]++sF a i e++Bj) M hM (by have:=h.tail;unfold Bl at this;simpa only[List.append_assoc] using this)
    (ng (ng aA (zy _)) aA) (ng (ng (ng (ng aA (zy _)) aA) (Ug _ _ _)) aA)
theorem Zq {s:ByteArray} {n:Nat} {Y M D a i e:Int} (h:NR s n (tV Y M D a i e)) (hM:1<=M/\M<=12):Al (s.extract n s.size)=M:=
  N7 [32] ([32]++(if D<10 then [32,ny D] else kE D) ++ [32]++sF a i e ++ [32]++vR Y) M hM (by have:=h.tail;unfold tV at this;simpa only[List.append_assoc] using this)
    aA (ng (ng (ng (ng (ng aA (by
      split
      · intro b hb
        simp only[List.mem_cons,List.not_mem_nil,or_false] at hb
        rcases hb with rfl|rfl
        · decide
        · have:=vP D;omega
      · exact zy _)) aA) (Ug _ _ _)) aA) (VH _))
def noB (s:af) (c:Int) (n:Nat):Prop:=∀ m:Nat,m<n->bt s (m:Int)≠c
theorem abl {s:ByteArray} {n:Nat} {T:List UInt8} (h:NR s n T) (c:UInt8) (hc:c.toNat<65) (hT:c∉T):noB s (c.toNat:Int) s.size:=by
  intro m hm
  by_cases q:m<n
  · have:=h.2.1 m q;omega
  · have hl:m-n<T.length:=by have:=h.1;omega
    have g:=h.get (m-n) T[m-n] (List.getElem?_eq_getElem hl)
    rw[show n+(m-n)=m by omega] at g
    rw[g]
    intro e
    exact hT ((UInt8.toNat_inj.1 (show T[m-n].toNat=c.toNat by omega))▸List.getElem_mem hl)
theorem abm {s:ByteArray} {n:Nat} {T:List UInt8} (h:NR s n T) (c:Int) (hc:c<65):noB s c n:=by
  intro m hm
  have:=h.2.1 m hm;omega
theorem kX {c:UInt8} {A B:List UInt8} (h1:c∉A) (h2:c∉B):c∉A++B:=fun h=>(List.mem_append.1 h).elim h1 h2
theorem DX (n:Int) (c:UInt8) (hc:c.toNat<48):c∉kE n:=by
  intro hb
  unfold kE at hb
  simp only[List.mem_cons,List.not_mem_nil,or_false] at hb
  have:=vP (n / 10);have:=vP n
  rcases hb with rfl|rfl <;> omega
theorem VI (n:Int) (c:UInt8) (hc:c.toNat<48):c∉vR n:=by
  intro hb
  unfold vR at hb
  simp only[List.mem_cons,List.not_mem_nil,or_false] at hb
  have:=vP (n / 10);have:=vP n;have:=vP (n / 100);have:=vP (n / 1000)
  rcases hb with rfl|rfl|rfl|rfl <;> omega
theorem abn (n:Int) (c:UInt8) (hc:c.toNat<48):c∉vF n:=by
  obtain⟨x,y,z,hm,hx,hy,hz⟩:=jY n
  rw[hm]
  intro hb
  simp only[List.mem_cons,List.not_mem_nil,or_false] at hb
  rcases hb with rfl|rfl|rfl <;> omega
theorem abo (h i s:Int) (c:UInt8) (hc:c.toNat<48):c∉sF h i s:=
  have k:c∉([58]:aQ):=by intro hb;simp only[List.mem_cons,List.not_mem_nil,or_false] at hb;subst hb;exact absurd hc aA
  kX (kX (kX (kX (DX _ _ hc) k) (DX _ _ hc)) k) (DX _ _ hc)
theorem adG (Y M D h i s:Int):(45:UInt8)∉zu Y M D h i s:=
  kX (kX (kX (kX (kX (kX (kX (kX aA (DX _ _ aA)) aA) (abn _ _ aA)) aA) (VI _ _ aA)) aA) (abo _ _ _ _ aA)) aA
theorem adH (Y M D h i s:Int):(44:UInt8)∉tV Y M D h i s:=
  kX (kX (kX (kX (kX (kX (kX aA (abn _ _ aA)) aA) (by
    split
    · intro hb
      simp only[List.mem_cons,List.not_mem_nil,or_false] at hb
      rcases hb with hb|hb
      · exact absurd hb aA
      · have:=vP D;rw[<- hb] at this;exact absurd this aA
    · exact DX _ _ aA)) aA) (abo _ _ _ _ aA)) aA) (VI _ _ aA)

theorem Uh (c:Int):eH.f c=some (decide (yg c)):=by
  unfold eH.f
  by_cases h:c>=48
  · rw[if_pos h]
    by_cases q:c<=57
    · rw[bK q,bK (show yg c from⟨h,q⟩)]
    · rw[bQ q,bQ (show ¬ yg c from fun z=>q z.2)]
  · rw[if_neg h,bQ (show ¬ yg c from fun z=>h z.1)]
theorem axV (a:Nat) (h:a<=9):(10:Int) ^ a<=1000000000:=by
  have:∀ b:Fin 10,(10:Int) ^ b.val<=1000000000:=by decide +kernel
  exact this ⟨a,by omega⟩
theorem afp (s:af) (hs:s.size<=100) (out:List Int) (ho:out.length<1000) (i:Nat) (R:Option (List Int)) (K:Nat) :
    ∀(d x k:Nat) (n:Int),i<=x->x<=i+9->x+d=i+10->x<=s.size->0<=n->n<10 ^ (x-i)->K+d<k->
      (∀ k',K<=k'->(if(tX s i d x n).1>i then bg.l0 k' s (out ++ [(tX s i d x n).2]) ((tX s i d x n).1:Int) else bg.l0 k' s out ((i+1:Nat):Int))=R)->
      bg.l1 k s out (i:Int) (x:Int) n=R:=by
  intro d
  induction d with
  |zero=>intro x k n h1 h2 h3;omega
  |succ d ih=>
    intro x k n h1 h2 h3 h4 h5 h6 hk hR
    obtain⟨k,rfl⟩:=dm k ae
    have hp:=axV (x-i) ae
    simp only[bg.l1]
    by_cases hc:x<s.size/\yg (bt s (x:Int))/\x<i+9
    · simp only[tX,if_pos hc] at hR
      have hd:=hc.2.1
      unfold yg at hd
      rw[if_pos ae,if_pos ae,Uh,ax,bK hc.2.1,if_pos rfl,aC (x:=(x:Int)-i) ae ae,if_pos ae,
        aC (x:=10*n) ae ae,show(bt s (x:Int)-48)%256=bt s (x:Int)-48 by omega,aC (x:=10*n+_) ae ae,iX x ae]
      refine ih (x+1) k _ ae ae ae ae ae ?_ ae hR
      rw[show x+1-i=(x-i)+1 by omega,Int.pow_succ]
      omega
    · simp only[tX,if_neg hc] at hR
      have hE:(if(x:Int)>i then(if out.length<17592186044416 then bg.l0 k s (out ++ [n]) (wrap64 ((wrap64 ((x:Int)-1))+1)) else none) else bg.l0 k s out (wrap64 ((i:Int)+1)))=R:=by
        have q:=hR k ae
        by_cases a:x>i
        · rw[if_pos a] at q
          rw[if_pos ae,if_pos ae,aC (x:=(x:Int)-1) ae ae,show(x:Int)-1+1=x by omega,aC (x:=(x:Int)) ae ae]
          exact q
        · rw[if_neg a] at q
          rw[if_neg ae,iX i ae]
          exact q
      by_cases a:x<s.size
      · rw[if_pos ae,if_pos ae,Uh,ax]
        by_cases b:yg (bt s (x:Int))
        · rw[bK b,if_pos rfl,aC (x:=(x:Int)-i) ae ae,if_neg (fun q=>hc ⟨a,b,by omega⟩)]
          exact hE
        · rw[bQ b,if_neg aA]
          exact hE
      · rw[if_neg ae]
        exact hE
theorem adI (s:af) (hs:s.size<=100):∀(d i k:Nat) (out:List Int),out.length+d<=200->i<=s.size->s.size<=i+d->20*d+1<k->bg.l0 k s out (i:Int)=some (vS s d i out):=by
  intro d
  induction d with
  |zero=>
    intro i k out h1 h2 h3 hk
    obtain⟨k,rfl⟩:=dm k ae
    simp only[bg.l0]
    rw[if_neg ae]
    rfl
  |succ d ih=>
    intro i k out h1 h2 h3 hk
    obtain⟨k,rfl⟩:=dm k ae
    simp only[bg.l0]
    by_cases a:i<s.size
    · rw[if_pos ae]
      have e:vS s (d+1) i out=if(tX s i 10 i 0).1>i then vS s d (tX s i 10 i 0).1 (out ++ [(tX s i 10 i 0).2]) else vS s d (i+1) out:=by
        simp only[vS];rw[if_pos a]
      rw[e]
      have hr:=TV s i 10 i 0 (Nat.le_refl _) ae (by rw[Nat.sub_self];decide) ae h2
      refine afp s hs out ae i _ (20*d+2) 10 i k 0 (Nat.le_refl _) ae ae h2 ae (by rw[Nat.sub_self];decide) ae ?_
      intro k' hk'
      by_cases b:(tX s i 10 i 0).1>i
      · rw[if_pos b,if_pos b]
        exact ih _ k' _ (by rw[List.length_append];simp only[List.length_cons,List.length_nil];omega) hr.2.1 ae ae
      · rw[if_neg b,if_neg b]
        exact ih (i+1) k' out ae ae ae ae
    · rw[if_neg ae]
      simp only[vS]
      rw[if_neg a]
theorem Ru (s:af) (hs:s.size<=40) (k:Nat) (hk:3000<k):bg.f k s=some (numsOf s):=
  adI s ae 100 0 k [] (by simp) ae ae ae
theorem Ui (u:af) (hu:u.size<=1048576) (m:Int):strings_Contains.f u (mZ (vF m))=some (QB u (vF m)):=by
  obtain⟨a,b,c,hm,_⟩:=jY m
  rw[hm]
  have e:stringslite_Index.f u (mZ [a,b,c])=if u.size<4294967281 then some (Lib.index u.data.toList [a,b,c]) else none:=rfl
  unfold strings_Contains.f strings_Index.f
  rw[e,if_pos ae]
  rfl
theorem Zr (u:af) (hu:u.size<=1048576):∀(d n k:Nat),n+d=12->d<k->iy.l0 k u Cq 12 (n:Int)=some (monE u d ((n:Int)+1)):=by
  intro d
  induction d with
  |zero=>
    intro n k h hk
    obtain⟨k,rfl⟩:=dm k ae
    simp only[iy.l0]
    rw[if_neg ae]
    rfl
  |succ d ih=>
    intro n k h hk
    obtain⟨k,rfl⟩:=dm k ae
    simp only[iy.l0]
    have hl:(Cq.length:Int)=12:=rfl
    rw[if_pos ae,if_pos ae,if_pos ae,MZ n ae,Ui u hu,ax,iX n ae]
    have e:monE u (d+1) ((n:Int)+1)=if QB u (vF ((n:Int)+1))=true then(n:Int)+1 else monE u d ((n:Int)+1+1):=rfl
    rw[e]
    by_cases a:QB u (vF ((n:Int)+1))=true
    · rw[if_pos a,if_pos a];congr 1
    · rw[if_neg a,if_neg a,ih (n+1) k ae ae];congr 1
theorem N8 (u:af) (hu:u.size<=1048576) (k:Nat) (hk:20<k):iy.f k u=some (Al u):=by
  unfold iy.f
  rw[E5,ax]
  exact Zr u hu 12 0 k rfl ae
theorem Io (s:af) (c:Int) (u:UInt8) (h:c.toNat.toUInt8=u):strings_IndexByte.f s c=some (if bV s (u.toNat:Int)<s.size then(bV s (u.toNat:Int):Int) else -1):=by
  have e:strings_IndexByte.f s c=some (Lib.indexByte s.data.toList c.toNat.toUInt8):=rfl
  rw[e,h,Gt]

def Hit (t:Int) (s:af):Prop:=yB t/\(s=zw t∨s=zx t∨(cY t<=2069/\s=uU t))
theorem adJ {Y M D h m e:Int} (q:(Fq Y M D h m e).2=true):yB (Fq Y M D h m e).1:=by
  unfold Fq at q ⊢
  by_cases c:DD Y M D h m e=true
  · rw[if_pos c];exact afj _ _ _ _ _ _ c
  · rw[if_neg c] at q;exact absurd q aA
theorem Zt (t:Int) (h:yB t):Fq (cY t) (cM t) (cD t) (cH t) (cI t) (cS t)=(t,true):=by
  unfold Fq;rw[if_pos (asS t h),asT]
theorem Ip (s:af) (h6:6<=s.size) (Y M D h m e:Int) (k:Nat) (hk:10002<k) :
    ((Fq Y M D h m e).2=true/\Hit (Fq Y M D h m e).1 s->aj.j1 k s Y M D h m e=some ((Fq Y M D h m e).1,true))/\(¬ ((Fq Y M D h m e).2=true/\Hit (Fq Y M D h m e).1 s)->aj.j1 k s Y M D h m e=some (0,false)):=by
  obtain⟨k,rfl⟩:=dm k ae
  simp only[aj.j1]
  rw[Ie _ _ _ _ _ _ k ae,ax]
  have ht:=@adJ Y M D h m e
  generalize Fq Y M D h m e=v at ht ⊢
  by_cases q:v.2=true
  · have ht:=ht q
    rw[if_pos q,Ua v.1 ht k ae,ax]
    by_cases e1:(zw v.1).toList=s.toList
    · rw[if_pos e1];exact⟨fun _=>rfl,fun z=>absurd ⟨q,ht,Or.inl ((fM _ _).1 e1).symm⟩ z⟩
    · rw[if_neg e1,Ub v.1 ht k ae,ax]
      by_cases e2:(if cY v.1<=2069 then uU v.1 else(⟨#[]⟩:af)).toList=s.toList
      · rw[if_pos e2]
        refine⟨fun _=>rfl,fun z=>absurd ⟨q,ht,Or.inr (Or.inr ?_)⟩ z⟩
        by_cases c:cY v.1<=2069
        · rw[if_pos c] at e2;exact⟨c,((fM _ _).1 e2).symm⟩
        · rw[if_neg c] at e2
          have:=(fM _ _).1 e2
          rw[<- this] at h6
          exact absurd h6 aA
      · rw[if_neg e2,Uc v.1 ht k ae,ax]
        by_cases e3:(zx v.1).toList=s.toList
        · rw[if_pos e3];exact⟨fun _=>rfl,fun z=>absurd ⟨q,ht,Or.inr (Or.inl ((fM _ _).1 e3).symm)⟩ z⟩
        · rw[if_neg e3]
          refine⟨fun z=>?_,fun _=>rfl⟩
          exfalso
          rcases z.2.2 with a|a|⟨c,a⟩
          · exact e1 ((fM _ _).2 a.symm)
          · exact e3 ((fM _ _).2 a.symm)
          · exact e2 (by rw[if_pos c];exact(fM _ _).2 a.symm)
  · rw[if_neg q]
    exact⟨fun z=>absurd z.1 q,fun _=>rfl⟩
theorem asW (s:af):strings_IndexByte.f s 44=some (if bV s 44<s.size then(bV s 44:Int) else -1):=Io s 44 44 rfl
theorem asX (s:af):strings_IndexByte.f s 45=some (if bV s 45<s.size then(bV s 45:Int) else -1):=Io s 45 45 rfl
def yrS (b:Int):Int:=if b+1900<1970 then b+2000 else b+1900
theorem yP (s:af) (h6:6<=s.size) (h40:s.size<=40) (a b c d e:Int) (hn:numsOf s = [a,b,c,d,e]) (k:Nat) (hk:3001<k) :
    aj.j0 (k+1) s false=if bV s 44<s.size then(if bV s 45<s.size then aj.j1 k s (yrS b) (Al (s.extract (bV s 44) s.size)) a c d e else aj.j1 k s b (Al (s.extract (bV s 44) s.size)) a c d e) else aj.j1 k s e (Al (s.extract 3 s.size)) a b c d:=by
  have hb:0<=b/\b<=999999999:=afl s 100 0 [] (Nat.zero_le _) (fun x hx=>absurd hx List.not_mem_nil) b (by
    have:vS s 100 0 [] = [a,b,c,d,e]:=hn
    rw[this];simp)
  have L5:(([a,b,c,d,e]:List Int).length:Int)=5:=rfl
  have r0:rd [a,b,c,d,e] 0=a:=rfl
  have r1:rd [a,b,c,d,e] 1=b:=rfl
  have r2:rd [a,b,c,d,e] 2=c:=rfl
  have r3:rd [a,b,c,d,e] 3=d:=rfl
  have r4:rd [a,b,c,d,e] 4=e:=rfl
  simp only[aj.j0]
  rw[if_neg aA,Ru s h40 k ae,ax,hn,L5,r0,r1,r2,r3,r4,if_pos rfl,if_pos ae,N8 _ (by rw[size_extract];omega) k ae,ax,asW,ax]
  by_cases c1:bV s 44<s.size
  · rw[if_pos c1,if_pos c1,if_pos ae,if_pos ae,if_pos ae,Int.toNat_natCast,N8 _ (by rw[size_extract];omega) k ae,ax,if_pos aA,if_pos aA,if_pos aA,if_pos aA,if_pos aA,asX,ax]
    by_cases c2:bV s 45<s.size
    · rw[if_pos c2,if_pos c2,if_pos ae,aC (x:=b+1900) ae ae]
      unfold yrS
      by_cases c3:b+1900<1970
      · rw[if_pos c3,if_pos c3,aC (x:=b+1900+100) ae ae,show b+1900+100=b+2000 by omega]
      · rw[if_neg c3,if_neg c3]
    · rw[if_neg c2,if_neg c2,if_neg aA]
  · rw[if_neg c1,if_neg c1,if_neg aA,if_pos aA,if_pos aA,if_pos aA,if_pos aA,if_pos aA]
theorem axW (l:List Int) (h:l.length=5):∃ a b c d e,l = [a,b,c,d,e]:=by
  match l,h with
  |[a,b,c,d,e],_=>exact⟨a,b,c,d,e,rfl⟩
theorem Uj (s:af) (H:∀ t,¬ Hit t s) (k:Nat) (hk:20000<k):aj.f k s=some (0,false):=by
  obtain⟨k,rfl⟩:=dm k ae
  unfold aj.f
  have ht:aj.j0 (k+1) s true=some (0,false):=by simp only[aj.j0];rw[if_pos trivial]
  by_cases c0:(s.size:Int)<6
  · rw[if_pos c0,ht]
  rw[if_neg c0]
  by_cases c1:(s.size:Int)>40
  · rw[bK c1,ht]
  rw[bQ c1]
  by_cases h5:(numsOf s).length=5
  · obtain⟨a,b,c,d,e,hn⟩:=axW _ h5
    rw[yP s ae ae a b c d e hn k ae]
    have no:∀ Y M D h m e,aj.j1 k s Y M D h m e=some (0,false):=fun Y M D h m e=>(Ip s ae Y M D h m e k ae).2 (fun z=>H _ z.2)
    rw[no,no,no]
    split
    · split <;> rfl
    · rfl
  · simp only[aj.j0]
    rw[if_neg aA,Ru s ae k ae,ax,if_neg ae]
theorem abp (t:Int):NR (zw t) 3 (zu (cY t) (cM t) (cD t) (cH t) (cI t) (cS t)):=by
  obtain⟨a,b,c,h3⟩:=VE (Bn t)
  have h:=TU ((vQ (Bn t)).take 3) (zu (cY t) (cM t) (cD t) (cH t) (cI t) (cS t)) (fun b hb=>Ck _ b (List.mem_of_mem_take hb))
  rw[show((vQ (Bn t)).take 3).length=3 by rw[h3];rfl] at h
  exact h
theorem abq (t:Int):NR (zx t) 3 (tV (cY t) (cM t) (cD t) (cH t) (cI t) (cS t)):=by
  obtain⟨a,b,c,h3⟩:=VE (Bn t)
  have h:=TU ((vQ (Bn t)).take 3) (tV (cY t) (cM t) (cD t) (cH t) (cI t) (cS t)) (fun b hb=>Ck _ b (List.mem_of_mem_take hb))
  rw[show((vQ (Bn t)).take 3).length=3 by rw[h3];rfl] at h
  exact h
theorem abr (t:Int):NR (uU t) (vQ (Bn t)).length (Bl (cY t) (cM t) (cD t) (cH t) (cI t) (cS t)):=
  TU (vQ (Bn t)) _ (fun b hb=>Ck _ b hb)
theorem Rv (Y M D h i e:Int):(zu Y M D h i e).length=26:=by
  obtain⟨x,y,z,hm,_⟩:=jY M
  unfold zu;rw[hm];rfl
theorem Rw (Y M D h i e:Int):(Bl Y M D h i e).length=24:=by
  obtain⟨x,y,z,hm,_⟩:=jY M
  unfold Bl;rw[hm];rfl
theorem Rx (Y M D h i e:Int):(tV Y M D h i e).length=21:=by
  obtain⟨x,y,z,hm,_⟩:=jY M
  unfold tV;rw[hm]
  split <;> rfl
theorem QC (t:Int) (s:af) (H:Hit t s) (k:Nat) (hk:20000<k):aj.f k s=some (t,true):=by
  obtain⟨k,rfl⟩:=dm k ae
  have go:6<=s.size->s.size<=40->aj.j0 (k+1) s false=aj.j1 k s (cY t) (cM t) (cD t) (cH t) (cI t) (cS t)->aj.f (k+1) s=some (t,true):=by
    intro h6 h40 e
    unfold aj.f
    rw[if_neg ae,bQ ae,e]
    have:=(Ip s h6 (cY t) (cM t) (cD t) (cH t) (cI t) (cS t) k ae).1 (by rw[Zt t H.1];exact⟨rfl,H⟩)
    rw[Zt t H.1] at this
    exact this
  have hb:=rM t H.1
  obtain⟨ht,e|e|⟨c,e⟩⟩:=H
  · have A:=abp t
    rw[<- e] at A
    have hs:=A.1
    rw[Rv] at hs
    have hn:=adD A ae ae ae ae ae ae
    rw[show cD t%100=cD t by omega,show cY t%10000=cY t by omega,show cH t%100=cH t by omega,show cI t%100=cI t by omega,show cS t%100=cS t by omega] at hn
    have p44:bV s 44=3:=xH s 44 3 ae (abm A 44 aA) (fun _=>A.get 0 44 rfl)
    have p45:bV s 45=s.size:=xH s 45 s.size (Nat.le_refl _) (abl A 45 aA (adG _ _ _ _ _ _)) (fun q=>absurd q (Nat.lt_irrefl _))
    refine go ae ae ?_
    rw[yP s ae ae _ _ _ _ _ hn k ae,p44,p45,if_pos ae,if_neg (Nat.lt_irrefl _),Zo A hb.2.1]
  · have A:=abq t
    rw[<- e] at A
    have hs:=A.1
    rw[Rx] at hs
    have hn:=adF A ae ae ae ae ae ae
    rw[show cD t%100=cD t by omega,show cY t%10000=cY t by omega,show cH t%100=cH t by omega,show cI t%100=cI t by omega,show cS t%100=cS t by omega] at hn
    have p44:bV s 44=s.size:=xH s 44 s.size (Nat.le_refl _) (abl A 44 aA (adH _ _ _ _ _ _)) (fun q=>absurd q (Nat.lt_irrefl _))
    refine go ae ae ?_
    rw[yP s ae ae _ _ _ _ _ hn k ae,p44,if_neg (Nat.lt_irrefl _),Zq A hb.2.1]
  · have A:=abr t
    rw[<- e] at A
    have hs:=A.1
    rw[Rw] at hs
    have hl:=xM (Bn t)
    have hn:=adE A ae ae ae ae ae ae
    rw[show cD t%100=cD t by omega,show cH t%100=cH t by omega,show cI t%100=cI t by omega,show cS t%100=cS t by omega] at hn
    have p44:bV s 44=(vQ (Bn t)).length:=xH s 44 _ ae (abm A 44 aA) (fun _=>A.get 0 44 rfl)
    have p45:bV s 45<s.size:=by
      have g:=A.get 4 45 rfl
      have:=mK s 45
      by_cases q:bV s 45<s.size
      · exact q
      · exact absurd g (Am s 45 ((vQ (Bn t)).length+4) ae)
    have hy:yrS (cY t%100)=cY t:=by unfold yrS;split <;> omega
    refine go ae ae ?_
    rw[yP s ae ae _ _ _ _ _ hn k ae,p44,if_pos ae,if_pos p45,hy,Zp A hb.2.1]

theorem afq (c:Int):bD.f c=some (decide (yg c)):=Uh c
theorem afr (u:af) (hu:u.size<=1000):∀(d i k:Nat) (x:Int),i+d=u.size->d<k->∃ v,bB.l0 k u x (i:Int)=some v:=by
  intro d
  induction d with
  |zero=>
    intro i k x h hk
    obtain⟨k,rfl⟩:=dm k ae
    exact⟨x,by simp only[bB.l0];rw[if_neg ae]⟩
  |succ d ih=>
    intro i k x h hk
    obtain⟨k,rfl⟩:=dm k ae
    simp only[bB.l0]
    rw[if_pos ae,if_pos ae,iX i ae]
    by_cases a:bt u (i:Int)=32
    · rw[if_pos a];exact ih (i+1) k _ ae ae
    · rw[if_neg a,afq,ax]
      by_cases b:yg (bt u (i:Int))
      · rw[bK b,if_pos rfl];exact ih (i+1) k _ ae ae
      · rw[bQ b,if_neg aA];exact⟨_,rfl⟩
theorem Uk (u:af) (hu:u.size<=1000) (k:Nat) (hk:1000<k):∃ v,bB.f k u=some v:=afr u hu u.size 0 k 0 ae ae
theorem Gu {u:ByteArray} {i k:Nat} {x:Int} (y:Int) (h1:i<u.size) (hu:u.size<=1000) (h2:bt u (i:Int)=48+y%10) (h3:0<=x) (h4:x<=100000):bB.l0 (k+1) u x (i:Int)=bB.l0 k u (x*10+y%10) ((i+1:Nat):Int):=by
  simp only[bB.l0]
  rw[if_pos ae,if_pos ae,if_neg ae,afq,ax,bK (show yg (bt u (i:Int)) from by unfold yg;omega),if_pos rfl,h2,iX i ae,
    show(48+y%10-48)%256=y%10 by omega,aC (x:=x*10) ae ae,aC (x:=x*10+y%10) ae ae]
theorem apK {u:ByteArray} {i k:Nat} {x:Int} (h1:i<u.size) (hu:u.size<=1000) (h2:bt u (i:Int)=32) (h3:0<=x) (h4:x<=100000):bB.l0 (k+1) u x (i:Int)=bB.l0 k u (x*10) ((i+1:Nat):Int):=by
  simp only[bB.l0]
  rw[if_pos ae,if_pos ae,if_pos h2,iX i ae,aC (x:=x*10) ae ae]
theorem Ul {u:ByteArray} {i k:Nat} {x:Int} (h1:u.size<=i):bB.l0 (k+1) u x (i:Int)=some x:=by
  simp only[bB.l0]
  rw[if_neg ae]
theorem Gv (l:List UInt8) (j:Nat) (n:Int) (h:l[j]? = some (ny n)):bt (mZ l) (j:Int)=48+n%10:=(MX l j (ny n) h).trans (TT n)
theorem Gw (n:Int) (h:0<=n) (k:Nat) (hk:1000<k):bB.f k (mZ (kE n))=some (n%100):=by
  obtain⟨k,rfl⟩:∃ j,k=j+3:=⟨k-3,by omega⟩
  have hz:(mZ (kE n)).size=2:=rfl
  have e:bB.f (k+3) (mZ (kE n))=bB.l0 (k+3) (mZ (kE n)) 0 ((0:Nat):Int):=rfl
  rw[e,Gu (n / 10) ae ae (Gv _ 0 _ rfl) ae ae,Gu n ae ae (Gv _ 1 _ rfl) ae ae,Ul ae]
  congr 1
  omega
theorem afs (n:Int) (h:0<=n) (k:Nat) (hk:1000<k):bB.f k (mZ (vR n))=some (n%10000):=by
  obtain⟨k,rfl⟩:∃ j,k=j+5:=⟨k-5,by omega⟩
  have hz:(mZ (vR n)).size=4:=rfl
  have e:bB.f (k+5) (mZ (vR n))=bB.l0 (k+5) (mZ (vR n)) 0 ((0:Nat):Int):=rfl
  rw[e,Gu (n / 1000) ae ae (Gv _ 0 _ rfl) ae ae,Gu (n / 100) ae ae (Gv _ 1 _ rfl) ae ae,
    Gu (n / 10) ae ae (Gv _ 2 _ rfl) ae ae,Gu n ae ae (Gv _ 3 _ rfl) ae ae,Ul ae]
  congr 1
  omega
theorem apL (n:Int) (h:0<=n) (h9:n<10) (k:Nat) (hk:1000<k):bB.f k (mZ [32,ny n])=some n:=by
  obtain⟨k,rfl⟩:∃ j,k=j+3:=⟨k-3,by omega⟩
  have hz:(mZ [32,ny n]).size=2:=rfl
  have e:bB.f (k+3) (mZ [32,ny n])=bB.l0 (k+3) (mZ [32,ny n]) 0 ((0:Nat):Int):=rfl
  have b0:bt (mZ [32,ny n]) ((0:Nat):Int)=32:=MX [32,ny n] 0 32 rfl
  rw[e,apK (u:=mZ [32,ny n]) (i:=0) ae ae b0 ae ae,Gu n ae ae (Gv _ 1 _ rfl) ae ae,Ul ae]
  congr 1
  omega
theorem aft (u:af):∀(d n k:Nat),n+d=12->d<k->∃ v,fD.l0 k u ((n:Int)+1)=some v:=by
  intro d
  induction d with
  |zero=>
    intro n k h hk
    obtain⟨k,rfl⟩:=dm k ae
    exact⟨-1,by simp only[fD.l0];rw[if_neg ae]⟩
  |succ d ih=>
    intro n k h hk
    obtain⟨k,rfl⟩:=dm k ae
    simp only[fD.l0]
    rw[if_pos ae,Ih _ ae,ax,aC (x:=(n:Int)+1+1) ae ae]
    by_cases a:(mZ (vF ((n:Int)+1))).toList=u.toList
    · rw[if_pos a];exact⟨_,rfl⟩
    · rw[if_neg a];exact ih (n+1) k ae ae
theorem apM (u:af) (k:Nat) (hk:20<k):∃ v,fD.f k u=some v:=aft u 12 0 k rfl ae
theorem aj1 {a b:List UInt8} (h:mZ a=mZ b):a=b:=by
  have:=congrArg (fun x:ByteArray=>x.data.toList) h
  simpa [mZ] using this
theorem aj2 (M:Int) (hM:1<=M/\M<=12):∀(d n k:Nat),n+d=12->d<k->(n:Int)+1<=M->fD.l0 k (mZ (vF M)) ((n:Int)+1)=some M:=by
  intro d
  induction d with
  |zero=>intro n k h hk hn;omega
  |succ d ih=>
    intro n k h hk hn
    obtain⟨k,rfl⟩:=dm k ae
    simp only[fD.l0]
    rw[if_pos ae,Ih _ ae,ax,aC (x:=(n:Int)+1+1) ae ae]
    by_cases a:(n:Int)+1=M
    · rw[a,if_pos rfl]
    · rw[if_neg (fun z=>a (VB _ _ ae hM (aj1 ((fM _ _).1 z))))]
      exact ih (n+1) k ae ae ae
theorem afu (M:Int) (hM:1<=M/\M<=12) (k:Nat) (hk:20<k):fD.f k (mZ (vF M))=some M:=aj2 M hM 12 0 k rfl ae ae
theorem Um (Y M D:Int) (u:af) (h8:8<=u.size) (k:Nat) (hk:10000<k):∃ v,iY.f k Y M D u=some v:=by
  obtain⟨a,ha⟩:=Uk (u.extract 0 2) (by rw[size_extract];omega) k ae
  obtain⟨b,hb⟩:=Uk (u.extract 3 5) (by rw[size_extract];omega) k ae
  obtain⟨c,hc⟩:=Uk (u.extract 6 8) (by rw[size_extract];omega) k ae
  unfold iY.f
  rw[if_pos aA,if_pos ae,ha,ax,if_pos aA,if_pos ae,hb,ax,if_pos aA,if_pos ae,hc,ax,Ak _ _ _ _ _ _ k ae,ax]
  by_cases q:(Fq Y M D a b c).2=true
  · rw[if_pos q];exact⟨_,rfl⟩
  · rw[if_neg q];exact⟨_,rfl⟩
theorem qM (l:List UInt8) (a b:Nat):(mZ l).extract a b=mZ ((l.take b).drop a):=by
  apply ByteArray.ext
  apply Array.toList_inj.1
  rw[Iq]
  simp[mZ]
theorem Zu (t:Int) (ht:yB t) (k:Nat) (hk:10000<k):iY.f k (cY t) (cM t) (cD t) (mZ (sF (cH t) (cI t) (cS t)))=some t:=by
  have hb:=rM t ht
  have e0:(mZ (sF (cH t) (cI t) (cS t))).extract 0 2=mZ (kE (cH t)):=by rw[qM];rfl
  have e1:(mZ (sF (cH t) (cI t) (cS t))).extract 3 5=mZ (kE (cI t)):=by rw[qM];rfl
  have e2:(mZ (sF (cH t) (cI t) (cS t))).extract 6 8=mZ (kE (cS t)):=by rw[qM];rfl
  have hz:(mZ (sF (cH t) (cI t) (cS t))).size=8:=rfl
  unfold iY.f
  rw[if_pos aA,if_pos ae,e0,Gw _ ae k ae,ax,if_pos aA,if_pos ae,e1,Gw _ ae k ae,ax,if_pos aA,if_pos ae,e2,Gw _ ae k ae,ax,
    show cH t%100=cH t by omega,show cI t%100=cI t by omega,show cS t%100=cS t by omega,Ak _ _ _ _ _ _ k ae,ax,Zt t ht,if_pos rfl]

theorem Ir {s:ByteArray} (h:6<=s.size):¬ (⟨#[]⟩:af).toList=s.toList:=by
  intro z
  have:=(fM _ _).1 z
  rw[<- this] at h
  exact absurd h aA
theorem Iu (s u:af) (h6:6<=s.size) (hu:18<=u.size) (y:Int) (k:Nat) (hk:10002<k) (H:∀ t,¬ Hit t s):ai.j3 k s u y=some (0,false):=by
  obtain⟨k,rfl⟩:=dm k ae
  obtain⟨m,hm⟩:=apM (u.extract 3 6) k ae
  obtain⟨d,hd⟩:=Uk (u.extract 0 2) (by rw[size_extract];omega) k ae
  obtain⟨v,hv⟩:=Um y m d (u.extract 10 18) (by rw[size_extract];omega) k ae
  simp only[ai.j3]
  rw[if_pos aA,if_pos ae,hm,ax,if_pos aA,if_pos ae,hd,ax,if_pos aA,if_pos ae,hv,ax]
  by_cases t:yB v
  · rw[Ik v t k ae,ax]
    by_cases c:cY v<=2069
    · rw[if_pos c,if_neg (fun z=>H v ⟨t,Or.inr (Or.inr ⟨c,((fM _ _).1 z).symm⟩)⟩)]
    · rw[if_neg c,if_neg (Ir h6)]
  · rw[Uf v t k ae,ax,if_neg (Ir h6)]
theorem Cr (s:af) (hs:s.size<=1048576) (k:Nat) (hk:10005<k) (H:∀ t,¬ Hit t s):ai.j1 k s=some (0,false):=by
  obtain⟨k,rfl⟩:∃ j,k=j+2:=⟨k-2,by omega⟩
  have hf:ai.j2 (k+1) s false=some (0,false):=by simp only[ai.j2];rfl
  have e:ai.j1 (k+2) s=if(s.size:Int)>=30 then ai.j2 (k+1) s (decide ((s.size:Int)<=33)) else ai.j2 (k+1) s false:=by
    simp only[ai.j1]
  rw[e,hf]
  by_cases a:(s.size:Int)>=30
  · rw[if_pos a]
    by_cases b:(s.size:Int)<=33
    · rw[bK b]
      simp only[ai.j2]
      have hw:wrap64 ((s.size:Int)-22)=(s.size:Int)-22:=aC ae ae
      have hz:(s.extract ((s.size:Int)-22).toNat s.size).size=22:=by rw[size_extract];omega
      rw[hw,if_pos trivial,if_pos ae,if_pos ae,if_pos aA,if_pos ae]
      obtain⟨v,hv⟩:=Uk ((s.extract ((s.size:Int)-22).toNat s.size).extract 7 9) (by rw[size_extract];omega) k ae
      rw[hv,ax]
      split
      · exact Iu s _ ae ae _ k ae H
      · exact Iu s _ ae ae _ k ae H
    · rw[bQ b,hf]
  · rw[if_neg a]
theorem Cs (s:af) (hs:s.size<=1048576) (k:Nat) (hk:10010<k) (H:∀ t,¬ Hit t s):ai.j0 k s=some (0,false):=by
  obtain⟨k,rfl⟩:=dm k ae
  simp only[ai.j0]
  by_cases a:(s.size:Int)=24
  · obtain⟨y,hy⟩:=Uk (s.extract 20 24) (by rw[size_extract];omega) k ae
    obtain⟨m,hm⟩:=apM (s.extract 4 7) k ae
    obtain⟨d,hd⟩:=Uk (s.extract 8 10) (by rw[size_extract];omega) k ae
    obtain⟨v,hv⟩:=Um y m d (s.extract 11 19) (by rw[size_extract];omega) k ae
    rw[if_pos a,if_pos aA,if_pos ae,hy,ax,if_pos aA,if_pos ae,hm,ax,if_pos aA,if_pos ae,hd,ax,if_pos aA,if_pos ae,hv,ax]
    by_cases t:yB v
    · rw[Il v t k ae,ax,if_neg (fun z=>H v ⟨t,Or.inr (Or.inl ((fM _ _).1 z).symm)⟩)]
      exact Cr s hs k ae H
    · rw[Ue v t k,ax,if_neg (Ir ae)]
      exact Cr s hs k ae H
  · rw[if_neg a]
    exact Cr s hs k ae H
theorem Un (s:af) (hs:s.size<=1048576) (k:Nat) (hk:20000<k) (H:∀ t,¬ Hit t s):ai.f k s=some (0,false):=by
  unfold ai.f
  by_cases a:(s.size:Int)=29
  · obtain⟨y,hy⟩:=Uk (s.extract 12 16) (by rw[size_extract];omega) k ae
    obtain⟨m,hm⟩:=apM (s.extract 8 11) k ae
    obtain⟨d,hd⟩:=Uk (s.extract 5 7) (by rw[size_extract];omega) k ae
    obtain⟨v,hv⟩:=Um y m d (s.extract 17 25) (by rw[size_extract];omega) k ae
    rw[if_pos a,if_pos aA,if_pos ae,hy,ax,if_pos aA,if_pos ae,hm,ax,if_pos aA,if_pos ae,hd,ax,if_pos aA,if_pos ae,hv,ax]
    by_cases t:yB v
    · rw[Ij v t k ae,ax,if_neg (fun z=>H v ⟨t,Or.inl ((fM _ _).1 z).symm⟩)]
      exact Cs s hs k ae H
    · rw[Ud v t k,ax,if_neg (Ir ae)]
      exact Cs s hs k ae H
  · rw[if_neg a]
    exact Cs s hs k ae H
theorem QD (t:Int) (ht:yB t) (k:Nat) (hk:20000<k):ai.f k (zw t)=some (t,true):=by
  have hb:=rM t ht
  obtain⟨a,b,c,h3⟩:=VE (Bn t)
  obtain⟨x,y,z,hm,_⟩:=jY (cM t)
  have hz:(zw t).size=29:=by have:=(abp t).1;rw[Rv] at this;exact this
  have hl:zw t=mZ ([a,b,c]++([44,32]++kE (cD t) ++ [32] ++ [x,y,z] ++ [32]++vR (cY t) ++ [32]++sF (cH t) (cI t) (cS t)++Bj)):=by unfold zw zu;rw[h3,hm]
  have e1:(zw t).extract 12 16=mZ (vR (cY t)):=by rw[hl,qM];rfl
  have e2:(zw t).extract 8 11=mZ (vF (cM t)):=by rw[hl,qM,hm];rfl
  have e3:(zw t).extract 5 7=mZ (kE (cD t)):=by rw[hl,qM];rfl
  have e4:(zw t).extract 17 25=mZ (sF (cH t) (cI t) (cS t)):=by rw[hl,qM];rfl
  unfold ai.f
  rw[if_pos ae,if_pos aA,if_pos ae,e1,afs _ ae k ae,ax,if_pos aA,if_pos ae,e2,afu _ hb.2.1 k ae,ax,
    if_pos aA,if_pos ae,e3,Gw _ ae k ae,ax,if_pos aA,if_pos ae,e4,show cY t%10000=cY t by omega,show cD t%100=cD t by omega,Zu t ht k ae,ax,
    Ij t ht k ae,ax,if_pos rfl]
theorem QE (t:Int) (ht:yB t) (k:Nat) (hk:20000<k):ai.f k (zx t)=some (t,true):=by
  obtain⟨k,rfl⟩:=dm k ae
  have hb:=rM t ht
  obtain⟨a,b,c,h3⟩:=VE (Bn t)
  obtain⟨x,y,z,hm,_⟩:=jY (cM t)
  have hz:(zx t).size=24:=by have:=(abq t).1;rw[Rx] at this;exact this
  obtain⟨p,q,hpq,hn⟩:∃ p q,(if cD t<10 then [32,ny (cD t)] else kE (cD t)) = [p,q]/\bB.f k (mZ [p,q])=some (cD t):=by
    by_cases w:cD t<10
    · exact⟨32,ny (cD t),by rw[if_pos w],apL _ ae w k ae⟩
    · exact⟨ny (cD t / 10),ny (cD t),by rw[if_neg w];rfl,by have:=Gw (cD t) ae k ae;rw[show cD t%100=cD t by omega] at this;exact this⟩
  have hl:zx t=mZ ([a,b,c]++([32] ++ [x,y,z] ++ [32] ++ [p,q] ++ [32]++sF (cH t) (cI t) (cS t) ++ [32]++vR (cY t))):=by unfold zx tV;rw[h3,hm,hpq]
  have e1:(zx t).extract 20 24=mZ (vR (cY t)):=by rw[hl,qM];rfl
  have e2:(zx t).extract 4 7=mZ (vF (cM t)):=by rw[hl,qM,hm];rfl
  have e3:(zx t).extract 8 10=mZ [p,q]:=by rw[hl,qM];rfl
  have e4:(zx t).extract 11 19=mZ (sF (cH t) (cI t) (cS t)):=by rw[hl,qM];rfl
  unfold ai.f
  rw[if_neg ae]
  simp only[ai.j0]
  rw[if_pos ae,if_pos aA,if_pos ae,e1,afs _ ae k ae,ax,if_pos aA,if_pos ae,e2,afu _ hb.2.1 k ae,ax,
    if_pos aA,if_pos ae,e3,hn,ax,if_pos aA,if_pos ae,e4,show cY t%10000=cY t by omega,Zu t ht k ae,ax,
    Il t ht k ae,ax,if_pos rfl]
theorem QF (t:Int) (ht:yB t) (hc:cY t<=2069) (k:Nat) (hk:20000<k):ai.f k (uU t)=some (t,true):=by
  obtain⟨k,rfl⟩:∃ j,k=j+4:=⟨k-4,by omega⟩
  have hb:=rM t ht
  have hl:=xM (Bn t)
  obtain⟨x,y,z,hm,_⟩:=jY (cM t)
  have hz:(uU t).size=(vQ (Bn t)).length+24:=by have:=(abr t).1;rw[Rw] at this;exact this
  have hx:(uU t).extract (((uU t).size:Int)-22).toNat (uU t).size=mZ (kE (cD t) ++ [45] ++ [x,y,z] ++ [45]++kE (cY t) ++ [32]++sF (cH t) (cI t) (cS t)++Bj):=by
    rw[show(((uU t).size:Int)-22).toNat=(vQ (Bn t)).length+2 by omega]
    have e:uU t=mZ (vQ (Bn t)++([44,32]++(kE (cD t) ++ [45] ++ [x,y,z] ++ [45]++kE (cY t) ++ [32]++sF (cH t) (cI t) (cS t)++Bj))):=by unfold uU Bl;rw[hm];simp only[List.append_assoc]
    rw[e,qM,jT,List.take_length]
    first
      |(rw[List.drop_append,List.drop_eq_nil_of_le ae,Nat.add_sub_cancel_left];rfl)
      |(rw[List.drop_append_eq_append_drop,List.drop_eq_nil_of_le ae,Nat.add_sub_cancel_left];rfl)
  have e1:(mZ (kE (cD t) ++ [45] ++ [x,y,z] ++ [45]++kE (cY t) ++ [32]++sF (cH t) (cI t) (cS t)++Bj)).extract 7 9=mZ (kE (cY t)):=by rw[qM];rfl
  have e2:(mZ (kE (cD t) ++ [45] ++ [x,y,z] ++ [45]++kE (cY t) ++ [32]++sF (cH t) (cI t) (cS t)++Bj)).extract 3 6=mZ (vF (cM t)):=by rw[qM,hm];rfl
  have e3:(mZ (kE (cD t) ++ [45] ++ [x,y,z] ++ [45]++kE (cY t) ++ [32]++sF (cH t) (cI t) (cS t)++Bj)).extract 0 2=mZ (kE (cD t)):=by rw[qM];rfl
  have e4:(mZ (kE (cD t) ++ [45] ++ [x,y,z] ++ [45]++kE (cY t) ++ [32]++sF (cH t) (cI t) (cS t)++Bj)).extract 10 18=mZ (sF (cH t) (cI t) (cS t)):=by rw[qM];rfl
  have hv:(mZ (kE (cD t) ++ [45] ++ [x,y,z] ++ [45]++kE (cY t) ++ [32]++sF (cH t) (cI t) (cS t)++Bj)).size=22:=rfl
  generalize mZ (kE (cD t) ++ [45] ++ [x,y,z] ++ [45]++kE (cY t) ++ [32]++sF (cH t) (cI t) (cS t)++Bj)=u at hx e1 e2 e3 e4 hv
  have last:ai.j3 (k+1) (uU t) u (cY t)=some (t,true):=by
    simp only[ai.j3]
    rw[if_pos aA,if_pos ae,e2,afu _ hb.2.1 k ae,ax,if_pos aA,if_pos ae,e3,Gw _ ae k ae,ax,if_pos aA,if_pos ae,e4,
      show cD t%100=cD t by omega,Zu t ht k ae,ax,Ik t ht k ae,ax,if_pos hc,if_pos rfl]
  have mid:ai.j2 (k+2) (uU t) true=some (t,true):=by
    simp only[ai.j2]
    have hw:wrap64 (((uU t).size:Int)-22)=((uU t).size:Int)-22:=aC ae ae
    rw[hw,if_pos trivial,if_pos ae,if_pos ae,if_pos aA,hx,if_pos ae,e1,Gw _ ae (k+1) ae,ax]
    by_cases w:cY t%100>=70
    · rw[if_pos w,aC (x:=cY t%100+1900) ae ae,show cY t%100+1900=cY t by omega];exact last
    · rw[if_neg w,aC (x:=cY t%100+2000) ae ae,show cY t%100+2000=cY t by omega];exact last
  have q1:ai.j1 (k+3) (uU t)=some (t,true):=by
    simp only[ai.j1]
    rw[if_pos ae,bK ae]
    exact mid
  unfold ai.f
  rw[if_neg ae]
  simp only[ai.j0]
  rw[if_neg ae]
  exact q1
theorem QG (t:Int) (s:af) (H:Hit t s) (k:Nat) (hk:20000<k):ai.f k s=some (t,true):=by
  obtain⟨ht,rfl|rfl|⟨c,rfl⟩⟩:=H
  · exact QD t ht k hk
  · exact QE t ht k hk
  · exact QF t ht c k hk
open Classical in
noncomputable def KV (s:af):Int×Bool:=if h:∃ t,Hit t s then(h.choose,true) else(0,false)
theorem Iw (s:af) (k:Nat) (hk:20000<k):aj.f k s=some (KV s):=by
  unfold KV
  by_cases h:∃ t,Hit t s
  · rw[dif_pos h];exact QC _ s h.choose_spec k hk
  · rw[dif_neg h];exact Uj s (fun t z=>h ⟨t,z⟩) k hk
theorem Uo (s:af) (hs:s.size<=1048576) (k:Nat) (hk:20000<k):ai.f k s=some (KV s):=by
  unfold KV
  by_cases h:∃ t,Hit t s
  · rw[dif_pos h];exact QG _ s h.choose_spec k hk
  · rw[dif_neg h];exact Un s hs k hk (fun t z=>h ⟨t,z⟩)
theorem Zv (s:af):yB (KV s).1:=by
  unfold KV
  by_cases h:∃ t,Hit t s
  · rw[dif_pos h];exact h.choose_spec.1
  · rw[dif_neg h];exact⟨Int.le_refl _,by decide⟩
theorem VJ : KV (⟨#[]⟩:af)=(0,false):=by
  have:=Iw (⟨#[]⟩:af) 20001 ae
  have e:aj.f 20001 (⟨#[]⟩:af)=some (0,false):=by
    unfold aj.f
    rw[if_pos aA]
    simp only[aj.j0]
    rw[if_pos trivial]
  rw[e] at this
  exact(aI this).symm

def QH (l:List dC) (a:af):ByteArray:=if(valuesOf l a).length=0 then(⟨#[]⟩:af) else dh ByteArray.empty (valuesOf l a) 0
theorem adK (l:List dC) (a:af):(QH l a).size<=190:=by
  unfold QH
  by_cases h:(valuesOf l a).length=0
  · rw[if_pos h];exact Nat.zero_le _
  · rw[if_neg h];exact zz l a _ (afv (i:=0) ae)
theorem Ry (l:List dC) (a:af) (ha:a.size<=140737488351232) (k:Nat) (hk:6000<k):nC.f k l a=some (QH l a,hasB l a):=by
  unfold nC.f QH hasB
  rw[zA l a ha k hk,ax]
  by_cases h:(valuesOf l a).length=0
  · rw[if_pos ae,if_pos h,bQ ae]
  · rw[if_neg ae,if_pos ae,if_neg h,bK ae]
theorem adL (l:List dC) (a:af) (ha:a.size<=140737488351232) (k:Nat) (hk:6000<k):zB.f k l a=some (QH l a,hasB l a):=by
  unfold zB.f QH hasB
  rw[vT l a ha k hk,ax]
  by_cases h:(valuesOf l a).length=0
  · rw[if_pos ae,if_pos h,bQ ae]
  · rw[if_neg ae,if_pos ae,if_neg h,bK ae]
noncomputable def rX (l:List dC) (a:af):Int×Bool:=KV (QH l a)
theorem xN (l:List dC) (a:af):yB (rX l a).1:=Zv _
theorem zC (l:List dC) (a:af) (ha:a.size<=140737488351232) (k:Nat) (hk:40000<k):lD.f k l a=some (rX l a):=by
  unfold lD.f rX
  rw[adL l a ha k ae,ax,Iw _ k ae,ax]
theorem yl (l:List dC) (a:af) (ha:a.size<=140737488351232) (k:Nat) (hk:40000<k):kY.f k l a=some (rX l a):=by
  unfold kY.f rX
  have hs:=adK l a
  rw[Ry l a ha k ae,ax]
  by_cases h:hasB l a=true
  · rw[if_pos h,Uo (QH l a) ae k ae,ax]
  · rw[if_neg h]
    have e:QH l a=(⟨#[]⟩:af):=by
      unfold QH
      unfold hasB at h
      rw[if_pos (by simp at h;simp[h])]
    rw[e,VJ]
def Gx : ByteArray:=(⟨#[100,97,116,101]⟩:af)
def zD : ByteArray:=(⟨#[101,120,112,105,114,101,115]⟩:af)
def Bp : ByteArray:=(⟨#[108,97,115,116,45,109,111,100,105,102,105,101,100]⟩:af)
noncomputable def xu (t2:Int) (ml:List dC):Int:=if(rX ml Gx).2=true then(rX ml Gx).1 else t2
theorem KW (t2:Int) (ml:List dC) (h:zo t2=true):0<=xu t2 ml/\xu t2 ml<=253402300799:=by
  unfold xu
  split
  · exact xN ml Gx
  · exact ay h
theorem Iy (u:af) (t1 t2:Int) (l:List dC) (m0 m1:af) (m2:Int) (m3:af) (m4:Bool) (ml:List dC) (m6:af) (k:Nat) (hk:40000<k):iT.f k u t1 t2 l m0 m1 m2 m3 m4 ml m6=some (xu t2 ml):=by
  unfold iT.f xu
  rw[show(⟨#[100,97,116,101]⟩:af)=Gx from rfl,zC ml Gx aA k hk,ax]
  split <;> rfl
noncomputable def Uq (u:af) (t1 t2:Int) (l:List dC) (m0 m1:af) (m2:Int) (m3:af) (m4:Bool) (ml:List dC) (m6:af):Int:=if zt u t1 t2 l m0 m1 m2 m3 m4 ml m6=true then xu t2 ml else -1
theorem N9 (u:af) (t1 t2:Int) (l:List dC) (m0 m1:af) (m2:Int) (m3:af) (m4:Bool) (ml:List dC) (m6:af) (hu:u.size<=1048576) (k:Nat) (hk:80000010<k):jU.f k u t1 t2 l m0 m1 m2 m3 m4 ml m6=some (Uq u t1 t2 l m0 m1 m2 m3 m4 ml m6):=by
  unfold jU.f Uq
  rw[Db _ _ _ _ _ _ _ _ _ _ _ hu k hk,ax]
  by_cases h:zt u t1 t2 l m0 m1 m2 m3 m4 ml m6=true
  · rw[if_pos h,if_pos h,show(⟨#[100,97,116,101]⟩:af)=Gx from rfl,yl ml Gx aA k ae,ax]
    unfold xu
    split <;> rfl
  · rw[if_neg h,if_neg h]
theorem KX {u:ByteArray} {t1 t2:Int} {l:List dC} {m0 m1:ByteArray} {m2:Int} {m3:ByteArray} {m4:Bool} {ml:List dC} {m6:ByteArray} (h:zt u t1 t2 l m0 m1 m2 m3 m4 ml m6=true):zo t1=true/\zo t2=true/\t1<=t2:=by
  unfold zt at h
  simp only[Bool.and_eq_true,decide_eq_true_eq] at h
  exact⟨h.2.1,h.2.2.1,h.2.2.2.1⟩

def dig (c:Int):Bool:=decide (48<=c)&&decide (c<=57)
theorem Oa (c:Int):eH.f c=some (dig c):=by
  unfold eH.f dig
  by_cases h:c>=48
  · rw[if_pos h,show decide (48<=c)=true from bK h,Bool.true_and]
  · rw[if_neg h,show decide (48<=c)=false from bQ h,Bool.false_and]
theorem Zw (c:Int):bD.f c=some (dig c):=Oa c
def Mm (s:af):Nat->Int->Bool
  |0,_=>true
  |d+1,i=>dig (bt s i)&&Mm s d (i+1)
def Ur (s:af):Nat->Int->Int->Int
  |0,n,_=>n
  |d+1,n,i=>Ur s d (min 2147483648 (10*n+(bt s i-48))) (i+1)
theorem VK (s:af) (hs:s.size<=140737488351232):∀(d k:Nat) (i:Int),0<=i->(s.size:Int)-i=d->d<k->
    dM.l0 k s i=some (Mm s d i):=by
  intro d
  induction d with
  |zero=>
    intro k i h0 hd hk
    obtain⟨k,rfl⟩:∃ m,k=m+1:=⟨k-1,by omega⟩
    simp only[dM.l0]
    rw[if_neg ae]
    rfl
  |succ d ih=>
    intro k i h0 hd hk
    obtain⟨k,rfl⟩:∃ m,k=m+1:=⟨k-1,by omega⟩
    simp only[dM.l0]
    rw[if_pos ae,if_pos h0,Oa,ax,aC ae ae,ih k (i+1) ae ae ae]
    simp only[Mm]
    cases dig (bt s i) <;> simp
theorem adM (s:af) (hs:s.size<=140737488351232):∀(d k:Nat) (n i:Int),0<=n->n<=2147483648->0<=i->(s.size:Int)-i=d->d<k->
    kr.l0 k s n i=some (if Mm s d i=true then(Ur s d n i,true) else(0,false)):=by
  intro d
  induction d with
  |zero=>
    intro k n i hn0 hn1 h0 hd hk
    obtain⟨k,rfl⟩:∃ m,k=m+1:=⟨k-1,by omega⟩
    simp only[kr.l0]
    rw[if_neg ae]
    simp[Mm,Ur]
  |succ d ih=>
    intro k n i hn0 hn1 h0 hd hk
    obtain⟨k,rfl⟩:∃ m,k=m+1:=⟨k-1,by omega⟩
    simp only[kr.l0]
    rw[if_pos ae,if_pos h0,Zw,ax]
    simp only[Mm,Ur]
    by_cases hb:dig (bt s i)=true
    case neg=>rw[if_neg hb];simp[hb]
    case pos=>
      rw[if_pos hb]
      have hr:48<=bt s i/\bt s i<=57:=by simpa [dig] using hb
      rw[aC (x:=n*10) ae ae,aC (x:=i+1) ae ae,aC (x:=n*10+(bt s i-48)%256) ae ae]
      have e:n*10+(bt s i-48)%256=10*n+(bt s i-48):=by omega
      rw[e]
      by_cases hc:10*n+(bt s i-48)>2147483648
      · rw[if_pos hc,ih k _ (i+1) ae ae ae ae ae,show min 2147483648 (10*n+(bt s i-48))=(2147483648:Int) by omega]
        simp[hb]
      · rw[if_neg hc,ih k _ (i+1) ae ae ae ae ae,show min 2147483648 (10*n+(bt s i-48))=10*n+(bt s i-48) by omega]
        simp[hb]
theorem adN (s:af) (hs:s.size<=140737488351232):∀(d k:Nat) (n i:Int),0<=n->n<=2147483648->0<=i->(s.size:Int)-i=d->d<k->Mm s d i=true->
    iE.l0 k s n i=some (Ur s d n i,true):=by
  intro d
  induction d with
  |zero=>
    intro k n i hn0 hn1 h0 hd hk hg
    obtain⟨k,rfl⟩:∃ m,k=m+1:=⟨k-1,by omega⟩
    simp only[iE.l0]
    rw[if_neg ae]
    simp[Ur]
  |succ d ih=>
    intro k n i hn0 hn1 h0 hd hk hg
    obtain⟨k,rfl⟩:∃ m,k=m+1:=⟨k-1,by omega⟩
    simp only[iE.l0]
    rw[if_pos ae,if_pos h0]
    simp only[Mm,Bool.and_eq_true] at hg
    have hr:48<=bt s i/\bt s i<=57:=by simpa [dig] using hg.1
    rw[aC (x:=10*n) ae ae,aC (x:=i+1) ae ae,aC (x:=10*n+(bt s i-48)%256) ae ae]
    have e:mn 2147483648 (10*n+(bt s i-48)%256)=min 2147483648 (10*n+(bt s i-48)):=by unfold mn;split <;> omega
    rw[e,ih k _ (i+1) ae ae ae ae ae hg.2]
    rfl
def vU (s:af):Int×Bool:=if s.toList=([]:aQ) then(0,false) else if Mm s s.size 0=true then(Ur s s.size 0 0,true) else(0,false)
theorem QI (s:af) (hs:s.size<=140737488351232) (k:Nat) (hk:s.size+2<k):kr.f k s=some (vU s):=by
  unfold kr.f vU
  by_cases h:s.toList=([]:aQ)
  · rw[if_pos h,if_pos h]
  · rw[if_neg h,if_neg h,adM s hs s.size k 0 0 ae ae ae ae ae]
theorem QJ (s:af) (hs:s.size<=140737488351232) (k:Nat) (hk:s.size+2<k):iE.f k s=some (vU s):=by
  unfold iE.f vU dM.f
  obtain⟨k,rfl⟩:∃ m,k=m+1:=⟨k-1,by omega⟩
  by_cases h:s.toList=([]:aQ)
  · rw[if_pos h,if_pos h];simp[iE.j0]
  · rw[if_neg h,if_neg h,VK s hs s.size (k+1) 0 ae ae ae,ax]
    simp only[iE.j0]
    by_cases hd:Mm s s.size 0=true
    · rw[if_neg (by simp[hd]),if_pos hd,adN s hs s.size k 0 0 ae ae ae ae ae hd]
    · rw[if_pos (by simpa using hd),if_neg hd]

def J4 (x:af):Nat->List Int->Nat->Option (List Int)
  |0,out,_=>some out
  |d+1,out,i=>
    if bt x (i:Int)=34 then none
    else if bt x (i:Int)=92 then(match d with|0=>none|e+1=>if plB (bt x ((i+1:Nat):Int))=true then J4 x e (out ++ [bt x ((i+1:Nat):Int)]) (i+2) else none)
    else if plB (bt x (i:Int))=true then J4 x d (out ++ [bt x (i:Int)]) (i+1) else none
theorem Rz (x:af) (d:Nat) (out:List Int) (i:Nat):J4 x (d+1) out i =
    if bt x (i:Int)=34 then none
    else if bt x (i:Int)=92 then(match d with|0=>none|e+1=>if plB (bt x ((i+1:Nat):Int))=true then J4 x e (out ++ [bt x ((i+1:Nat):Int)]) (i+2) else none)
    else if plB (bt x (i:Int))=true then J4 x d (out ++ [bt x (i:Int)]) (i+1) else none:=by
  rw[J4.eq_def]
def Us : Option (List Int)->ByteArray×Bool
  |none=>((⟨#[]⟩:af),false)
  |some out=>if(out.length:Int)>4000 then((⟨#[]⟩:af),false) else(strOfNums out,true)
theorem adO (o:Option (List Int)):(Us o).1.size<=4000:=by
  unfold Us
  split
  · exact Nat.zero_le _
  · split
    · exact Nat.zero_le _
    · show(strOfNums _).size<=4000
      rw[strOfNums_size]
      omega
theorem afw (x:af) (hx:x.size<=100000):∀(n d:Nat),d<=n->∀(k:Nat) (out:List Int) (i:Nat),i<=x.size->x.size-i=d->out.length<=i->d<k->
    dX.l0 k x out (i:Int)=some (Us (J4 x d out i)):=by
  intro n
  induction n with
  |zero=>
    intro d hdn k out i hi hd ho hk
    obtain rfl:d=0:=by omega
    obtain⟨k,rfl⟩:∃ m,k=m+1:=⟨k-1,by omega⟩
    simp only[dX.l0]
    rw[if_neg ae]
    simp only[J4,Us]
    split <;> rfl
  |succ n ih=>
    intro d hdn k out i hi hd ho hk
    obtain⟨k,rfl⟩:∃ m,k=m+1:=⟨k-1,by omega⟩
    cases d with
    |zero=>
      simp only[dX.l0]
      rw[if_neg ae]
      simp only[J4,Us]
      split <;> rfl
    |succ d=>
      have hw:wrap64 ((i:Int)+1)=((i+1:Nat):Int):=by rw[aC ae ae];omega
      have hw2:wrap64 (((i+1:Nat):Int)+1)=((i+2:Nat):Int):=by rw[aC ae ae];omega
      simp only[dX.l0]
      rw[Rz,if_pos ae,if_pos ae,hw,hw2]
      by_cases c1:bt x (i:Int)=34
      · rw[if_pos c1,if_pos c1];rfl
      · rw[if_neg c1,if_neg c1]
        by_cases c2:bt x (i:Int)=92
        · rw[if_pos c2,if_pos c2]
          cases d with
          |zero=>rw[if_pos ae];rfl
          |succ e=>
            rw[if_neg ae,if_pos ae,if_pos ae,Ct,ax]
            by_cases c3:plB (bt x ((i+1:Nat):Int))=true
            · dsimp only
              rw[if_pos c3,if_pos c3,if_pos ae]
              exact ih e ae k _ (i+2) ae ae (by simp;omega) ae
            · dsimp only
              rw[if_neg c3,if_neg c3];rfl
        · rw[if_neg c2,if_neg c2,if_neg ae,Ct,ax]
          by_cases c3:plB (bt x (i:Int))=true
          · rw[if_pos c3,if_pos c3,if_pos ae]
            exact ih d ae k _ (i+1) ae ae (by simp;omega) ae
          · rw[if_neg c3,if_neg c3];rfl
theorem afx (x:af) (hx:x.size<=100000):∀(n d:Nat),d<=n->∀(k:Nat) (out:List Int) (i:Nat),i<=x.size->x.size-i=d->out.length<=i->d<k->
    dE.l0 k out x (i:Int)=some (Us (J4 x d out i)):=by
  intro n
  induction n with
  |zero=>
    intro d hdn k out i hi hd ho hk
    obtain rfl:d=0:=by omega
    obtain⟨k,rfl⟩:∃ m,k=m+1:=⟨k-1,by omega⟩
    simp only[dE.l0]
    rw[if_neg ae]
    simp only[J4,Us]
    split <;> rfl
  |succ n ih=>
    intro d hdn k out i hi hd ho hk
    obtain⟨k,rfl⟩:∃ m,k=m+1:=⟨k-1,by omega⟩
    cases d with
    |zero=>
      simp only[dE.l0]
      rw[if_neg ae]
      simp only[J4,Us]
      split <;> rfl
    |succ d=>
      have hw:wrap64 ((i:Int)+1)=((i+1:Nat):Int):=by rw[aC ae ae];omega
      have hw2:wrap64 (((i+1:Nat):Int)+1)=((i+2:Nat):Int):=by rw[aC ae ae];omega
      simp only[dE.l0]
      rw[Rz,if_pos ae,if_pos ae,hw,hw2]
      by_cases c2:bt x (i:Int)=92
      · have c1:¬ bt x (i:Int)=34:=by omega
        rw[if_pos c2,if_neg c1,if_pos c2]
        cases d with
        |zero=>rw[if_pos ae];rfl
        |succ e=>
          rw[if_neg ae,if_pos ae,if_pos ae,Gy,ax]
          by_cases c3:plB (bt x ((i+1:Nat):Int))=true
          · dsimp only
            rw[if_pos c3,if_pos c3,if_pos ae]
            exact ih e ae k _ (i+2) ae ae (by simp;omega) ae
          · dsimp only
            rw[if_neg c3,if_neg c3];rfl
      · rw[if_neg c2,if_neg c2]
        by_cases c1:bt x (i:Int)=34
        · rw[if_pos c1,if_pos c1];rfl
        · rw[if_neg c1,if_neg c1,Gy,ax]
          by_cases c3:plB (bt x (i:Int))=true
          · rw[if_pos c3,if_pos c3,if_pos ae]
            exact ih d ae k _ (i+1) ae ae (by simp;omega) ae
          · rw[if_neg c3,if_neg c3];rfl
def unq (s:af):ByteArray×Bool:=if s.size<2∨bt s 0≠34∨bt s ((s.size-1:Nat):Int)≠34 then((⟨#[]⟩:af),false) else Us (J4 (s.extract 1 (s.size-1)) (s.size-2) [] 0)
theorem afy (s:af):(unq s).1.size<=4000:=by
  unfold unq
  split
  · exact Nat.zero_le _
  · exact adO _
theorem Dc (s:af) (hs:s.size<=8000) (k:Nat) (hk:s.size+3<k):dX.f k s=some (unq s):=by
  obtain⟨k,rfl⟩:∃ m,k=m+1:=⟨k-1,by omega⟩
  unfold dX.f unq
  by_cases h1:s.size<2
  · rw[if_pos ae,if_pos (Or.inl h1)]
    simp[dX.j0]
  · have hw:wrap64 ((s.size:Int)-1)=((s.size-1:Nat):Int):=by rw[aC ae ae];omega
    rw[if_neg ae,if_pos ae,hw]
    by_cases h2:bt s 0=34
    · rw[if_pos h2,if_pos ae,if_pos ae]
      simp only[dX.j0]
      by_cases h3:bt s ((s.size-1:Nat):Int)=34
      · rw[if_neg (by simp[h3]),hw,if_pos ae,if_pos ae,if_neg (by simp[h2,h3];omega),Int.toNat_natCast]
        have hz:(s.extract 1 (s.size-1)).size=s.size-2:=by rw[size_extract];omega
        exact afw _ ae _ _ (Nat.le_refl _) k [] 0 (Nat.zero_le _) ae (Nat.le_refl _) ae
      · rw[if_pos (by simpa using h3),if_pos (Or.inr (Or.inr h3))]
    · rw[if_neg h2,if_pos (Or.inr (Or.inl h2))]
      simp[dX.j0]
theorem Mo (s:af) (hs:s.size<=8000) (k:Nat) (hk:s.size+3<k):dE.f k s=some (unq s):=by
  obtain⟨k,rfl⟩:∃ m,k=m+1:=⟨k-1,by omega⟩
  unfold dE.f unq
  by_cases h1:s.size<2
  · rw[if_pos ae,if_pos (Or.inl h1)]
    simp[dE.j0]
  · have hw:wrap64 ((s.size:Int)-1)=((s.size-1:Nat):Int):=by rw[aC ae ae];omega
    rw[if_neg ae,if_neg ae,if_pos ae,hw]
    by_cases h2:bt s 0=34
    · rw[if_pos h2,if_pos ae,if_pos ae]
      simp only[dE.j0]
      by_cases h3:bt s ((s.size-1:Nat):Int)=34
      · rw[if_neg (by simp[h3]),hw,if_pos ae,if_pos ae,if_neg (by simp[h2,h3];omega),Int.toNat_natCast]
        have hz:(s.extract 1 (s.size-1)).size=s.size-2:=by rw[size_extract];omega
        exact afx _ ae _ _ (Nat.le_refl _) k [] 0 (Nat.zero_le _) ae (Nat.le_refl _) ae
      · rw[if_pos (by simpa using h3),if_pos (Or.inr (Or.inr h3))]
    · rw[if_neg h2,if_pos (Or.inr (Or.inl h2))]
      simp[dE.j0]

theorem Iz {l:List ByteArray} {i:Nat} {y:ByteArray} {r:List ByteArray} (h:l.drop i=y::r):i<l.length/\dh ByteArray.empty l (i:Int)=y/\l.drop (i+1)=r:=by
  have hi:i<l.length:=by
    by_cases hq:i<l.length
    · exact hq
    · rw[List.drop_eq_nil_iff.mpr ae] at h;cases h
  rw[List.drop_eq_getElem_cons hi] at h
  injection h with h2 h3
  refine⟨hi,?_,h3⟩
  unfold dh
  simp only[Int.toNat_natCast,List.getD_eq_getElem?_getD,List.getElem?_eq_getElem hi,Option.getD_some]
  exact h2
theorem Zx (s:af) (m:Nat) (h:m<s.size):s.data.toList[m]? = some 61↔bt s (m:Int)=61:=by
  have hl:m<s.data.toList.length:=by rw[jd];exact h
  rw[List.getElem?_eq_getElem hl]
  unfold bt
  rw[dif_pos (show((m:Int)).toNat<s.size by simpa using h)]
  have e:s[((m:Int)).toNat]'(by simpa using h)=s.data.toList[m]:=by
    simp only[Int.toNat_natCast,Array.getElem_toList]
    rfl
  rw[e,Option.some.injEq]
  constructor
  · intro q;rw[q];rfl
  · intro q
    have q2:(s.data.toList[m]).toNat=61:=by omega
    exact UInt8.toNat_inj.mp (by simpa using q2)
theorem VL (c:UInt8):∀ l:List UInt8,(Lib.indexByte l c = -1/\∀ k:Nat,l[k]?≠some c)∨∃ o:Nat,Lib.indexByte l c=(o:Int)/\l[o]? = some c/\∀ k:Nat,k<o->l[k]?≠some c
  |[]=>.inl ⟨rfl,fun k=>by simp⟩
  |b::l=>by
    by_cases hb:b=c
    · refine .inr ⟨0,?_,?_,fun k hk=>absurd hk (Nat.not_lt_zero _)⟩
      · unfold Lib.indexByte;rw[if_pos (beq_iff_eq.mpr hb)];rfl
      · simp[hb]
    · have hb':¬ (b==c)=true:=fun h=>hb (beq_iff_eq.mp h)
      rcases VL c l with⟨h1,h2⟩|⟨o,h1,h2,h3⟩
      · refine .inl ⟨?_,fun k=>?_⟩
        · unfold Lib.indexByte;rw[if_neg hb',if_pos (beq_iff_eq.mpr h1)]
        · cases k with
          |zero=>simpa using hb
          |succ k=>simpa using h2 k
      · refine .inr ⟨o+1,?_,by simpa using h2,fun k hk=>?_⟩
        · unfold Lib.indexByte
          rw[if_neg hb',if_neg (fun h=>by have:=beq_iff_eq.mp h;omega),h1]
          omega
        · cases k with
          |zero=>simpa using hb
          |succ k=>simpa using h3 k ae
def IA (s:af):Nat->Nat->Nat
  |0,i=>i
  |d+1,i=>if bt s (i:Int)=61 then i else IA s d (i+1)
theorem J5 (s:af):∀ d i,i<=IA s d i/\IA s d i<=i+d/\(∀ m,i<=m->m<IA s d i->bt s (m:Int)≠61)/\(IA s d i<i+d->bt s ((IA s d i:Nat):Int)=61)
  |0,i=>⟨Nat.le_refl _,Nat.le_refl _,fun m h1 h2=>by simp only[IA] at h2;omega,fun h=>by simp only[IA] at h;omega⟩
  |d+1,i=>by
    simp only[IA]
    by_cases h:bt s (i:Int)=61
    · rw[if_pos h]
      exact⟨Nat.le_refl _,by omega,fun m h1 h2=>by omega,fun _=>h⟩
    · rw[if_neg h]
      obtain⟨h1,h2,h3,h4⟩:=J5 s d (i+1)
      refine⟨by omega,by omega,fun m q1 q2=>?_,fun q=>h4 ae⟩
      by_cases e:m=i
      · rw[e];exact h
      · exact h3 m ae q2
def Ae (s:af):Nat:=IA s s.size 0
theorem Zy (s:af):Ae s<=s.size:=by
  have:=(J5 s s.size 0).2.1
  unfold Ae;omega
theorem afz (s:af):Lib.indexByte s.data.toList 61=if Ae s=s.size then -1 else(Ae s:Int):=by
  obtain⟨h1,h2,h3,h4⟩:=J5 s s.size 0
  have hle:=Zy s
  change IA s s.size 0<0+s.size->_ at h4
  have hlen:s.data.toList.length=s.size:=jd s
  rcases VL 61 s.data.toList with⟨q1,q2⟩|⟨o,q1,q2,q3⟩
  · rw[q1]
    by_cases e:Ae s=s.size
    · rw[if_pos e]
    · exact absurd ((Zx s (Ae s) ae).mpr (h4 (by unfold Ae at e hle;omega))) (q2 _)
  · have ho:o<s.size:=by
      by_cases hq:o<s.size
      · exact hq
      · rw[List.getElem?_eq_none ae] at q2;cases q2
    have hb:=(Zx s o ho).mp q2
    have e1:¬ o<Ae s:=fun h=>h3 o (Nat.zero_le _) h hb
    have e2:¬ Ae s<o:=fun h=>q3 _ h ((Zx s (Ae s) ae).mpr (h4 (by unfold Ae at h;omega)))
    have e3:Ae s=o:=by omega
    rw[q1,if_neg ae,e3]
theorem FI (s:af):s.extract 0 s.size=s:=by simp
theorem adP (s:af) (hs:s.size<=140737488351232):∀(d k i:Nat),i+d=s.size->d<k->dS.l0 k s 61 (i:Int)=some (s.extract 0 (IA s d i)):=by
  intro d
  induction d with
  |zero=>
    intro k i h hk
    obtain⟨k,rfl⟩:∃ m,k=m+1:=⟨k-1,by omega⟩
    simp only[dS.l0,IA]
    rw[if_neg ae,show i=s.size by omega,FI]
  |succ d ih=>
    intro k i h hk
    obtain⟨k,rfl⟩:∃ m,k=m+1:=⟨k-1,by omega⟩
    have hw:wrap64 ((i:Int)+1)=((i+1:Nat):Int):=by rw[aC ae ae];omega
    simp only[dS.l0,IA]
    rw[if_pos ae,if_pos ae,hw]
    by_cases hb:bt s (i:Int)=61
    · rw[if_pos hb,if_pos hb,if_pos ae,Int.toNat_natCast]
    · rw[if_neg hb,if_neg hb]
      exact ih k (i+1) ae ae
def DY (w:af):ByteArray:=lG (trimS (w.extract 0 (Ae w)))
def Ao (w:af):ByteArray:=if Ae w=w.size then(⟨#[]⟩:af) else if(unq (trimS (w.extract (Ae w+1) w.size))).2=true then(unq (trimS (w.extract (Ae w+1) w.size))).1 else trimS (w.extract (Ae w+1) w.size)
theorem Ob (w:af) (hw:w.size<=4000):(Ao w).size<=4000:=by
  unfold Ao
  have h1:=sN (w.extract (Ae w+1) w.size)
  have h2:(w.extract (Ae w+1) w.size).size<=w.size:=by rw[size_extract];omega
  split
  · exact Nat.zero_le _
  · split
    · exact afy _
    · omega
theorem Mq (w:af) (hw:w.size<=4000) (k:Nat) (hk:9000<k):lN.f k w=some (DY w,Ao w):=by
  have hj:=Zy w
  have hz:(w.extract 0 (Ae w)).size=Ae w:=by rw[size_extract];omega
  have ht:=sN (w.extract 0 (Ae w))
  unfold lN.f dS.f Ao
  rw[show(0:Int)=((0:Nat):Int) from rfl,adP w ae w.size k 0 ae ae]
  simp only[ax]
  change (if((w.extract 0 (Ae w)).size:Int)=_ then _ else _)=_
  rw[hz]
  by_cases h:Ae w=w.size
  · rw[if_pos ae,if_pos h]
    change ((cu.f k (w.extract 0 (Ae w))).bind _)=_
    rw[tK _ ae k ae,ax]
    unfold il.f
    rw[if_pos ae,ax]
    rfl
  · have hv:(w.extract (Ae w+1) w.size).size<=w.size:=by rw[size_extract];omega
    have hv2:=sN (w.extract (Ae w+1) w.size)
    have hw1:wrap64 ((Ae w:Int)+1)=((Ae w+1:Nat):Int):=by rw[aC ae ae];omega
    rw[if_neg ae,if_neg h]
    change (if 0<=wrap64 (((w.extract 0 (Ae w)).size:Int)+1) then(if wrap64 (((w.extract 0 (Ae w)).size:Int)+1)<=(w.size:Int) then((cu.f k (w.extract ((wrap64 (((w.extract 0 (Ae w)).size:Int)+1)):Int).toNat w.size)).bind _) else none) else none)=_
    rw[hz,hw1,if_pos ae,if_pos ae,Int.toNat_natCast,tK _ ae k ae,ax,Mo _ ae k ae,ax]
    unfold il.f
    by_cases hu:(unq (trimS (w.extract (Ae w+1) w.size))).2=true
    · rw[if_pos hu,if_pos hu]
      change ((cu.f k (w.extract 0 (Ae w))).bind _)=_
      rw[tK _ ae k ae,ax,if_pos ae,ax]
      rfl
    · rw[if_neg hu,if_neg hu]
      change ((cu.f k (w.extract 0 (Ae w))).bind _)=_
      rw[tK _ ae k ae,ax,if_pos ae,ax]
      rfl
def um (v:af) (o:Int):Int:=if(vU v).2=true then(vU v).1 else o
theorem VM (s:af):∀ d n i,0<=n->Mm s d i=true->0<=Ur s d n i:=by
  intro d
  induction d with
  |zero=>intro n i h _;exact h
  |succ d ih=>
    intro n i h hd
    simp only[Mm,Bool.and_eq_true] at hd
    have hr:48<=bt s i/\bt s i<=57:=by simpa [dig] using hd.1
    simp only[Ur]
    exact ih _ _ ae hd.2
theorem Oc (v:af):0<=(vU v).1:=by
  unfold vU
  split
  · exact Int.le_refl _
  · split
    · rename_i h;exact VM v _ 0 0 (Int.le_refl _) h
    · exact Int.le_refl _
theorem yQ (v:af) (o:Int) (ho:0<=o):0<=um v o:=by
  unfold um
  split
  · exact Oc v
  · exact ho
theorem De (v:af) (o:Int) (hv:v.size<=4000) (k:Nat) (hk:9000<k):iA.f k v o=some (um v o):=by
  unfold iA.f um
  rw[QJ v ae k ae,ax]
  split <;> rfl
def sO (d:kF) (n v:af):kF:=
  if n.toList=([110,111,45,115,116,111,114,101]:aQ) then { d with b0:=true }
  else if n.toList=([110,111,45,99,97,99,104,101]:aQ) then { d with b1:=true }
  else if n.toList=([112,114,105,118,97,116,101]:aQ) then { d with b2:=true }
  else if n.toList=([112,117,98,108,105,99]:aQ) then { d with b3:=true }
  else if n.toList=([111,110,108,121,45,105,102,45,99,97,99,104,101,100]:aQ) then { d with b5:=true }
  else if n.toList=([109,117,115,116,45,114,101,118,97,108,105,100,97,116,101]:aQ) then { d with b4:=true }
  else if n.toList=([112,114,111,120,121,45,114,101,118,97,108,105,100,97,116,101]:aQ) then { d with b4:=true }
  else if n.toList=([109,97,120,45,97,103,101]:aQ) then { d with n6:=sG d.n6 (um v 0) }
  else if n.toList=([115,45,109,97,120,97,103,101]:aQ) then { d with n7:=sG d.n7 (um v 0) }
  else if n.toList=([109,97,120,45,115,116,97,108,101]:aQ) then { d with n8:=sG d.n8 (if v.toList=([]:aQ) then 2147483648 else um v 0) }
  else if n.toList=([109,105,110,45,102,114,101,115,104]:aQ) then { d with n9:=sG d.n9 (um v 2147483648) }
  else d
theorem VN (k:Nat) (hk:9000<k) (d:kF) (n v:af) (hv:v.size<=4000):keyed k d n v=some (sO d n v):=by
  unfold keyed sO
  rw[De v 0 hv k hk,De v 2147483648 hv k hk]
  simp only[ax]
  by_cases h0:n.toList=([110,111,45,115,116,111,114,101]:aQ)
  · rw[if_pos h0,if_pos h0]
  rw[if_neg h0,if_neg h0]
  by_cases h1:n.toList=([110,111,45,99,97,99,104,101]:aQ)
  · rw[if_pos h1,if_pos h1]
  rw[if_neg h1,if_neg h1]
  by_cases h2:n.toList=([112,114,105,118,97,116,101]:aQ)
  · rw[if_pos h2,if_pos h2]
  rw[if_neg h2,if_neg h2]
  by_cases h3:n.toList=([112,117,98,108,105,99]:aQ)
  · rw[if_pos h3,if_pos h3]
  rw[if_neg h3,if_neg h3]
  by_cases h4:n.toList=([111,110,108,121,45,105,102,45,99,97,99,104,101,100]:aQ)
  · rw[if_pos h4,if_pos h4]
  rw[if_neg h4,if_neg h4]
  by_cases h5:n.toList=([109,117,115,116,45,114,101,118,97,108,105,100,97,116,101]:aQ)
  · rw[if_pos h5,if_pos h5]
  rw[if_neg h5,if_neg h5]
  by_cases h6:n.toList=([112,114,111,120,121,45,114,101,118,97,108,105,100,97,116,101]:aQ)
  · rw[if_pos h6,if_pos h6]
  rw[if_neg h6,if_neg h6]
  by_cases h7:n.toList=([109,97,120,45,97,103,101]:aQ)
  · rw[if_pos h7,if_pos h7]
  rw[if_neg h7,if_neg h7]
  by_cases h8:n.toList=([115,45,109,97,120,97,103,101]:aQ)
  · rw[if_pos h8,if_pos h8]
  rw[if_neg h8,if_neg h8]
  by_cases h9:n.toList=([109,97,120,45,115,116,97,108,101]:aQ)
  · rw[if_pos h9,if_pos h9]
    by_cases hq:v.toList=([]:aQ)
    · rw[if_pos hq,if_pos hq]
    · rw[if_neg hq,if_neg hq]
  rw[if_neg h9,if_neg h9]
  by_cases h10:n.toList=([109,105,110,45,102,114,101,115,104]:aQ)
  · rw[if_pos h10,if_pos h10]
  rw[if_neg h10,if_neg h10]
def Bq (d:kF) (w:af):kF:=sO d (DY w) (Ao w)
theorem adQ : trimS (⟨#[]⟩:af)=(⟨#[]⟩:af):=by decide
theorem afA : unq (⟨#[]⟩:af)=((⟨#[]⟩:af),false):=by unfold unq;rw[if_pos (Or.inl aA)]
theorem Zz (d:kF) (w:af) (hw:w.size<=4000) (k:Nat) (hk:9000<k):M0 k d w=some (Bq d w):=by
  have hj:=Zy w
  have hz:(w.extract 0 (Ae w)).size=Ae w:=by rw[size_extract];omega
  have ht:=sN (w.extract 0 (Ae w))
  have hpv:=Ob w hw
  unfold M0 strings_Cut.f stringslite_Cut.f stringslite_Index.f Bq
  change (((some (Lib.indexByte w.data.toList 61)).bind _).bind _).bind _=_
  rw[afz,ax]
  by_cases h:Ae w=w.size
  · have hN:DY w=lG (trimS w):=by unfold DY;rw[h,FI]
    have hV:Ao w=(⟨#[]⟩:af):=by unfold Ao;rw[if_pos h]
    have htw:=sN w
    rw[if_pos h,if_neg aA]
    simp only[ax]
    have z0:(⟨#[]⟩:af).size=0:=rfl
    rw[rz _ (show((⟨#[]⟩:af)).size<=140737488351232 by decide) k ae,ax,adQ,Dc _ aA k ae,ax,afA,rz w ae k ae,ax]
    unfold jF.f
    rw[if_pos ae,ax]
    dsimp only
    rw[if_neg aA,VN k hk d _ _ aA,hN,hV]
  · have hv:(w.extract (Ae w+1) w.size).size<=w.size:=by rw[size_extract];omega
    have hv2:=sN (w.extract (Ae w+1) w.size)
    have hw1:wrap64 ((Ae w:Int)+(((⟨#[61]⟩:af).size:Nat):Int))=((Ae w+1:Nat):Int):=by
      rw[show(((⟨#[61]⟩:af).size:Nat):Int)=1 from rfl,aC ae ae];omega
    rw[if_neg h,hw1,if_pos ae,if_pos ae,if_pos ae,if_pos ae,if_pos ae,Int.toNat_natCast,Int.toNat_natCast]
    simp only[ax]
    rw[rz _ ae k ae,ax,Dc _ ae k ae,ax,rz _ ae k ae,ax]
    unfold jF.f
    rw[if_pos ae,ax]
    have hV:(if(unq (trimS (w.extract (Ae w+1) w.size))).2=true then(unq (trimS (w.extract (Ae w+1) w.size))).1 else trimS (w.extract (Ae w+1) w.size))=Ao w:=by unfold Ao;rw[if_neg h]
    rw[hV,VN k hk d _ _ hpv]
    rfl
theorem afB (ws:List ByteArray) (hs:∀ x∈ws,x.size<=4000) (hl:ws.length<=5000):∀(r:List ByteArray) (k i:Nat) (d:kF),ws.drop i=r->i<=ws.length->r.length+9001<k->KY k ws d (i:Int)=some (r.foldl Bq d):=by
  intro r
  induction r with
  |nil=>
    intro k i d h hil hk
    obtain⟨k,rfl⟩:∃ m,k=m+1:=⟨k-1,by omega⟩
    have hi:=List.drop_eq_nil_iff.mp h
    simp only[KY]
    rw[if_neg ae]
    rfl
  |cons w r ih=>
    intro k i d h hil hk
    obtain⟨k,rfl⟩:∃ m,k=m+1:=⟨k-1,by omega⟩
    obtain⟨hi,e1,h3⟩:=Iz h
    have hw:wrap64 ((i:Int)+1)=((i+1:Nat):Int):=by rw[aC ae ae];omega
    have hm:w∈ws:=by
      have:w∈ws.drop i:=by rw[h];exact List.mem_cons_self ..
      exact List.mem_of_mem_drop this
    simp only[List.length_cons] at hk
    simp only[KY]
    rw[if_pos ae,if_pos ae,e1,Zz d w (hs w hm) k ae,ax,hw]
    exact ih k (i+1) _ h3 ae ae
def Ap : List UInt8:=[110,111,45,99,97,99,104,101]
theorem afC (ws:List ByteArray) (hs:∀ x∈ws,x.size<=4000) (hl:ws.length<=5000):∀(r:List ByteArray) (k i:Nat) (d:kF),ws.drop i=r->i<=ws.length->r.length<k->KZ k ws d (i:Int)=some { d with b1:=d.b1||r.any fun x=>decide ((lG x).toList=Ap) }:=by
  intro r
  induction r with
  |nil=>
    intro k i d h hil hk
    obtain⟨k,rfl⟩:∃ m,k=m+1:=⟨k-1,by omega⟩
    have hi:=List.drop_eq_nil_iff.mp h
    simp only[KZ]
    rw[if_neg ae]
    simp
  |cons w r ih=>
    intro k i d h hil hk
    obtain⟨k,rfl⟩:∃ m,k=m+1:=⟨k-1,by omega⟩
    obtain⟨hi,e1,h3⟩:=Iz h
    have hw:wrap64 ((i:Int)+1)=((i+1:Nat):Int):=by rw[aC ae ae];omega
    have hm:w∈ws:=by
      have:w∈ws.drop i:=by rw[h];exact List.mem_cons_self ..
      exact List.mem_of_mem_drop this
    have hws:=hs w hm
    simp only[List.length_cons] at hk
    simp only[KZ]
    unfold jF.f
    rw[if_pos ae,if_pos ae,e1,if_pos ae,ax,hw,ih k (i+1) _ h3 ae ae]
    by_cases hf:(lG w).toList=([110,111,45,99,97,99,104,101]:aQ)
    · rw[if_pos hf]
      have:(lG w).toList=Ap:=hf
      simp[this]
    · rw[if_neg hf]
      have:¬ (lG w).toList=Ap:=hf
      simp[this]
def iN (name:List UInt8):List ByteArray->ByteArray×Bool
  |[]=>((⟨#[]⟩:af),false)
  |w::r=>if(DY w).toList=name then(Ao w,true) else iN name r
theorem K3 (name:List UInt8):∀ ws:List ByteArray,(∀ x∈ws,x.size<=4000)->(iN name ws).1.size<=4000
  |[],_=>Nat.zero_le _
  |w::r,h=>by
    simp only[iN]
    split
    · exact Ob w (h w (List.mem_cons_self ..))
    · exact K3 name r fun x hx=>h x (List.mem_cons_of_mem _ hx)
theorem ZA (ws:List ByteArray) (name:af) (hs:∀ x∈ws,x.size<=4000) (hl:ws.length<=5000):∀(r:List ByteArray) (k i:Nat),ws.drop i=r->i<=ws.length->r.length+9001<k->iD.l0 k ws name (i:Int)=some (iN name.toList r):=by
  intro r
  induction r with
  |nil=>
    intro k i h hil hk
    obtain⟨k,rfl⟩:∃ m,k=m+1:=⟨k-1,by omega⟩
    have hi:=List.drop_eq_nil_iff.mp h
    simp only[iD.l0]
    rw[if_neg ae]
    rfl
  |cons w r ih=>
    intro k i h hil hk
    obtain⟨k,rfl⟩:∃ m,k=m+1:=⟨k-1,by omega⟩
    obtain⟨hi,e1,h3⟩:=Iz h
    have hw:wrap64 ((i:Int)+1)=((i+1:Nat):Int):=by rw[aC ae ae];omega
    have hm:w∈ws:=by
      have:w∈ws.drop i:=by rw[h];exact List.mem_cons_self ..
      exact List.mem_of_mem_drop this
    simp only[List.length_cons] at hk
    simp only[iD.l0,iN]
    rw[if_pos ae,if_pos ae,e1,Mq w (hs w hm) k ae,ax,hw,ih k (i+1) h3 ae ae]
    split <;> rfl
theorem Br (ws:List ByteArray) (name:af) (hs:∀ x∈ws,x.size<=4000) (hl:ws.length<=5000) (k:Nat) (hk:15000<k):iD.f k ws name=some (iN name.toList ws):=
  ZA ws name hs hl ws k 0 rfl (Nat.zero_le _) ae
theorem Mr (ws:List ByteArray) (a:Array UInt8) (hs:∀ x∈ws,x.size<=4000) (hl:ws.length<=5000) (k:Nat) (hk:15000<k):iB.f k ws ⟨a⟩=some (iN a.toList ws).2:=by
  unfold iB.f
  rw[Br ws ⟨a⟩ hs hl k hk,ax,ByteArray.toList_eq]
def QK (ws:List ByteArray) (name:List UInt8) (a b:Int):Int:=if(iN name ws).2=true then(if(vU (iN name ws).1).2=true then(vU (iN name ws).1).1 else if(iN name ws).1.toList=([]:aQ) then a else b) else -1
theorem Od (ws:List ByteArray) (nm:Array UInt8) (a b:Int) (hs:∀ x∈ws,x.size<=4000) (hl:ws.length<=5000) (k:Nat) (hk:15000<k):iF.f k ws ⟨nm⟩ a b=some (QK ws nm.toList a b):=by
  have h1:=K3 nm.toList ws hs
  have h2:(iN (⟨nm⟩:af).data.toList ws).1.size<=4000:=h1
  unfold iF.f QK
  rw[Br ws ⟨nm⟩ hs hl k hk,ax,ByteArray.toList_eq]
  by_cases h:(iN nm.toList ws).2=true
  · rw[if_pos h,if_pos h,QI _ ae k ae,ax]
    repeat' split
    all_goals rfl
  · rw[if_neg h,if_neg h]
theorem ze (get:kF->Bool) (name:List UInt8) (h:∀ d n v,get (sO d n v)=(get d||decide (n.toList=name))):∀(ws:List ByteArray) (d:kF),get (ws.foldl Bq d)=(get d||(iN name ws).2)
  |[],d=>by simp[iN]
  |w::r,d=>by
    simp only[List.foldl_cons,iN]
    rw[ze get name h r (Bq d w)]
    unfold Bq
    rw[h]
    by_cases hq:(DY w).toList=name
    · rw[if_pos hq];simp[hq]
    · rw[if_neg hq];simp[hq]
theorem Oe (get:kF->Bool) (n1 n2:List UInt8) (h:∀ d n v,get (sO d n v)=(get d||(decide (n.toList=n1)||decide (n.toList=n2)))):∀(ws:List ByteArray) (d:kF),get (ws.foldl Bq d)=(get d||((iN n1 ws).2||(iN n2 ws).2))
  |[],d=>by simp[iN]
  |w::r,d=>by
    simp only[List.foldl_cons,iN]
    rw[Oe get n1 n2 h r (Bq d w)]
    unfold Bq
    rw[h]
    by_cases hq:(DY w).toList=n1
    · rw[if_pos hq];simp[hq]
    · rw[if_neg hq]
      by_cases hq2:(DY w).toList=n2
      · rw[if_pos hq2];simp[hq,hq2]
      · rw[if_neg hq2];simp[hq,hq2]
theorem IB (get:kF->Int) (name:List UInt8) (val:ByteArray->Int) (hv:∀ v,0<=val v) (h:∀ d n v,get (sO d n v)=if n.toList=name then sG (get d) (val v) else get d):∀(ws:List ByteArray) (d:kF),get (ws.foldl Bq d)=if get d<0 then(if(iN name ws).2=true then val (iN name ws).1 else get d) else get d:=by
  intro ws
  induction ws with
  |nil=>intro d;simp[iN]
  |cons w r ih=>
    intro d
    have h1:get (Bq d w)=if(DY w).toList=name then sG (get d) (val (Ao w)) else get d:=h d (DY w) (Ao w)
    rw[List.foldl_cons,ih (Bq d w),h1]
    simp only[iN]
    have h2:=hv (Ao w)
    generalize hm:val (Ao w)=m at h2 ⊢
    by_cases hq:(DY w).toList=name
    · rw[if_pos hq]
      simp only[if_pos hq]
      unfold sG
      by_cases hd:get d<0
      · have e1:(if get d<0 then m else get d)=m:=if_pos hd
        rw[e1,if_neg ae,if_pos hd]
        simp[hm]
      · rw[if_neg hd,if_neg hd,if_neg hd]
    · rw[if_neg hq]
      simp only[if_neg hq]
theorem kS {p:Prop} (h:p:=by
    unfold sO
    by_cases h0:n.toList=([110,111,45,115,116,111,114,101]:aQ)
    · rw[if_pos h0];simp[h0]
    rw[if_neg h0]
    by_cases h1:n.toList=([110,111,45,99,97,99,104,101]:aQ)
    · rw[if_pos h1];simp[h1]
    rw[if_neg h1]
    by_cases h2:n.toList=([112,114,105,118,97,116,101]:aQ)
    · rw[if_pos h2];simp[h2]
    rw[if_neg h2]
    by_cases h3:n.toList=([112,117,98,108,105,99]:aQ)
    · rw[if_pos h3];simp[h3]
    rw[if_neg h3]
    by_cases h4:n.toList=([111,110,108,121,45,105,102,45,99,97,99,104,101,100]:aQ)
    · rw[if_pos h4];simp[h4]
    rw[if_neg h4]
    by_cases h5:n.toList=([109,117,115,116,45,114,101,118,97,108,105,100,97,116,101]:aQ)
    · rw[if_pos h5];simp[h5]
    rw[if_neg h5]
    by_cases h6:n.toList=([112,114,111,120,121,45,114,101,118,97,108,105,100,97,116,101]:aQ)
    · rw[if_pos h6];simp[h6]
    rw[if_neg h6]
    by_cases h7:n.toList=([109,97,120,45,97,103,101]:aQ)
    · rw[if_pos h7];simp[h7]
    rw[if_neg h7]
    by_cases h8:n.toList=([115,45,109,97,120,97,103,101]:aQ)
    · rw[if_pos h8];simp[h8]
    rw[if_neg h8]
    by_cases h9:n.toList=([109,97,120,45,115,116,97,108,101]:aQ)
    · rw[if_pos h9];simp[h9]
    rw[if_neg h9]
    by_cases h10:n.toList=([109,105,110,45,102,114,101,115,104]:aQ)
    · rw[if_pos h10];simp[h10]
    rw[if_neg h10]
    simp[*]):p:=h
theorem afD (d:kF) (n v:af):(sO d n v).b0=(d.b0||decide (n.toList=([110,111,45,115,116,111,114,101]:aQ))):=kS
theorem afE (d:kF) (n v:af):(sO d n v).b1=(d.b1||decide (n.toList=([110,111,45,99,97,99,104,101]:aQ))):=kS
theorem afF (d:kF) (n v:af):(sO d n v).b2=(d.b2||decide (n.toList=([112,114,105,118,97,116,101]:aQ))):=kS
theorem afG (d:kF) (n v:af):(sO d n v).b3=(d.b3||decide (n.toList=([112,117,98,108,105,99]:aQ))):=kS
theorem afH (d:kF) (n v:af):(sO d n v).b5=(d.b5||decide (n.toList=([111,110,108,121,45,105,102,45,99,97,99,104,101,100]:aQ))):=kS
theorem afI (d:kF) (n v:af):(sO d n v).b4=(d.b4||(decide (n.toList=([109,117,115,116,45,114,101,118,97,108,105,100,97,116,101]:aQ))||decide (n.toList=([112,114,111,120,121,45,114,101,118,97,108,105,100,97,116,101]:aQ)))):=kS
theorem afJ (d:kF) (n v:af):(sO d n v).n6=if n.toList=([109,97,120,45,97,103,101]:aQ) then sG d.n6 (um v 0) else d.n6:=kS
theorem afK (d:kF) (n v:af):(sO d n v).n7=if n.toList=([115,45,109,97,120,97,103,101]:aQ) then sG d.n7 (um v 0) else d.n7:=kS
theorem afL (d:kF) (n v:af):(sO d n v).n8=if n.toList=([109,97,120,45,115,116,97,108,101]:aQ) then sG d.n8 (if v.toList=([]:aQ) then 2147483648 else um v 0) else d.n8:=kS
theorem afM (d:kF) (n v:af):(sO d n v).n9=if n.toList=([109,105,110,45,102,114,101,115,104]:aQ) then sG d.n9 (um v 2147483648) else d.n9:=kS
def DZ (ws:List ByteArray):kF:=
  ⟨(iN [110,111,45,115,116,111,114,101] ws).2,(iN [110,111,45,99,97,99,104,101] ws).2,(iN [112,114,105,118,97,116,101] ws).2,(iN [112,117,98,108,105,99] ws).2,
   (iN [109,117,115,116,45,114,101,118,97,108,105,100,97,116,101] ws).2||(iN [112,114,111,120,121,45,114,101,118,97,108,105,100,97,116,101] ws).2,(iN [111,110,108,121,45,105,102,45,99,97,99,104,101,100] ws).2,
   QK ws [109,97,120,45,97,103,101] 0 0,QK ws [115,45,109,97,120,97,103,101] 0 0,QK ws [109,97,120,45,115,116,97,108,101] 2147483648 0,QK ws [109,105,110,45,102,114,101,115,104] 2147483648 2147483648⟩
theorem Og (ws:List ByteArray) (name:List UInt8) (o:Int):(if(iN name ws).2=true then um (iN name ws).1 o else(-1:Int))=QK ws name o o:=by
  unfold QK um
  repeat' split
  all_goals rfl
theorem kF.same : ∀ x y:kF,x.b0=y.b0->x.b1=y.b1->x.b2=y.b2->x.b3=y.b3->x.b4=y.b4->x.b5=y.b5->x.n6=y.n6->x.n7=y.n7->x.n8=y.n8->x.n9=y.n9->x=y
  |⟨_,_,_,_,_,_,_,_,_,_⟩,⟨_,_,_,_,_,_,_,_,_,_⟩,rfl,rfl,rfl,rfl,rfl,rfl,rfl,rfl,rfl,rfl=>rfl
theorem adR (ws:List ByteArray) (name:List UInt8):(if(iN name ws).2=true then(if(iN name ws).1.toList=([]:aQ) then 2147483648 else um (iN name ws).1 0) else(-1:Int))=QK ws name 2147483648 0:=by
  unfold QK um vU
  by_cases q1:(iN name ws).2=true
  · rw[if_pos q1,if_pos q1]
    by_cases q2:(iN name ws).1.toList=([]:aQ)
    · simp[q2]
    · simp only[if_neg q2]
  · rw[if_neg q1,if_neg q1]
theorem Ut (v:af):0<=(if v.toList=([]:aQ) then(2147483648:Int) else um v 0):=by
  split
  · decide
  · exact yQ v 0 aA
theorem ZB (ws:List ByteArray):ws.foldl Bq D5=DZ ws:=by
  have hd:(-1:Int)<0:=by decide
  refine kF.same _ _ ?_ ?_ ?_ ?_ ?_ ?_ ?_ ?_ ?_ ?_
  · exact(ze kF.b0 _ afD ws D5).trans (Bool.false_or _)
  · exact(ze kF.b1 _ afE ws D5).trans (Bool.false_or _)
  · exact(ze kF.b2 _ afF ws D5).trans (Bool.false_or _)
  · exact(ze kF.b3 _ afG ws D5).trans (Bool.false_or _)
  · exact(Oe kF.b4 _ _ afI ws D5).trans (Bool.false_or _)
  · exact(ze kF.b5 _ afH ws D5).trans (Bool.false_or _)
  · exact((IB kF.n6 _ (fun v=>um v 0) (fun v=>yQ v 0 aA) afJ ws D5).trans (if_pos hd)).trans (Og ws _ 0)
  · exact((IB kF.n7 _ (fun v=>um v 0) (fun v=>yQ v 0 aA) afK ws D5).trans (if_pos hd)).trans (Og ws _ 0)
  · exact((IB kF.n8 _ (fun v=>if v.toList=([]:aQ) then 2147483648 else um v 0) Ut afL ws D5).trans (if_pos hd)).trans (adR ws _)
  · exact((IB kF.n9 _ (fun v=>um v 2147483648) (fun v=>yQ v _ aA) afM ws D5).trans (if_pos hd)).trans (Og ws _ 2147483648)
theorem adS (s:af) (hs:s.size<=4000):∀(n d:Nat),d<=n->∀(out:List ByteArray) (a:Nat) (q:Bool) (i:Nat),(∀ x∈out,x.size<=4000)->∀ x∈YW s d out a q i,x.size<=4000:=by
  have hadd:∀(out:List ByteArray) (a b:Nat),(∀ x∈out,x.size<=4000)->∀ x∈Ca out (trimS (s.extract a b)),x.size<=4000:=by
    intro out a b h x hx
    unfold Ca at hx
    split at hx
    · exact h x hx
    · rcases List.mem_append.mp hx with h1|h1
      · exact h x h1
      · rw[List.mem_singleton] at h1
        have h2:=sN (s.extract a b)
        have h3:(s.extract a b).size<=s.size:=by rw[size_extract];omega
        rw[h1];omega
  intro n
  induction n with
  |zero=>
    intro d hdn out a q i h
    obtain rfl:d=0:=by omega
    exact hadd out a s.size h
  |succ n ih=>
    intro d hdn out a q i h
    cases d with
    |zero=>exact hadd out a s.size h
    |succ d=>
      rw[D6]
      split
      · exact ih d ae out a (!q) (i+1) h
      · split
        · cases d with
          |zero=>exact hadd out a s.size h
          |succ e=>exact ih e ae out a q (i+2) h
        · split
          · exact ih d ae _ (i+1) q (i+1) (hadd out a i h)
          · exact ih d ae out a q (i+1) h
theorem J6 (s:af):∀ x∈qx s,x.size<=4000:=by
  unfold qx
  by_cases h:(s.size:Int)>4000
  · rw[if_pos h];intro x hx;cases hx
  · rw[if_neg h]
    exact adS s ae s.size s.size (Nat.le_refl _) [] 0 false 0 (fun x hx=>by cases hx)
theorem xI (l:List dC) (a:af):∀ x∈gF l a,x.size<=4000:=J6 _
def yC : ByteArray:=(⟨#[99,97,99,104,101,45,99,111,110,116,114,111,108]⟩:af)
def RA : ByteArray:=(⟨#[112,114,97,103,109,97]⟩:af)
def l5 (l:List dC):kF:=if(valuesOf l yC).length=0 then { DZ (gF l yC) with b1:=(DZ (gF l yC)).b1||(gF l RA).any fun x=>decide ((lG x).toList=Ap) } else DZ (gF l yC)
theorem adT (ws:List ByteArray) (hs:∀ x∈ws,x.size<=4000) (hl:ws.length<=5000) (c0 c2 c3 c4 c5:Bool) (c6 c7 c8 c9:Int):∀(r:List ByteArray) (k i:Nat) (c1:Bool),ws.drop i=r->i<=ws.length->r.length<k->bJ.l0 k ws (i:Int) c0 c1 c2 c3 c4 c5 c6 c7 c8 c9=some (c0,(c1||r.any fun x=>decide ((lG x).toList=Ap)),c2,c3,c4,c5,c6,c7,c8,c9):=by
  intro r
  induction r with
  |nil=>
    intro k i c1 h hil hk
    obtain⟨k,rfl⟩:∃ m,k=m+1:=⟨k-1,by omega⟩
    have hi:=List.drop_eq_nil_iff.mp h
    simp only[bJ.l0]
    rw[if_neg ae]
    simp
  |cons w r ih=>
    intro k i c1 h hil hk
    obtain⟨k,rfl⟩:∃ m,k=m+1:=⟨k-1,by omega⟩
    obtain⟨hi,e1,h3⟩:=Iz h
    have hw:wrap64 ((i:Int)+1)=((i+1:Nat):Int):=by rw[aC ae ae];omega
    have hm:w∈ws:=by
      have:w∈ws.drop i:=by rw[h];exact List.mem_cons_self ..
      exact List.mem_of_mem_drop this
    have hws:=hs w hm
    simp only[List.length_cons] at hk
    simp only[bJ.l0]
    rw[if_pos ae,hw]
    cases c1 with
    |true=>
      rw[if_pos rfl,ih k (i+1) true h3 ae ae]
      simp
    |false=>
      unfold il.f
      rw[if_neg aA,if_pos ae,e1,if_pos ae,ax,ih k (i+1) _ h3 ae ae]
      have e2:((lG w).toList==([110,111,45,99,97,99,104,101]:aQ))=decide ((lG w).toList=Ap):=by
        by_cases hf:(lG w).toList=([110,111,45,99,97,99,104,101]:aQ)
        · rw[beq_iff_eq.mpr hf];exact(bK hf).symm
        · rw[beq_eq_false_iff_ne.mpr hf];exact(bQ hf).symm
      rw[e2]
      simp
theorem J7 (l:List dC) (k:Nat) (hk:40000<k):bJ.f k l=some (l5 l).RB:=by
  have hc:yC.size<=140737488351232:=by decide
  have hp:RA.size<=140737488351232:=by decide
  have hs:=xI l yC
  have hl:(gF l yC).length<=5000:=by have:=vV l yC;omega
  have hs2:=xI l RA
  have hl2:(gF l RA).length<=5000:=by have:=vV l RA;omega
  obtain⟨k,rfl⟩:∃ m,k=m+1:=⟨k-1,by omega⟩
  have hg:nC.f k l yC=some (if(valuesOf l yC).length=0 then((⟨#[]⟩:af),false) else(dh ByteArray.empty (valuesOf l yC) 0,true)):=by
    unfold nC.f
    rw[zA l yC hc k ae,ax]
    by_cases h0:(valuesOf l yC).length=0
    · rw[if_pos ae,if_pos h0]
    · rw[if_neg ae,if_pos ae,if_neg h0]
  unfold bJ.f
  change ((oF.f (k+1) l yC).bind _)=_
  rw[FJ l yC hc (k+1) ae,ax]
  have hj:∀ x4,bJ.j0 (k+1) l (gF l yC) (iN [110,111,45,115,116,111,114,101] (gF l yC)).2 (iN [110,111,45,99,97,99,104,101] (gF l yC)).2 (iN [112,114,105,118,97,116,101] (gF l yC)).2 (iN [112,117,98,108,105,99] (gF l yC)).2 x4 (iN [111,110,108,121,45,105,102,45,99,97,99,104,101,100] (gF l yC)).2 0 0 0 0 =
      some (kF.RB { l5 l with b4:=x4 }):=by
    intro x4
    simp only[bJ.j0]
    simp only[Od (gF l yC) _ _ _ hs hl k ae,ax]
    change ((nC.f k l yC).bind _)=_
    rw[hg,ax]
    by_cases h0:(valuesOf l yC).length=0
    · have e:l5 l = { DZ (gF l yC) with b1:=(DZ (gF l yC)).b1||(gF l RA).any fun x=>decide ((lG x).toList=Ap) }:=if_pos h0
      rw[if_pos h0,if_neg aA,e]
      change ((oF.f k l RA).bind _)=_
      rw[FJ l RA hp k ae,ax]
      exact adT (gF l RA) hs2 hl2 _ _ _ _ _ _ _ _ _ (gF l RA) k 0 _ rfl (Nat.zero_le _) ae
    · have e:l5 l=DZ (gF l yC):=if_neg h0
      rw[if_neg h0,if_pos rfl,e]
      rfl
  have hb:(l5 l).b4=((iN [109,117,115,116,45,114,101,118,97,108,105,100,97,116,101] (gF l yC)).2||(iN [112,114,111,120,121,45,114,101,118,97,108,105,100,97,116,101] (gF l yC)).2):=by
    unfold l5
    split <;> rfl
  simp only[Mr (gF l yC) _ hs hl (k+1) ae,ax]
  by_cases hm:(iN [109,117,115,116,45,114,101,118,97,108,105,100,97,116,101] (gF l yC)).2=true
  · have e:some (kF.RB { l5 l with b4:=true })=some (l5 l).RB:=by
      have:(l5 l).b4=true:=by rw[hb,hm];rfl
      unfold kF.RB
      rw[this]
    rw[<- e]
    exact(if_pos hm).trans (hj true)
  · have e:some (kF.RB { l5 l with b4:=(iN [112,114,111,120,121,45,114,101,118,97,108,105,100,97,116,101] (gF l yC)).2 })=some (l5 l).RB:=by
      have hm':(iN [109,117,115,116,45,114,101,118,97,108,105,100,97,116,101] (gF l yC)).2=false:=by simpa using hm
      have:(l5 l).b4=(iN [112,114,111,120,121,45,114,101,118,97,108,105,100,97,116,101] (gF l yC)).2:=by rw[hb,hm',Bool.false_or]
      unfold kF.RB
      rw[this]
    rw[<- e]
    exact(if_neg hm).trans (hj _)
theorem ZC (l:List dC) (a:af) (h:gP l=false):gF l a = []:=by
  have e1:valuesOf l a = []:=by unfold valuesOf;rw[if_neg (by simp[h])]
  have e2:(⟨(joinL []).toArray⟩:af)=⟨#[]⟩:=by unfold joinL;simp[Go.Lib.join_nil]
  unfold gF joinedOf
  rw[e1,e2]
  unfold qx
  rw[if_neg aA]
  have h1:=sN ((⟨#[]⟩:af).extract 0 0)
  have h2:((⟨#[]⟩:af).extract 0 0).size=0:=by rw[size_extract];rfl
  show Ca [] (trimS ((⟨#[]⟩:af).extract 0 0)) = []
  unfold Ca
  rw[if_pos ((toList_nil _).2 ae)]
theorem J8 (l:List dC) (k:Nat) (hk:40000<k):rU.f k l=some (l5 l).RB:=by
  have hc:yC.size<=140737488351232:=by decide
  have hp:RA.size<=140737488351232:=by decide
  have hs:=xI l yC
  have hl:(gF l yC).length<=5000:=by have:=vV l yC;omega
  have hs2:=xI l RA
  have hl2:(gF l RA).length<=5000:=by have:=vV l RA;omega
  unfold rU.f
  change ((oG.f k l yC).bind _)=_
  rw[FL l yC hc k ae,ax]
  have h0:=afB (gF l yC) hs hl (gF l yC) k 0 D5 rfl (Nat.zero_le _) ae
  rw[show((0:Nat):Int)=0 from rfl] at h0
  rw[h0,ax,ZB,tF l k ae,ax]
  cases hf:gP l with
  |false=>
    have e1:valuesOf l yC = []:=by unfold valuesOf;rw[if_neg (by simp[hf])]
    rw[if_neg aA]
    unfold l5
    rw[e1,if_pos (show([]:List ByteArray).length=0 from rfl),ZC l RA hf]
    simp
  |true=>
    rw[if_pos rfl]
    unfold jM.f
    change (((gM.f k l yC).bind _).bind _)=_
    rw[vT l yC hc k ae,ax,ax]
    by_cases hv:(valuesOf l yC).length=0
    · have e:l5 l = { DZ (gF l yC) with b1:=(DZ (gF l yC)).b1||(gF l RA).any fun x=>decide ((lG x).toList=Ap) }:=if_pos hv
      rw[if_neg (by rw[decide_eq_true_iff];omega),e]
      change ((oG.f k l RA).bind _)=_
      have h1:=afC (gF l RA) hs2 hl2 (gF l RA) k 0 (DZ (gF l yC)) rfl (Nat.zero_le _) ae
      rw[show((0:Nat):Int)=0 from rfl] at h1
      rw[FL l RA hp k ae,ax,h1,ax]
    · have e:l5 l=DZ (gF l yC):=if_neg hv
      rw[if_pos (by rw[decide_eq_true_iff];omega),e]

theorem adU (a b:Int):rA.f a b=some (if a>b then a else b):=by
  unfold rA.f
  split <;> rfl
def pM : List Int:=[200,203,204,300,301,308,404,405,410,414,501]
def zF (a:Int):Bool:=decide (a∈pM)
theorem ZE (a:Int):∀(d i k:Nat),i+d=11->d<k->∃ v:Int,eB.l0 k pM a 11 (i:Int)=some v/\(0<=v↔a∈pM.drop i):=by
  intro d
  induction d with
  |zero=>
    intro i k h hk
    obtain⟨k,rfl⟩:∃ j,k=j+1:=⟨k-1,by omega⟩
    obtain rfl:i=11:=by omega
    refine⟨-1,?_,fun z=>absurd z aA,fun h=>by cases h⟩
    simp only[eB.l0]
    rw[if_neg aA]
  |succ d ih=>
    intro i k h hk
    obtain⟨k,rfl⟩:∃ j,k=j+1:=⟨k-1,by omega⟩
    have hi:i<pM.length:=by show i<11;omega
    have hd:pM.drop i=pM[i]::pM.drop (i+1):=(List.drop_eq_getElem_cons hi)
    have hv:rd pM (i:Int)=pM[i]:=by
      unfold rd
      rw[Int.toNat_natCast,List.getD_eq_getElem?_getD,List.getElem?_eq_getElem hi];rfl
    have hl:(i:Int)<(pM.length:Int):=by omega
    have hw:wrap64 ((i:Int)+1)=((i+1:Nat):Int):=by unfold wrap64;omega
    simp only[eB.l0]
    rw[if_pos ae,if_pos ae,if_pos hl,hv,hw,hd]
    by_cases e:a=pM[i]
    · rw[if_pos e];exact⟨_,rfl,fun _=>by rw[<- e];exact List.mem_cons_self ..,fun _=>by omega⟩
    · rw[if_neg e]
      obtain⟨v,h1,h2⟩:=ih (i+1) k ae ae
      refine⟨v,h1,fun z=>List.mem_cons_of_mem _ (h2.1 z),fun z=>h2.2 ?_⟩
      rcases List.mem_cons.1 z with z|z
      · exact absurd z e
      · exact z
theorem Ms (a:Int) (k:Nat) (hk:20<k):pO.f k a=some (zF a):=by
  unfold pO.f jG.f eB.f zF
  obtain⟨v,h1,h2⟩:=ZE a 11 0 k rfl ae
  rw[show eB.l0 k ([200,203,204,300,301,308,404,405,410,414,501]:List Int) a (([200,203,204,300,301,308,404,405,410,414,501]:List Int).length:Int) 0=some v from h1,ax,ax]
  congr 1
  exact decide_eq_decide.2 h2
theorem K4 (a:Int):a∈pM↔a=200∨a=203∨a=204∨a=300∨a=301∨a=308∨a=404∨a=405∨a=410∨a=414∨a=501:=by
  unfold pM
  simp only[List.mem_cons,List.not_mem_nil,or_false]
theorem Mt (a:Int):pQ.f a=some (zF a):=by
  unfold zF
  by_cases h:a∈pM
  · rw[bK h]
    rcases(K4 a).1 h with rfl|rfl|rfl|rfl|rfl|rfl|rfl|rfl|rfl|rfl|rfl <;> decide
  · rw[bQ h]
    have n:=fun z=>h ((K4 a).2 z)
    unfold pQ.f
    rw[if_neg (fun e=>n ae),if_neg (fun e=>n ae),if_neg (fun e=>n ae),if_neg (fun e=>n ae),if_neg (fun e=>n ae),if_neg (fun e=>n ae),if_neg (fun e=>n ae),if_neg (fun e=>n ae),if_neg (fun e=>n ae),if_neg (fun e=>n ae),if_neg (fun e=>n ae)]

noncomputable def afN (t2:Int) (m2:Int) (ml:List dC):Int:=
  if(l5 ml).n7>=0 then(l5 ml).n7 else if(l5 ml).n6>=0 then(l5 ml).n6
  else if hasB ml zD=true then(if(rX ml zD).2=true then mx 0 ((rX ml zD).1-xu t2 ml) else 0)
  else if(rX ml Bp).2=true then(if zF m2=true then(if(rX ml Bp).1<=xu t2 ml then mn 86400 (Int.tdiv (xu t2 ml-(rX ml Bp).1) 10) else 0) else 0) else 0
theorem VO {a b:Int} (h1:0<=a) (h2:b<=253402300799) (h3:0<=b) (h:a<=b):wrap64 (Int.tdiv (wrap64 (b-a)) 10)=Int.tdiv (b-a) 10/\0<=Int.tdiv (b-a) 10:=by
  have e:wrap64 (b-a)=b-a:=aC ae ae
  have h0:0<=Int.tdiv (b-a) 10:=Int.tdiv_nonneg ae aA
  have h5:Int.tdiv (b-a) 10=(b-a) / 10:=Int.tdiv_eq_ediv_of_nonneg ae
  rw[e]
  refine⟨aC ae ae,h0⟩
noncomputable def E8 (u:af) (t1 t2:Int) (l:List dC) (m0 m1:af) (m2:Int) (m3:af) (m4:Bool) (ml:List dC) (m6:af):Int:=if zt u t1 t2 l m0 m1 m2 m3 m4 ml m6=true then afN t2 m2 ml else -1
theorem J9 (u:af) (t1 t2:Int) (l:List dC) (m0 m1:af) (m2:Int) (m3:af) (m4:Bool) (ml:List dC) (m6:af) (hu:u.size<=1048576) (k:Nat) (hk:80000010<k):fC.f k u t1 t2 l m0 m1 m2 m3 m4 ml m6=some (E8 u t1 t2 l m0 m1 m2 m3 m4 ml m6):=by
  unfold fC.f E8
  rw[Mf _ _ _ _ _ _ _ _ _ _ _ hu k hk,ax]
  by_cases h:zt u t1 t2 l m0 m1 m2 m3 m4 ml m6=true
  case neg=>rw[if_neg h,if_neg h]
  obtain⟨h1,h2,_⟩:=KX h
  have c:=KW t2 ml h2
  have ce:=xN ml zD
  have cm:=xN ml Bp
  unfold yB at ce cm
  rw[if_pos h,if_pos h,J8 ml k ae,ax]
  unfold afN kF.RB
  dsimp only
  by_cases e1:(l5 ml).n7>=0
  · rw[if_pos e1,if_pos e1]
  rw[if_neg e1,if_neg e1]
  by_cases e2:(l5 ml).n6>=0
  · rw[if_pos e2,if_pos e2]
  rw[if_neg e2,if_neg e2,show(⟨#[101,120,112,105,114,101,115]⟩:af)=zD from rfl,Aj ml zD aA k ae,ax]
  by_cases e3:hasB ml zD=true
  · rw[if_pos e3,if_pos e3,zC ml zD aA k ae,ax]
    by_cases e4:(rX ml zD).2=true
    · rw[if_pos e4,if_pos e4,Iy _ _ _ _ _ _ _ _ _ _ _ k ae,ax,aC ae ae]
    · rw[if_neg e4,if_neg e4]
  rw[if_neg e3,if_neg e3,show(⟨#[108,97,115,116,45,109,111,100,105,102,105,101,100]⟩:af)=Bp from rfl,zC ml Bp aA k ae,ax]
  by_cases e4:(rX ml Bp).2=true
  case neg=>rw[if_neg e4,if_neg e4]
  rw[if_pos e4,if_pos e4,Ms m2 k ae,ax]
  by_cases e5:zF m2=true
  case neg=>rw[if_neg e5,if_neg e5]
  rw[if_pos e5,if_pos e5,Iy _ _ _ _ _ _ _ _ _ _ _ k ae,ax]
  by_cases e6:(rX ml Bp).1<=xu t2 ml
  case neg=>rw[if_neg e6,if_neg e6]
  rw[if_pos e6,if_pos e6,ax,(VO cm.1 c.2 c.1 e6).1]
theorem Ka (u:af) (t1 t2:Int) (l:List dC) (m0 m1:af) (m2:Int) (m3:af) (m4:Bool) (ml:List dC) (m6:af) (hu:u.size<=1048576) (k:Nat) (hk:80000020<k):dO.f k u t1 t2 l m0 m1 m2 m3 m4 ml m6=some (E8 u t1 t2 l m0 m1 m2 m3 m4 ml m6):=by
  unfold dO.f E8
  rw[Db _ _ _ _ _ _ _ _ _ _ _ hu k ae,ax]
  by_cases h:zt u t1 t2 l m0 m1 m2 m3 m4 ml m6=true
  case neg=>rw[if_neg h,if_neg h]
  obtain⟨h1,h2,_⟩:=KX h
  have c:=KW t2 ml h2
  have ce:=xN ml zD
  have cm:=xN ml Bp
  unfold yB at ce cm
  have hD:∀ k,80000010<k->jU.f k u t1 t2 l m0 m1 m2 m3 m4 ml m6=some (xu t2 ml):=by
    intro k hk
    rw[N9 _ _ _ _ _ _ _ _ _ _ _ hu k hk]
    unfold Uq
    rw[if_pos h]
  rw[if_pos h,if_pos h,J7 ml k ae,ax]
  unfold afN kF.RB
  dsimp only
  by_cases e1:(l5 ml).n7>=0
  · rw[if_pos e1,if_pos e1]
  rw[if_neg e1,if_neg e1]
  by_cases e2:(l5 ml).n6>=0
  · rw[if_pos e2,if_pos e2]
  rw[if_neg e2,if_neg e2,show(⟨#[101,120,112,105,114,101,115]⟩:af)=zD from rfl,Ry ml zD aA k ae,ax]
  dsimp only
  by_cases e3:hasB ml zD=true
  · rw[if_pos e3,if_pos e3,yl ml zD aA k ae,ax]
    by_cases e4:(rX ml zD).2=true
    · rw[if_pos e4,if_pos e4,hD k ae,ax,adU,ax,aC ae ae]
      unfold mx
      split <;> rfl
    · rw[if_neg e4,if_neg e4]
  rw[if_neg e3,if_neg e3,show(⟨#[108,97,115,116,45,109,111,100,105,102,105,101,100]⟩:af)=Bp from rfl,yl ml Bp aA k ae,ax]
  obtain⟨k,rfl⟩:∃ j,k=j+1:=⟨k-1,by omega⟩
  by_cases e4:(rX ml Bp).2=true
  case neg=>rw[if_neg e4,if_neg e4];simp only[dO.j0];rw[if_pos trivial]
  rw[if_pos e4,if_pos e4,Mt m2,ax]
  by_cases e5:zF m2=true
  case neg=>rw[if_neg e5,if_neg e5];simp only[dO.j0];rw[if_pos trivial]
  rw[if_pos e5,if_pos e5,hD (k+1) ae,ax]
  simp only[dO.j0]
  by_cases e6:(rX ml Bp).1<=xu t2 ml
  case neg=>rw[if_pos (bK ae),if_neg e6]
  rw[if_neg (by rw[bQ ae];decide),if_pos e6,hD k ae,ax,(VO cm.1 c.2 c.1 e6).1]
  unfold mn
  split <;> rfl
end Go.Proofs.YtfhllanhldbkkaaGreatDoor.P
end

section
namespace Go.Proofs.YtfhllanhldbkkaaGreatDoor.Pure
open Go.RowKit Go.Proofs.YtfhllanhldbkkaaGreatDoor.P Go.Proofs.YtfhllanhldbkkaaGreatDoorW.bf Go.Proofs.YtfhllanhldbkkaaGreatDoorW.iK Go.Proofs.YtfhllanhldbkkaaGreatDoorW.kG
set_option linter.unusedVariables false
set_option linter.unusedSimpArgs false

theorem FnExactLifetime : fU.Pure:=by
  intro a0 a1 a2 l3 a4 a5 a6 a7 a8 l9 a10 z0 w1 w2 z3 z9
  have h3:l3.length<=4398046511104:=by omega
  have h9:l9.length<=4398046511104:=by omega
  have m3:(l3.map toF).length=l3.length:=List.length_map ..
  have m9:(l9.map toF).length=l9.length:=List.length_map ..
  obtain⟨t,ht,hsmall⟩:=TQ a0 a1 a2 l3 a4 a5 a6 a7 a8 l9 a10 z0 h3 h9 (l3.length+l9.length+90000000) ae
  refine⟨l3.length+l9.length+90000000,?_⟩
  have hto:=Zn a0 a1 a2 l3 a4 a5 a6 a7 a8 l9 a10 h3 h9 (l3.length+l9.length+90000000) ae
  unfold fU.f
  rw[ht,ax]
  by_cases hn:t<0
  · rw[if_pos hn]
  · have hu:=hsmall hn
    rw[if_neg hn,hto,ax]
    dsimp only
    rw[Ka _ _ _ _ _ _ _ _ _ _ _ hu _ ae,ax,ax]
    dsimp only
    rw[J9 _ _ _ _ _ _ _ _ _ _ _ hu _ ae,ax,if_pos rfl,ax]
    dsimp only
    rw[TR _ _ _ _ _ _ _ _ _ _ _ ae ae _ ae,ax,if_pos rfl]

end Go.Proofs.YtfhllanhldbkkaaGreatDoor.Pure
end
