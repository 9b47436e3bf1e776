import Derived.Test.YtfhllanhldbkkaaGreatDoorPureAFnExactFreshAt
section
namespace Go.Proofs.YtfhllanhldbkkaaGreatDoor.P
open Go.RowKit Go.Proofs.YtfhllanhldbkkaaGreatDoorW.aW Go.Proofs.YtfhllanhldbkkaaGreatDoorW.eQ Go.Proofs.YtfhllanhldbkkaaGreatDoorW.fO
set_option linter.unusedVariables false
set_option linter.unusedSimpArgs false
set_option maxHeartbeats 2000000
theorem D7 (l:List aH) (a:af):∀(d i:Nat) (out:List ByteArray),i<=l.length->l.length-i=d->kK l a d i out=out++((l.drop i).filter (fun f=>kZ f.f0 a)).map (fun f=>f.f1):=by
  intro d
  induction d with
  |zero=>
    intro i out h0 hd
    rw[List.drop_of_length_le aa]
    simp[kK]
  |succ d ih=>
    intro i out h0 hd
    have hi:i<l.length:=by omega
    have e:bF l (i:Int)=l[i]:=by
      unfold bF
      rw[Int.toNat_natCast,List.getD_eq_getElem?_getD,List.getElem?_eq_getElem hi]
      rfl
    simp only[kK]
    rw[ih (i+1) _ aa aa,List.drop_eq_getElem_cons hi,List.filter_cons,e]
    cases hb:kZ l[i].f0 a with
    |true=>simp
    |false=>simp
theorem TW {l:List aH} (h:bZ l=true) (a:af):hasB l a=l.any (fun f=>kZ f.f0 a):=by
  unfold hasB valuesOf
  rw[if_pos h,D7 l a l.length 0 [] (Nat.zero_le _) aa]
  simp only[List.nil_append,List.length_map,List.drop_zero]
  cases ha:l.any (fun f=>kZ f.f0 a) with
  |true=>
    obtain⟨f,hf,hs⟩:=List.any_eq_true.1 ha
    exact aQ (List.length_pos_of_mem (List.mem_filter.2 ⟨hf,hs⟩))
  |false=>
    have:l.filter (fun f=>kZ f.f0 a) = []:=List.filter_eq_nil_iff.2 (fun f hf hs=>by
      have:=List.any_eq_false.1 ha f hf
      exact this hs)
    rw[this];rfl
theorem ahp (l:List aH):l.any (fun f=>frB f.f0)=(l.any (fun f=>kZ f.f0 IB)||(l.any (fun f=>kZ f.f0 IC)||l.any (fun f=>kZ f.f0 IE))):=by
  induction l with
  |nil=>rfl
  |cons f l ih=>
    simp only[List.any_cons,ih]
    have e:frB f.f0=(kZ f.f0 IB||(kZ f.f0 IC||kZ f.f0 IE)):=by
      unfold frB kZ
      rw[YK,YL,YM]
    rw[e]
    cases kZ f.f0 IB <;> cases kZ f.f0 IC <;> cases kZ f.f0 IE <;> simp
theorem Cx (l:List aH) (hok:bZ l=true):∀(d i:Nat),i<=l.length->l.length-i=d->∀ k,d<k->iZ.l0 k l (i:Int)=some ((l.drop i).any (fun f=>frB f.f0)):=by
  have hl:=eZ hok
  intro d
  induction d with
  |zero=>
    intro i h0 hd k hk
    obtain⟨k,rfl⟩:=aN k aa
    rw[List.drop_of_length_le aa]
    simp only[iZ.l0]
    rw[if_neg aa]
    rfl
  |succ d ih=>
    intro i h0 hd k hk
    obtain⟨k,rfl⟩:=aN k aa
    have hi:i<l.length:=by omega
    have hn:=qp hok i hi
    have hwi:=dR i aa
    have e:bF l (i:Int)=l[i]:=by
      unfold bF
      rw[Int.toNat_natCast,List.getD_eq_getElem?_getD,List.getElem?_eq_getElem hi]
      rfl
    rw[e] at hn
    simp only[iZ.l0]
    unfold jk.f
    rw[if_pos aa,if_pos aa,e,if_pos aa,aj,hwi,List.drop_eq_getElem_cons hi,List.any_cons]
    unfold frB
    by_cases h1:(ig l[i].f0).toList=([99,111,110,116,101,110,116,45,108,101,110,103,116,104]:aM)
    · rw[if_pos h1,h1];rfl
    · rw[if_neg h1,beq_eq_false_iff_ne.2 h1]
      by_cases h2:(ig l[i].f0).toList=([116,114,97,110,115,102,101,114,45,101,110,99,111,100,105,110,103]:aM)
      · rw[if_pos h2,h2];rfl
      · rw[if_neg h2,beq_eq_false_iff_ne.2 h2]
        by_cases h3:(ig l[i].f0).toList=([116,114,97,105,108,101,114]:aM)
        · rw[if_pos h3,h3];rfl
        · rw[if_neg h3,beq_eq_false_iff_ne.2 h3,ih (i+1) aa aa k aa]
          rfl
def Jz : List aH->Nat
  |[]=>0
  |f::l=>f.f0.size+f.f1.size+4+Jz l
def NK (m0 m1:af) (m2:Int) (m3:af):Nat:=if m0.toList=([]:aM) then 9+(iQ m2).size+1+m3.size+2 else m0.size+1+m1.size+11
def IG (m0 m1:af) (m2:Int) (m3:af) (m4:Bool) (l:List aH) (m6:af):Nat:=NK m0 m1 m2 m3+Jz l+(if oW m0 m4 m6=true then 16+(iQ (m6.size:Int)).size+2 else 0)+2
theorem Aw : ∀(l:List aH) (t:af),(tN t l).size=t.size+Jz l
  |[],t=>rfl
  |f::l,t=>by
    have h1:=Aw l (t++Ay f)
    have h2:(Ay f).size=f.f0.size+f.f1.size+4:=by
      unfold Ay
      simp only[fe]
      show f.f0.size+2+f.f1.size+2=_
      omega
    rw[fe] at h1
    show(tN (t++Ay f) l).size=t.size+(f.f0.size+f.f1.size+4+Jz l)
    omega
theorem Fe (m0 m1:af) (m2:Int) (m3:af) (m4:Bool) (l:List aH) (m6:af):(Az m0 m1 m2 m3 m4 l m6).size=IG m0 m1 m2 m3 m4 l m6:=by
  have h1:(firstT m0 m1 m2 m3).size=NK m0 m1 m2 m3:=by
    unfold firstT NK
    split
    · simp only[fe];rfl
    · simp only[fe];rfl
  have h2:(JA m6).size=16+(iQ (m6.size:Int)).size+2:=by
    unfold JA
    simp only[fe];rfl
  have h3:=Aw l ((⟨#[]⟩:af)++firstT m0 m1 m2 m3)
  rw[fe,h1] at h3
  have h4:(⟨#[]⟩:af).size=0:=rfl
  have h5:(⟨#[13,10]⟩:af).size=2:=rfl
  unfold Az IG
  simp only
  rw[fe,h5]
  split
  · rw[fe,h2];omega
  · omega
theorem xJ {l:List aH} (h:bZ l=true):∀ f∈l,f.f0.size<=40/\f.f1.size<=190:=by
  intro f hf
  have:=((AA l).1 h).2 f hf
  unfold nT at this
  simp only[Bool.and_eq_true,decide_eq_true_eq] at this
  exact⟨this.1,this.2.2.1⟩
theorem Pg : (⟨#[13,10]⟩:af).size=2:=rfl
theorem TY : (⟨#[67,111,110,116,101,110,116,45,76,101,110,103,116,104,58,32]⟩:af).size=16:=rfl
theorem YN : (⟨#[58,32]⟩:af).size=2:=rfl
theorem QI (t d:af) (ht:t.size<=2000000) (hd:d.size<=21) (o:Option ByteArray) (ho:o=some d) :
    (if t.size+16<=9223372036854775807 then(o.bind fun TZ=>(if(t++(⟨#[67,111,110,116,101,110,116,45,76,101,110,103,116,104,58,32]⟩:af)).size+TZ.size<=9223372036854775807 then(if((t++(⟨#[67,111,110,116,101,110,116,45,76,101,110,103,116,104,58,32]⟩:af))++TZ).size+2<=9223372036854775807 then(if(((t++(⟨#[67,111,110,116,101,110,116,45,76,101,110,103,116,104,58,32]⟩:af))++TZ)++(⟨#[13,10]⟩:af)).size+2<=9223372036854775807 then(some ((((t++(⟨#[67,111,110,116,101,110,116,45,76,101,110,103,116,104,58,32]⟩:af))++TZ)++(⟨#[13,10]⟩:af))++(⟨#[13,10]⟩:af))) else(none)) else(none)) else(none))) else(none))=some ((t++(((⟨#[67,111,110,116,101,110,116,45,76,101,110,103,116,104,58,32]⟩:af)++d)++(⟨#[13,10]⟩:af)))++(⟨#[13,10]⟩:af)):=by
  have e1:(t++(⟨#[67,111,110,116,101,110,116,45,76,101,110,103,116,104,58,32]⟩:af)).size=t.size+16:=by rw[fe,TY]
  have e2:((t++(⟨#[67,111,110,116,101,110,116,45,76,101,110,103,116,104,58,32]⟩:af))++d).size=t.size+16+d.size:=by rw[fe,e1]
  have e3:(((t++(⟨#[67,111,110,116,101,110,116,45,76,101,110,103,116,104,58,32]⟩:af))++d)++(⟨#[13,10]⟩:af)).size=t.size+16+d.size+2:=by rw[fe,e2,Pg]
  rw[ho,if_pos aa,aj,if_pos (by rw[e1];omega),if_pos (by rw[e2];omega),if_pos (by rw[e3];omega)]
  simp only[ByteArray.append_assoc]
theorem QJ (t:af) (ht:t.size<=2000000):(if t.size+2<=9223372036854775807 then(some (t++(⟨#[13,10]⟩:af))) else(none))=some (t++(⟨#[13,10]⟩:af)):=by
  rw[if_pos aa]
theorem NL (t a b:af) (ht:t.size<=2000000) (ha:a.size<=40) (hb:b.size<=190) :
    a.size+2<=9223372036854775807/\(a++(⟨#[58,32]⟩:af)).size+b.size<=9223372036854775807/\t.size+((a++(⟨#[58,32]⟩:af))++b).size<=9223372036854775807/\(t++((a++(⟨#[58,32]⟩:af))++b)).size+2<=9223372036854775807/\
    ((t++((a++(⟨#[58,32]⟩:af))++b))++(⟨#[13,10]⟩:af)).size=t.size+(a.size+b.size+4):=by
  have e1:(a++(⟨#[58,32]⟩:af)).size=a.size+2:=by rw[fe,YN]
  have e2:((a++(⟨#[58,32]⟩:af))++b).size=a.size+2+b.size:=by rw[fe,e1]
  have e3:(t++((a++(⟨#[58,32]⟩:af))++b)).size=t.size+(a.size+2+b.size):=by rw[fe,e2]
  have e4:((t++((a++(⟨#[58,32]⟩:af))++b))++(⟨#[13,10]⟩:af)).size=t.size+(a.size+2+b.size)+2:=by rw[fe,e3,Pg]
  rw[e1,e2,e3,e4]
  refine⟨?_,?_,?_,?_,?_⟩ <;> omega
def II (m0:af) (m4:Bool) (m6 t:af):ByteArray:=(if oW m0 m4 m6=true then t++JA m6 else t)++(⟨#[13,10]⟩:af)
theorem xK (m0 m1:af) (m2:Int) (m3:af) (m4:Bool) (l:List aH) (m6:af) (hok:bZ l=true) (h6:m6.size<=600):∀(d i:Nat),i<=l.length->l.length-i=d->∀(t:af),t.size<=1000000+300*i->
    ∀ k,d+5200<k->dD.l0 k t (i:Int) m0 m1 m2 m3 m4 l m6=some (II m0 m4 m6 (tN t (l.drop i))):=by
  have hl:=eZ hok
  have hi21:=zG (m6.size:Int) aa aa
  intro d
  induction d with
  |zero=>
    intro i h0 hd t ht k hk
    obtain⟨k,rfl⟩:=aN k aa
    have ht2:t.size<=2000000:=by omega
    have hdec:=jE (m6.size:Int) aa aa k aa
    rw[List.drop_of_length_le aa]
    have ha1:=QI t _ ht2 hi21 _ hdec
    have hb1:=QJ t ht2
    clear ht hk hdec ht2
    simp only[dD.l0]
    rw[if_neg aa]
    unfold II
    rw[show tN t []=t from rfl]
    by_cases e0:m0.toList=([]:aM)
    · rw[if_pos e0]
      cases m4 with
      |true=>
        rw[if_pos rfl,if_neg (show ¬ oW m0 true m6=true by unfold oW;rw[if_pos e0];decide)]
        exact hb1
      |false=>
        rw[if_neg av,if_pos (show oW m0 false m6=true by unfold oW;rw[if_pos e0];rfl)]
        exact ha1
    · rw[if_neg e0]
      by_cases e6:m6.toList=([]:aM)
      · rw[if_pos e6,if_neg (show ¬ oW m0 m4 m6=true by unfold oW;rw[if_neg e0,e6];decide)]
        exact hb1
      · rw[if_neg e6,if_pos (show oW m0 m4 m6=true by unfold oW;rw[if_neg e0];exact bne_iff_ne.2 e6)]
        exact ha1
  |succ d ih=>
    intro i h0 hd t ht k hk
    obtain⟨k,rfl⟩:=aN k aa
    have hi:i<l.length:=by omega
    have hwi:=dR i aa
    have e:bF l (i:Int)=l[i]:=by
      unfold bF
      rw[Int.toNat_natCast,List.getD_eq_getElem?_getD,List.getElem?_eq_getElem hi]
      rfl
    have hf:=((AA l).1 hok).2 l[i] (List.getElem_mem hi)
    have hs:=xJ hok l[i] (List.getElem_mem hi)
    obtain⟨q1,q2,q3,q4,q5⟩:=NL t l[i].f0 l[i].f1 aa hs.1 hs.2
    have hft:nU.f k l[i].f0 l[i].f1=some ((l[i].f0++(⟨#[58,32]⟩:af))++l[i].f1):=by
      unfold nU.f
      rw[xe _ _ k aa,aj,if_pos hf,if_pos q1,if_pos q2]
    have hih:=ih (i+1) aa aa (((t++((l[i].f0++(⟨#[58,32]⟩:af))++l[i].f1))++(⟨#[13,10]⟩:af))) (by rw[q5];omega) k aa
    clear ht hk ih
    simp only[dD.l0]
    rw[if_pos aa,if_pos aa,e,hft,aj,if_pos q3,if_pos q4,hwi,hih,List.drop_eq_getElem_cons hi]
    show some (II m0 m4 m6 (tN _ (l.drop (i+1))))=some (II m0 m4 m6 (tN (t++Ay l[i]) (l.drop (i+1))))
    unfold Ay
    simp only[ByteArray.append_assoc]
theorem Hd (m0 m1:af) (m2:Int) (m3:af) (m4:Bool) (l:List aH) (m6:af) (hok:bZ l=true) (h6:m6.size<=600) (h0:m0.size<=20) (h1:m1.size<=200) (h2:0<=m2/\m2<=599) (h3:m3.size<=40) (k:Nat) (hk:6000<k) :
    dD.f k m0 m1 m2 m3 m4 l m6=some (Az m0 m1 m2 m3 m4 l m6):=by
  have hi21:=zG m2 h2.1 aa
  have c1:(⟨#[32]⟩:af).size=1:=rfl
  have c2:(⟨#[13,10]⟩:af).size=2:=rfl
  have c9:(⟨#[72,84,84,80,47,49,46,49,32]⟩:af).size=9:=rfl
  have c11:(⟨#[32,72,84,84,80,47,49,46,49,13,10]⟩:af).size=11:=rfl
  obtain⟨k,rfl⟩:=aN k aa
  unfold dD.f Az firstT
  rw[if_pos aa,if_pos (by rw[fe,c1];omega),if_pos (by simp only[fe,c1];omega)]
  by_cases e0:m0.toList=([]:aM)
  · rw[if_pos e0,if_pos e0,jE m2 h2.1 aa (k+1) aa,aj,if_pos aa,if_pos (by simp only[fe,c9];omega),if_pos (by simp only[fe,c9,c1];omega),if_pos (by simp only[fe,c9,c1];omega)]
    simp only[dD.j0]
    refine Eq.trans (xK m0 m1 m2 m3 m4 l m6 hok h6 l.length 0 (Nat.zero_le _) aa (((((⟨#[72,84,84,80,47,49,46,49,32]⟩:af)++iQ m2)++(⟨#[32]⟩:af))++m3)++(⟨#[13,10]⟩:af)) (by simp only[fe,c9,c1,c2];omega) k (by have:=eZ hok;omega)) ?_
    rw[List.drop_zero]
    simp only[II,ByteArray.append_assoc,ByteArray.empty_append]
    rfl
  · rw[if_neg e0,if_neg e0]
    simp only[dD.j0]
    refine Eq.trans (xK m0 m1 m2 m3 m4 l m6 hok h6 l.length 0 (Nat.zero_le _) aa (((m0++(⟨#[32]⟩:af))++m1)++(⟨#[32,72,84,84,80,47,49,46,49,13,10]⟩:af)) (by simp only[fe,c1,c11];omega) k (by have:=eZ hok;omega)) ?_
    rw[List.drop_zero]
    simp only[II,ByteArray.append_assoc,ByteArray.empty_append]
    rfl
theorem AB (m0 m1:af) (m2:Int) (m3:af) (m4:Bool) (l:List aH) (m6:af) (hok:bZ l=true) (h6:m6.size<=600) (h0:m0.size<=20) (h1:m1.size<=200) (h2:0<=m2/\m2<=599) (h3:m3.size<=40) (k:Nat) (hk:6000<k) :
    ∃ r:ByteArray,dD.f k m0 m1 m2 m3 m4 l m6=some r/\r.size=IG m0 m1 m2 m3 m4 l m6:=
  ⟨_,Hd m0 m1 m2 m3 m4 l m6 hok h6 h0 h1 h2 h3 k hk,Fe ..⟩
theorem He (m0 m1:af) (m2:Int) (m3:af) (m4:Bool) (l:List aH) (m6:af) (hok:bZ l=true) (h6:m6.size<=600) (h0:m0.size<=20) (h1:m1.size<=200) (h2:0<=m2/\m2<=599) (h3:m3.size<=40) :
    iq.f m0 m1 m2 m3 m4 l m6=some (Az m0 m1 m2 m3 m4 l m6):=by
  have hl:=eZ hok
  have hs:=xJ hok
  unfold iq.f
  rw[if_pos]
  exact⟨by omega,by omega,⟨h2.1,by omega⟩,by omega,by omega,by omega,fun f hf=>⟨by have:=(hs f hf).1;omega,by have:=(hs f hf).2;omega⟩⟩
theorem AJ (m0 m1:af) (m2:Int) (m3:af) (m4:Bool) (l:List aH) (m6:af) (hok:bZ l=true) (h6:m6.size<=600) (h0:m0.size<=20) (h1:m1.size<=200) (h2:0<=m2/\m2<=599) (h3:m3.size<=40) :
    ∃ r:ByteArray,iq.f m0 m1 m2 m3 m4 l m6=some r/\r.size=IG m0 m1 m2 m3 m4 l m6:=
  ⟨_,He m0 m1 m2 m3 m4 l m6 hok h6 h0 h1 h2 h3,Fe ..⟩

def wH (m1:af) (m2:Int) (m3:af) (m4:Bool) (m6:af):Bool:=
  decide (m1.toList=([]:aM))&&(decide (200<=m2/\m2<=599)&&(decide (m3.size<=40)&&(uY m3&&(if m4=true then decide (m6.toList=([]:aM)) else !(m2==204||m2==304)))))
def sJ (m0 m1:af) (m2:Int) (m3:af) (m4:Bool):Bool:=YO m0 m1&&(decide (m2=0)&&(decide (m3.toList=([]:aM)) && !m4))
def zH (m0 m1:af) (m2:Int) (m3:af) (m4:Bool) (l:List aH) (m6:af):Bool:=
  bZ l&&(decide (l.length<20)&&(!(l.any fun f=>frB f.f0)&&(decide (m6.size<=600)&&((if m0.toList=([]:aM) then wH m1 m2 m3 m4 m6 else sJ m0 m1 m2 m3 m4)&&decide (IG m0 m1 m2 m3 m4 l m6<=1500)))))
theorem bare_eq (n:Int):kL.f n=some (n==204||n==304):=by
  unfold kL.f
  by_cases h:n=204
  · rw[if_pos h,h];rfl
  · rw[if_neg h,beq_eq_false_iff_ne.2 h,Bool.false_or]
theorem JB (n:Int):wm.f n=some (n==204||n==304):=bare_eq n
theorem qc {s:ByteArray} (h:s.toList=([]:aM)):s.size=0:=(toList_nil s).1 h
theorem Ff (m0 m1:af) (m2:Int) (m3:af) (m4:Bool) (l:List aH) (m6:af) (k:Nat) (hk:5500<k):oP.f k m0 m1 m2 m3 m4 l m6=some (wH m1 m2 m3 m4 m6):=by
  unfold oP.f wH
  by_cases h1:m1.toList=([]:aM)
  · rw[if_pos h1,aQ h1,Bool.true_and]
    by_cases h2:m2<200
    · rw[if_pos h2,aT aa,Bool.false_and]
    · rw[if_neg h2]
      by_cases h2':m2>599
      · rw[if_pos h2',aT aa,Bool.false_and]
      · rw[if_neg h2',aQ aa,Bool.true_and]
        by_cases h3:m3.size<=40
        · rw[if_neg aa,aQ h3,Bool.true_and,yR m3 aa k aa,aj]
          by_cases h4:uY m3=true
          · rw[if_pos h4,h4,Bool.true_and]
            cases m4 with
            |true=>
              rw[if_pos rfl,if_pos rfl]
              split
              · rename_i h;rw[aQ h]
              · rename_i h;rw[aT h]
            |false=>rw[if_neg av,if_neg av,JB,aj]
          · rw[if_neg h4];simp[h4]
        · rw[if_pos aa,aT h3,Bool.false_and]
  · rw[if_neg h1,aT h1,Bool.false_and]
theorem Cy (m0 m1:af) (m2:Int) (m3:af) (m4:Bool) (l:List aH) (m6:af) (k:Nat) (hk:5500<k):nV.f k m0 m1 m2 m3 m4 l m6=some (sJ m0 m1 m2 m3 m4):=by
  unfold nV.f sJ YO
  by_cases h1:m0.size<=20
  · rw[if_pos aa,aQ h1,Bool.true_and,yS m0 k aa,aj]
    by_cases h2:Hf m0=true
    · rw[if_pos h2,h2,Bool.true_and]
      by_cases h3:m1.size<=200
      · rw[if_pos aa,aQ h3,Bool.true_and,oo m1 aa k aa,aj]
        by_cases h4:(decide (0<m1.size)&&qY m1)=true
        · rw[if_pos h4,h4,Bool.true_and]
          by_cases h5:m2=0
          · rw[if_pos h5,aQ h5,Bool.true_and]
            by_cases h6:m3.toList=([]:aM)
            · rw[if_pos h6,aQ h6,Bool.true_and]
            · rw[if_neg h6,aT h6,Bool.false_and]
          · rw[if_neg h5,aT h5,Bool.false_and]
        · rw[if_neg h4]
          have:(decide (0<m1.size)&&qY m1)=false:=by simpa using h4
          rw[this,Bool.false_and]
      · rw[if_neg aa,aT h3,Bool.false_and,Bool.false_and]
    · rw[if_neg h2];simp[h2]
  · rw[if_neg aa,aT h1,Bool.false_and,Bool.false_and]
theorem JC {m1:ByteArray} {m2:Int} {m3:ByteArray} {m4:Bool} {m6:ByteArray} (h:wH m1 m2 m3 m4 m6=true):m1.size=0/\200<=m2/\m2<=599/\m3.size<=40:=by
  unfold wH at h
  simp only[Bool.and_eq_true,decide_eq_true_eq] at h
  exact⟨qc h.1,h.2.1.1,h.2.1.2,h.2.2.1⟩
theorem Hg {m0 m1:ByteArray} {m2:Int} {m3:ByteArray} {m4:Bool} (h:sJ m0 m1 m2 m3 m4=true):m0.size<=20/\m1.size<=200/\m2=0/\m3.size=0:=by
  unfold sJ YO at h
  simp only[Bool.and_eq_true,decide_eq_true_eq] at h
  exact⟨h.1.1,h.1.2.2.1,h.2.1,qc h.2.2.1⟩
theorem Hl (m0 m1:af) (m2:Int) (m3:af) (m4:Bool) (l:List aH) (m6:af) (k:Nat) (hk:7000<k):jR.f k m0 m1 m2 m3 m4 l m6=some (zH m0 m1 m2 m3 m4 l m6):=by
  obtain⟨k,rfl⟩:=aN k aa
  have no:jR.j0 (k+1) true m0 m1 m2 m3 m4 l m6=some false:=by simp only[jR.j0];rfl
  unfold jR.f zH
  rw[qd l (k+1) aa,aj]
  by_cases hf:bZ l=true
  case neg=>rw[if_neg hf,no];simp[hf]
  have hl:=eZ hf
  rw[if_pos hf,hf,Bool.true_and]
  by_cases h20:l.length=20
  · rw[if_pos aa,no,aT aa,Bool.false_and]
  rw[if_neg aa,show decide (l.length<20)=true from aQ aa,Bool.true_and]
  unfold iZ.f
  have hfr:=Cx l hf l.length 0 (Nat.zero_le _) aa (k+1) aa
  rw[List.drop_zero] at hfr
  rw[show((0:Nat):Int)=0 from rfl] at hfr
  rw[hfr,aj]
  cases hb:l.any (fun f=>frB f.f0) with
  |true=>rw[if_pos rfl,no];rfl
  |false=>
    rw[if_neg av]
    simp only[Bool.not_false,Bool.true_and]
    by_cases h6:m6.size<=600
    case neg=>rw[show decide ((m6.size:Int)>600)=true from aQ aa,no,aT h6,Bool.false_and]
    rw[show decide ((m6.size:Int)>600)=false from aT aa,aQ h6,Bool.true_and]
    simp only[jR.j0]
    rw[if_neg av]
    by_cases e0:m0.toList=([]:aM)
    · rw[if_pos e0,if_pos e0,Ff m0 m1 m2 m3 m4 l m6 k aa,aj]
      cases ha:wH m1 m2 m3 m4 m6 with
      |false=>rw[if_neg av,Bool.false_and]
      |true=>
        obtain⟨s1,s2,s3,s4⟩:=JC ha
        have s0:=qc e0
        obtain⟨r,hr1,hr2⟩:=AB m0 m1 m2 m3 m4 l m6 hf h6 aa aa ⟨by omega,s3⟩ s4 k aa
        rw[if_pos rfl,hr1,aj,Bool.true_and]
        congr 1
        exact decide_eq_decide.2 aa
    · rw[if_neg e0,if_neg e0,Cy m0 m1 m2 m3 m4 l m6 k aa,aj]
      cases ha:sJ m0 m1 m2 m3 m4 with
      |false=>rw[if_neg av,Bool.false_and]
      |true=>
        obtain⟨s1,s2,s3,s4⟩:=Hg ha
        obtain⟨r,hr1,hr2⟩:=AB m0 m1 m2 m3 m4 l m6 hf h6 s1 s2 ⟨by omega,by omega⟩ aa k aa
        rw[if_pos rfl,hr1,aj,Bool.true_and]
        congr 1
        exact decide_eq_decide.2 aa
theorem Hm (m0 m1:af) (m2:Int) (m3:af) (m4:Bool) (l:List aH) (m6:af) (k:Nat) (hk:7000<k):dA.f k m0 m1 m2 m3 m4 l m6=some (zH m0 m1 m2 m3 m4 l m6):=by
  obtain⟨k,rfl⟩:∃ q,k=q+5:=⟨k-5,by omega⟩
  have no:dA.j0 (k+5) true m0 m1 m2 m3 m4 l m6=some false:=by simp only[dA.j0];rfl
  unfold dA.f zH
  rw[ni l (k+5) aa,aj]
  by_cases hf:bZ l=true
  case neg=>rw[if_neg hf,no];simp[hf]
  have hl:=eZ hf
  rw[if_pos hf,hf,Bool.true_and]
  by_cases h20:l.length=20
  · rw[if_pos aa,no,aT aa,Bool.false_and]
  rw[if_neg aa,show decide (l.length<20)=true from aQ aa,Bool.true_and]
  by_cases h6:m6.size<=600
  case neg=>
    rw[show decide ((m6.size:Int)>600)=true from aQ aa,no,aT h6,Bool.false_and,Bool.and_false]
  rw[show decide ((m6.size:Int)>600)=false from aT aa,aQ h6,Bool.true_and]
  simp only[dA.j0]
  rw[if_neg av]
  unfold uh.f
  rw[aj]
  have w0:wrap64 (0+1)=1:=by unfold wrap64;omega
  have w1:wrap64 (1+1)=2:=by unfold wrap64;omega
  have w2:wrap64 (2+1)=3:=by unfold wrap64;omega
  have hl3:(([IB,IC,IE]:List ByteArray).length:Int)=3:=rfl
  have r0:ed ByteArray.empty [IB,IC,IE] 0=IB:=rfl
  have r1:ed ByteArray.empty [IB,IC,IE] 1=IC:=rfl
  have r2:ed ByteArray.empty [IB,IC,IE] 2=IE:=rfl
  have a1:=ui l IB av (k+3) aa
  have a2:=ui l IC av (k+2) aa
  have a3:=ui l IE av (k+1) aa
  rw[TW hf] at a1 a2 a3
  show dA.l0 (k+4) [IB,IC,IE] (([IB,IC,IE]:List ByteArray).length:Int) 0 m0 m1 m2 m3 m4 l m6=_
  rw[ahp l,hl3]
  have s0:dA.l0 (k+4) [IB,IC,IE] 3 0 m0 m1 m2 m3 m4 l m6=if l.any (fun f=>kZ f.f0 IB)=true then some false else dA.l0 (k+3) [IB,IC,IE] 3 1 m0 m1 m2 m3 m4 l m6:=by
    rw[dA.l0,if_pos av,if_pos av,if_pos (by rw[hl3];decide),r0,a1,aj,w0]
  have s1:dA.l0 (k+3) [IB,IC,IE] 3 1 m0 m1 m2 m3 m4 l m6=if l.any (fun f=>kZ f.f0 IC)=true then some false else dA.l0 (k+2) [IB,IC,IE] 3 2 m0 m1 m2 m3 m4 l m6:=by
    rw[dA.l0,if_pos av,if_pos av,if_pos (by rw[hl3];decide),r1,a2,aj,w1]
  have s2:dA.l0 (k+2) [IB,IC,IE] 3 2 m0 m1 m2 m3 m4 l m6=if l.any (fun f=>kZ f.f0 IE)=true then some false else dA.l0 (k+1) [IB,IC,IE] 3 3 m0 m1 m2 m3 m4 l m6:=by
    rw[dA.l0,if_pos av,if_pos av,if_pos (by rw[hl3];decide),r2,a3,aj,w2]
  rw[s0,s1,s2]
  cases l.any (fun f=>kZ f.f0 IB) with
  |true=>rfl
  |false=>
  rw[if_neg av]
  cases l.any (fun f=>kZ f.f0 IC) with
  |true=>rfl
  |false=>
  rw[if_neg av]
  cases l.any (fun f=>kZ f.f0 IE) with
  |true=>rfl
  |false=>
  rw[if_neg av]
  simp only[Bool.or_self,Bool.not_false,Bool.true_and]
  rw[dA.l0,if_neg av]
  by_cases e0:m0.toList=([]:aM)
  · rw[if_pos e0,if_pos e0]
    unfold wH
    by_cases h1:m1.toList=([]:aM)
    case neg=>rw[if_neg h1,aT h1,Bool.false_and,Bool.false_and]
    rw[if_pos h1,aQ h1,Bool.true_and]
    unfold rW.f
    rw[pV,aj,aj]
    by_cases h2:200<=m2/\m2<=599
    case neg=>rw[if_neg (by rw[aT h2];decide),aT h2,Bool.false_and,Bool.false_and]
    rw[if_pos (aQ h2),aQ h2,Bool.true_and]
    unfold rX.f
    by_cases h3:m3.size<=40
    case neg=>rw[if_neg aa,aj,if_neg av,aT h3,Bool.false_and,Bool.false_and]
    rw[if_pos aa,aQ h3,Bool.true_and,yT m3 aa k aa]
    simp only[aj]
    have s0:=qc e0
    have s1:=qc h1
    obtain⟨r,hr1,hr2⟩:=AJ m0 m1 m2 m3 m4 l m6 hf h6 aa aa ⟨by omega,h2.2⟩ h3
    have hd:decide ((r.size:Int)<=1500)=decide (IG m0 m1 m2 m3 m4 l m6<=1500):=decide_eq_decide.2 aa
    rw[bare_eq,hr1]
    simp only[aj]
    rw[hd]
    cases uY m3 <;> cases m4 <;> cases(m2==204||m2==304) <;> by_cases h6e:m6.toList=([]:aM) <;> simp[h6e]
  · rw[if_neg e0,if_neg e0]
    unfold sJ YO rY.f
    rw[yU m0 k aa,aj]
    by_cases t1:Hf m0=true
    case neg=>rw[if_neg t1,aj,if_neg av];simp[t1]
    rw[if_pos t1,aj,t1,Bool.true_and]
    by_cases h1:m0.size<=20
    case neg=>rw[if_neg (by rw[aT aa];decide),aT h1];simp
    rw[if_pos (aQ aa),aQ h1,Bool.true_and]
    unfold rZ.f
    rw[pV,aj]
    by_cases h3:0<m1.size/\m1.size<=200
    case neg=>
      rw[if_neg (by rw[aT aa];decide),aj,if_neg av]
      by_cases h4:m1.size<=200
      · rw[aT (show ¬ 0<m1.size by omega)];simp
      · rw[aT h4];simp
    rw[if_pos (aQ aa),aQ h3.2,aQ h3.1,oq m1 aa k aa]
    simp only[aj,Bool.true_and]
    by_cases hv:qY m1=true
    case neg=>rw[if_neg hv];simp[hv]
    rw[if_pos hv,hv,Bool.true_and]
    by_cases h5:m2=0
    case neg=>rw[if_neg h5];simp[h5]
    rw[if_pos h5,aQ h5,Bool.true_and]
    by_cases h7:m3.toList=([]:aM)
    case neg=>rw[if_neg h7];simp[h7]
    rw[if_pos h7,aQ h7,Bool.true_and]
    cases m4 with
    |true=>rw[if_pos rfl];rfl
    |false=>
      rw[if_neg av]
      obtain⟨r,hr1,hr2⟩:=AJ m0 m1 m2 m3 false l m6 hf h6 h1 h3.2 ⟨by omega,by omega⟩ (by rw[qc h7];omega)
      rw[hr1,aj]
      simp only[Bool.not_false,Bool.true_and]
      congr 1
      exact decide_eq_decide.2 aa

abbrev lU := ET
def toF (x:lU):aH:=⟨x.f0,x.f1⟩
theorem NM (l:List lU) (hl:l.length<=4398046511104):∀(d k i:Nat) (out:List aH),out.length=l.length->i<=l.length->l.length-i=d->(∀ j,j<i->out[j]? = (l.map toF)[j]?)->d<k->
    fC.l0 k l out (i:Int)=some (l.map toF):=by
  intro d
  induction d with
  |zero=>
    intro k i out ho h1 hd hj hk
    obtain⟨k,rfl⟩:∃ m,k=m+1:=⟨k-1,by omega⟩
    simp only[fC.l0]
    rw[if_neg aa]
    congr 1
    apply List.ext_getElem?
    intro j
    by_cases h:j<l.length
    · exact hj j aa
    · rw[List.getElem?_eq_none aa,List.getElem?_eq_none (by simp;omega)]
  |succ d ih=>
    intro k i out ho h1 hd hj hk
    obtain⟨k,rfl⟩:∃ m,k=m+1:=⟨k-1,by omega⟩
    have hw:wrap64 ((i:Int)+1)=((i+1:Nat):Int):=by rw[ak aa aa];omega
    simp only[fC.l0]
    unfold rF.f
    rw[if_pos aa,if_pos aa,aj,if_pos aa,hw,Int.toNat_natCast]
    refine ih k (i+1) _ (by rw[List.length_set];exact ho) aa aa (fun j hji=>?_) aa
    rw[List.getElem?_set]
    by_cases e:i=j
    · subst e
      rw[if_pos rfl,if_pos aa,List.getElem?_map]
      unfold Ap
      rw[Int.toNat_natCast,List.getD_eq_getElem?_getD,List.getElem?_eq_getElem aa]
      rfl
    · rw[if_neg e]
      exact hj j aa
theorem Dm (l:List lU) (hl:l.length<=4398046511104) (k:Nat) (hk:l.length<k):fC.f k l=some (l.map toF):=by
  unfold fC.f
  rw[if_pos aa,if_pos aa]
  exact NM l hl l.length k 0 _ (by simp) (Nat.zero_le _) aa (fun j hj=>by omega) hk
theorem JD (a b:af) (n:Int):∃ t,qw.f a b n=some t:=by
  unfold qw.f
  split
  · exact⟨_,rfl⟩
  · split <;> exact⟨_,rfl⟩
theorem NN (l:List lU) (hl:l.length<=4398046511104):∀(d k:Nat) (n i:Int),0<=i->(l.length:Int)-i=d->d<k->∃ t,gQ.l0 k l n i=some t:=by
  intro d
  induction d with
  |zero=>
    intro k n i h0 hd hk
    obtain⟨k,rfl⟩:∃ m,k=m+1:=⟨k-1,by omega⟩
    simp only[gQ.l0]
    rw[if_neg aa]
    exact⟨_,rfl⟩
  |succ d ih=>
    intro k n i h0 hd hk
    obtain⟨k,rfl⟩:∃ m,k=m+1:=⟨k-1,by omega⟩
    simp only[gQ.l0]
    obtain⟨t,ht⟩:=JD (Ap l i).f0 (Ap l i).f1 n
    rw[if_pos aa,if_pos h0,ht,aj]
    by_cases h:t<0
    · rw[if_pos h];exact⟨_,rfl⟩
    · rw[if_neg h,ak (x:=i+1) aa aa]
      exact ih k t (i+1) aa aa aa
theorem yV (l:List lU) (hl:l.length<=4398046511104) (n:Int) (k:Nat) (hk:l.length<k):∃ t,gQ.f k l n=some t:=by
  unfold gQ.f
  split
  · exact⟨_,rfl⟩
  · exact NN l hl l.length k _ 0 aa aa hk

def nG (t:Int):Bool:=decide (0<=t/\t<=253402300799)
theorem nk (t:Int):lq.f t=some (nG t):=by
  unfold lq.f nG
  by_cases h:t>=0
  · rw[if_pos h];congr 1;exact decide_eq_decide.2 aa
  · rw[if_neg h,aT aa]
theorem lI (t:Int):iT.f t=some (nG t):=by
  unfold iT.f nG
  rw[pV]
  rfl
def nI (u:af) (t1 t2:Int) (l:List aH) (m0 m1:af) (m2:Int) (m3:af) (m4:Bool) (ml:List aH) (m6:af):Bool:=
  zI u&&(nG t1&&(nG t2&&(decide (t1<=t2)&&(bZ l&&(zH m0 m1 m2 m3 m4 ml m6&&(decide (m0.toList=([]:aM)) && !m4))))))
theorem ou (u:af) (t1 t2:Int) (l:List aH) (m0 m1:af) (m2:Int) (m3:af) (m4:Bool) (ml:List aH) (m6:af) (hu:u.size<=1048576) (k:Nat) (hk:80000010<k) :
    kg.f k u t1 t2 l m0 m1 m2 m3 m4 ml m6=some (nI u t1 t2 l m0 m1 m2 m3 m4 ml m6):=by
  unfold kg.f nI
  rw[Hq u hu k hk,aj]
  cases zI u with
  |false=>rfl
  |true=>
    rw[if_pos rfl,Bool.true_and,nk,aj]
    cases nG t1 with
    |false=>rfl
    |true=>
      rw[if_pos rfl,Bool.true_and,nk,aj]
      cases nG t2 with
      |false=>rfl
      |true=>
        rw[if_pos rfl,Bool.true_and]
        by_cases c:t1<=t2
        case neg=>rw[if_neg c,aT c,Bool.false_and]
        rw[if_pos c,aQ c,Bool.true_and,qd l k aa,aj]
        cases bZ l with
        |false=>rfl
        |true=>
          rw[if_pos rfl,Bool.true_and,Hl m0 m1 m2 m3 m4 ml m6 k aa,aj]
          cases zH m0 m1 m2 m3 m4 ml m6 with
          |false=>rfl
          |true=>
            rw[if_pos rfl,Bool.true_and]
            by_cases d:m0.toList=([]:aM)
            · rw[if_pos d,aQ d,Bool.true_and]
            · rw[if_neg d,aT d,Bool.false_and]
theorem xg (u:af) (t1 t2:Int) (l:List aH) (m0 m1:af) (m2:Int) (m3:af) (m4:Bool) (ml:List aH) (m6:af) (hu:u.size<=1048576) (k:Nat) (hk:80000010<k) :
    lv.f k u t1 t2 l m0 m1 m2 m3 m4 ml m6=some (nI u t1 t2 l m0 m1 m2 m3 m4 ml m6):=by
  unfold lv.f nI
  rw[Hr u hu k hk,aj]
  cases zI u with
  |false=>rfl
  |true=>
    rw[if_pos rfl,Bool.true_and,lI,aj]
    cases nG t1 with
    |false=>rfl
    |true=>
      rw[if_pos rfl,Bool.true_and,lI,aj]
      cases nG t2 with
      |false=>rfl
      |true=>
        rw[if_pos rfl,Bool.true_and]
        by_cases c:t1<=t2
        case neg=>rw[if_neg c,aT c,Bool.false_and]
        rw[if_pos c,aQ c,Bool.true_and,ni l k aa,aj]
        cases bZ l with
        |false=>rfl
        |true=>
          rw[if_pos rfl,Bool.true_and,Hm m0 m1 m2 m3 m4 ml m6 k aa,aj]
          cases zH m0 m1 m2 m3 m4 ml m6 with
          |false=>rfl
          |true=>
            rw[if_pos rfl,Bool.true_and]
            by_cases d:m0.toList=([]:aM)
            · rw[if_pos d,aQ d,Bool.true_and]
            · rw[if_neg d,aT d,Bool.false_and]
theorem NP (m0 m1:af) (m2:Int) (m3:af) (m4:Bool) (l:List lU) (m6:af) (n:Int) (hl:l.length<=4398046511104) (k:Nat) (hk:l.length<k):∃ t,uZ.f k m0 m1 m2 m3 m4 l m6 n=some t:=by
  unfold uZ.f
  split
  · exact⟨_,rfl⟩
  · split
    · exact⟨_,rfl⟩
    · split
      · exact⟨_,rfl⟩
      · obtain⟨t,ht⟩:=yV l hl (wrap64 (wrap64 (wrap64 (n-(m0.size:Int))-(m1.size:Int))-(m3.size:Int))) k hk
        rw[ht,aj]
        split
        · exact⟨_,rfl⟩
        · split <;> exact⟨_,rfl⟩
theorem JE (u:af) (t1 t2:Int) (l:List lU) (m0 m1:af) (m2:Int) (m3:af) (m4:Bool) (ml:List lU) (m6:af) (hu:u.size<=140737488351232) (hl:l.length<=4398046511104) (hm:ml.length<=4398046511104) (k:Nat) (hk:l.length+ml.length<k) :
    ∃ t,lJ.f k u t1 t2 l m0 m1 m2 m3 m4 ml m6 1048576=some t/\(¬ t<0->u.size<=1048576):=by
  unfold lJ.f
  have hw:wrap64 (1048576-(u.size:Int))=1048576-(u.size:Int):=ak aa aa
  rw[hw]
  by_cases c:1048576-(u.size:Int)<0
  · rw[if_pos c];exact⟨-1,rfl,fun h=>absurd av h⟩
  · rw[if_neg c]
    obtain⟨t,ht⟩:=yV l hl (1048576-(u.size:Int)) k aa
    rw[ht,aj]
    split
    · exact⟨-1,rfl,fun h=>absurd av h⟩
    · obtain⟨t2,ht2⟩:=NP m0 m1 m2 m3 m4 ml m6 t hm k aa
      rw[ht2,aj]
      split
      · exact⟨-1,rfl,fun h=>absurd av h⟩
      · exact⟨t2,rfl,fun _=>by omega⟩
theorem NQ (u:af) (t1 t2:Int) (l:List lU) (m0 m1:af) (m2:Int) (m3:af) (m4:Bool) (ml:List lU) (m6:af) (hl:l.length<=4398046511104) (hm:ml.length<=4398046511104) (k:Nat) (hk:l.length+ml.length<k) :
    je.f k u t1 t2 l m0 m1 m2 m3 m4 ml m6=some (u,t1,t2,l.map toF,m0,m1,m2,m3,m4,ml.map toF,m6):=by
  unfold je.f wI.f
  rw[Dm l hl k aa,aj,Dm ml hm k aa,aj,aj]
theorem JF (u:af) (t1 t2:Int) (l:List aH) (m0 m1:af) (m2:Int) (m3:af) (m4:Bool) (ml:List aH) (m6:af) (hl:l.length<=4398046511104) (hm:ml.length<=4398046511104) (k:Nat) (hk:l.length+ml.length<k) :
    nu.f k u t1 t2 l m0 m1 m2 m3 m4 ml m6 u t1 t2 l m0 m1 m2 m3 m4 ml m6=some true:=by
  have h1:=xL k l aa aa
  have h2:=xL k ml aa aa
  unfold nu.f xM.f
  rw[if_pos rfl,if_pos rfl,if_pos rfl,h1,aj,if_pos rfl,if_pos rfl,if_pos rfl,if_pos rfl,if_pos rfl,if_neg (by simp),h2,aj,if_pos rfl,if_pos rfl,aj,if_pos rfl]

def nW (y:Int):Prop:=y%4=0/\(y%100≠0∨y%400=0)
instance (y:Int):Decidable (nW y):=by unfold nW;infer_instance
def vD (y:Int):Int:=365*(y-1970)+(y-1) / 4-(y-1) / 100+(y-1) / 400-477
def T9 (y:Int):Int:=if nW y then 366 else 365
def Dn (y m:Int):Int:=if m=2 then(if nW y then 29 else 28) else if m=4∨m=6∨m=9∨m=11 then 30 else 31
def vE (y:Int):Nat->Int
  |0=>0
  |n+1=>vE y n+Dn y ((n:Int)+1)
theorem wJ (y:Int):vD (y+1)=vD y+T9 y:=by
  unfold vD T9
  by_cases h:nW y
  · rw[if_pos h];unfold nW at h;omega
  · rw[if_neg h];unfold nW at h;omega
theorem aap (y:Int):365<=T9 y:=by unfold T9;split <;> omega
theorem Lh (y:Int):T9 y<=366:=by unfold T9;split <;> omega
theorem Ua (y m:Int):28<=Dn y m:=by unfold Dn;split <;> split <;> omega
theorem IJ (y m:Int):Dn y m<=31:=by unfold Dn;split <;> split <;> omega
theorem JG (y:Int):vE y 12=T9 y:=by
  unfold T9
  by_cases h:nW y <;> simp[vE,Dn,h]
theorem AL (y:Int):∀(n m:Nat),n<=m->vE y n+28*((m-n:Nat):Int)<=vE y m:=by
  intro n m
  induction m with
  |zero=>
    intro h
    obtain rfl:n=0:=by omega
    simp
  |succ m ih=>
    intro h
    by_cases e:n=m+1
    · subst e;simp
    · have:=ih aa
      have:=Ua y ((m:Int)+1)
      show _<=vE y m+Dn y ((m:Int)+1)
      omega
theorem IK (y:Int) (n:Nat):0<=vE y n:=by
  have h:=AL y 0 n (Nat.zero_le _)
  have:vE y 0=0:=rfl
  omega
theorem AO (y z:Int) (h:y<=z):vD y<=vD z:=by unfold vD;omega
def xz (Y M D h m s:Int):Bool:=decide (1970<=Y/\Y<=9999)&&(decide (1<=M/\M<=12)&&(decide (1<=D/\D<=Dn Y M)&&(decide (0<=h/\h<=23)&&(decide (0<=m/\m<=59)&&decide (0<=s/\s<=59)))))
theorem iG (Y M D h m s:Int):xz Y M D h m s=true↔(1970<=Y/\Y<=9999)/\(1<=M/\M<=12)/\(1<=D/\D<=Dn Y M)/\(0<=h/\h<=23)/\(0<=m/\m<=59)/\(0<=s/\s<=59):=by
  unfold xz
  simp only[Bool.and_eq_true,decide_eq_true_eq]
def Ht (Y M D h m s:Int):Int:=86400*(vD Y+vE Y (M-1).toNat+D-1)+3600*h+60*m+s
def YP : Nat->Int->Int->Int
  |0,y,_=>y
  |n+1,y,d=>if vD (y+1)<=d then YP n (y+1) d else y
theorem YQ : ∀(n:Nat) (y d:Int),vD y<=d->d<vD (y+n+1)->vD (YP n y d)<=d/\d<vD (YP n y d+1)/\y<=YP n y d/\YP n y d<=y+n:=by
  intro n
  induction n with
  |zero=>intro y d h1 h2;refine⟨h1,?_,Int.le_refl _,by simp[YP]⟩;simpa [YP] using h2
  |succ n ih=>
    intro y d h1 h2
    unfold YP
    by_cases h:vD (y+1)<=d
    · rw[if_pos h]
      obtain⟨a,b,c,e⟩:=ih (y+1) d h (by rw[show y+1+(n:Int)+1=y+((n+1:Nat):Int)+1 by omega];exact h2)
      exact⟨a,b,by omega,by omega⟩
    · rw[if_neg h];exact⟨h1,by omega,Int.le_refl _,by omega⟩
def IL (d:Int):Int:=YP 8029 1970 d
theorem QK (d:Int) (h0:0<=d) (h1:d<=2932896):vD (IL d)<=d/\d<vD (IL d+1)/\1970<=IL d/\IL d<=9999:=by
  obtain⟨a,b,c,e⟩:=YQ 8029 1970 d (by unfold vD;omega) (by unfold vD;omega)
  exact⟨a,b,c,by unfold IL;omega⟩
def moI (y:Int):Nat->Nat->Int->Nat
  |0,n,_=>n
  |k+1,n,d=>if vE y (n+1)<=d then moI y k (n+1) d else n
theorem YR (y:Int):∀(k n:Nat) (d:Int),vE y n<=d->d<vE y (n+k+1)->vE y (moI y k n d)<=d/\d<vE y (moI y k n d+1)/\moI y k n d<=n+k:=by
  intro k
  induction k with
  |zero=>intro n d h1 h2;exact⟨h1,h2,Nat.le_refl _⟩
  |succ k ih=>
    intro n d h1 h2
    unfold moI
    by_cases h:vE y (n+1)<=d
    · rw[if_pos h]
      obtain⟨a,b,e⟩:=ih (n+1) d h (by rw[show n+1+k+1=n+(k+1)+1 by omega];exact h2)
      exact⟨a,b,by omega⟩
    · rw[if_neg h];exact⟨h1,by omega,by omega⟩
def Ub (y d:Int):Nat:=moI y 11 0 d
theorem Uc (y d:Int) (h0:0<=d) (h1:d<T9 y):vE y (Ub y d)<=d/\d<vE y (Ub y d+1)/\Ub y d<=11:=by
  obtain⟨a,b,e⟩:=YR y 11 0 d h0 (by rw[JG];exact h1)
  exact⟨a,b,by unfold Ub;omega⟩
def cY (t:Int):Int:=IL (t / 86400)
def cN (t:Int):Nat:=Ub (cY t) (t / 86400-vD (cY t))
def cM (t:Int):Int:=(cN t:Int)+1
def cD (t:Int):Int:=t / 86400-vD (cY t)-vE (cY t) (cN t)+1
def cH (t:Int):Int:=t%86400 / 3600
def cI (t:Int):Int:=t%3600 / 60
def cS (t:Int):Int:=t%60
def ry (t:Int):Prop:=0<=t/\t<=253402300799
theorem xN (t:Int) (h:ry t):vD (cY t)<=t / 86400/\t / 86400<vD (cY t+1)/\1970<=cY t/\cY t<=9999:=by
  unfold ry at h
  exact QK _ aa aa
theorem AP (t:Int) (h:ry t):vE (cY t) (cN t)<=t / 86400-vD (cY t)/\t / 86400-vD (cY t)<vE (cY t) (cN t+1)/\cN t<=11:=by
  obtain⟨a,b,-,-⟩:=xN t h
  rw[wJ] at b
  exact Uc _ _ aa aa
theorem ahq (t:Int) (h:ry t):xz (cY t) (cM t) (cD t) (cH t) (cI t) (cS t)=true:=by
  obtain⟨-,-,a,b⟩:=xN t h
  obtain⟨c,d,e⟩:=AP t h
  have d':t / 86400-vD (cY t)<vE (cY t) (cN t)+Dn (cY t) (cM t):=d
  rw[iG]
  unfold cH cI cS
  refine⟨⟨a,b⟩,⟨by unfold cM;omega,by unfold cM;omega⟩,⟨by unfold cD;omega,by unfold cD;omega⟩,⟨by omega,by omega⟩,⟨by omega,by omega⟩,by omega,by omega⟩
theorem ahr (t:Int):Ht (cY t) (cM t) (cD t) (cH t) (cI t) (cS t)=t:=by
  have e:(cM t-1).toNat=cN t:=by unfold cM;omega
  unfold Ht
  rw[e]
  unfold cD cH cI cS
  omega
theorem Ud (Y M D h m s:Int) (hc:xz Y M D h m s=true):ry (Ht Y M D h m s):=by
  rw[iG] at hc
  obtain⟨h1,h2,h3,h4,h5,h6⟩:=hc
  have a:=AO 1970 Y h1.1
  have b:=AO (Y+1) 10000 aa
  have e1:vD 1970=0:=by decide
  have e2:vD 10000=2932897:=by decide
  have c:=wJ Y
  obtain⟨n,hn⟩:∃ n:Nat,(M-1).toNat=n:=⟨_,rfl⟩
  have d:=AL Y (n+1) 12 aa
  rw[JG] at d
  have d':vE Y (n+1)=vE Y n+Dn Y M:=by
    show vE Y n+Dn Y ((n:Int)+1)=_
    rw[show(n:Int)+1=M by omega]
  have f:=IK Y n
  unfold ry Ht
  rw[hn]
  omega
def ji (n:Int):UInt8:=UInt8.ofNat (48+(n%10).toNat)
theorem JH (n:Int):((ji n).toNat:Int)=48+n%10:=by
  unfold ji
  rw[UInt8.toNat_ofNat']
  omega
theorem oZ (n:Int):48<=(ji n).toNat/\(ji n).toNat<=57:=by
  have:=JH n
  omega
def oL (m:Int):List UInt8:=
  if m=1 then [74,97,110] else if m=2 then [70,101,98] else if m=3 then [77,97,114] else if m=4 then [65,112,114] else if m=5 then [77,97,121] else if m=6 then [74,117,110]
  else if m=7 then [74,117,108] else if m=8 then [65,117,103] else if m=9 then [83,101,112] else if m=10 then [79,99,116] else if m=11 then [78,111,118] else [68,101,99]
def o5 (k:Int):List UInt8:=
  if k=0 then [77,111,110,100,97,121] else if k=1 then [84,117,101,115,100,97,121] else if k=2 then [87,101,100,110,101,115,100,97,121] else if k=3 then [84,104,117,114,115,100,97,121]
  else if k=4 then [70,114,105,100,97,121] else if k=5 then [83,97,116,117,114,100,97,121] else [83,117,110,100,97,121]
def fK (n:Int):List UInt8:=[ji (n / 10),ji n]
def o6 (n:Int):List UInt8:=[ji (n / 1000),ji (n / 100),ji (n / 10),ji n]
def mi (h i s:Int):List UInt8:=fK h ++ [58]++fK i ++ [58]++fK s
def vK : List UInt8:=[32,71,77,84]
def sK (Y M D h i s:Int):List UInt8:=[44,32]++fK D ++ [32]++oL M ++ [32]++o6 Y ++ [32]++mi h i s++vK
def vL (Y M D h i s:Int):List UInt8:=[44,32]++fK D ++ [45]++oL M ++ [45]++fK Y ++ [32]++mi h i s++vK
def nJ (Y M D h i s:Int):List UInt8:=[32]++oL M ++ [32]++(if D<10 then [32,ji D] else fK D) ++ [32]++mi h i s ++ [32]++o6 Y
theorem fw (m:Int):∃ a b c,oL m = [a,b,c]/\(65<=a.toNat/\a.toNat<=90)/\(97<=b.toNat/\b.toNat<=122)/\(97<=c.toNat/\c.toNat<=122):=by
  generalize hl:oL m=l
  unfold oL at hl
  repeat' split at hl
  all_goals (subst hl;refine⟨_,_,_,rfl,?_,?_,?_⟩ <;> decide)
theorem Li (m n:Int) (hm:1<=m/\m<=12) (hn:1<=n/\n<=12) (h:oL m=oL n):m=n:=by
  have e:∀ x:Int,1<=x/\x<=12->x=1∨x=2∨x=3∨x=4∨x=5∨x=6∨x=7∨x=8∨x=9∨x=10∨x=11∨x=12:=by omega
  rcases e m hm with rfl|rfl|rfl|rfl|rfl|rfl|rfl|rfl|rfl|rfl|rfl|rfl <;> rcases e n hn with rfl|rfl|rfl|rfl|rfl|rfl|rfl|rfl|rfl|rfl|rfl|rfl <;> first|rfl|exact absurd h av
theorem wK (k:Int):∀ b∈o5 k,65<=b.toNat:=by
  unfold o5
  repeat' split
  all_goals decide
theorem qI (k:Int):6<=(o5 k).length/\(o5 k).length<=9:=by
  unfold o5
  repeat' split
  all_goals decide
def Fg (s:af) (n:Nat) (T:List UInt8):Prop:=s.size=n+T.length/\(∀ j:Nat,j<n->65<=bt s (j:Int))/\∀(j:Nat) (b:UInt8),T[j]? = some b->bt s ((n+j:Nat):Int)=(b.toNat:Int)
theorem ED (L:List UInt8) (j:Nat) (b:UInt8) (h:L[j]? = some b):bt (⟨L.toArray⟩:af) (j:Int)=(b.toNat:Int):=by
  obtain⟨h1,h2⟩:=List.getElem?_eq_some_iff.1 h
  unfold bt
  rw[dif_pos (show((j:Int)).toNat<(⟨L.toArray⟩:af).size by simpa [ByteArray.size] using h1)]
  simp only[Int.toNat_natCast]
  rw[<- h2]
  rfl
theorem JI (nm T:List UInt8) (hn:∀ b∈nm,65<=b.toNat):Fg (⟨(nm++T).toArray⟩:af) nm.length T:=by
  refine⟨by simp[ByteArray.size],fun j hj=>?_,fun j b h=>?_⟩
  · have h1:(nm++T)[j]? = some nm[j]:=by rw[List.getElem?_append_left hj,List.getElem?_eq_getElem hj]
    rw[ED _ _ _ h1]
    have:=hn nm[j] (List.getElem_mem hj)
    omega
  · exact ED _ _ _ (by rw[List.getElem?_append_right aa,Nat.add_sub_cancel_left];exact h)
theorem Fg.get {s:ByteArray} {n:Nat} {T:List UInt8} (h:Fg s n T) (j:Nat) (b:UInt8) (e:T[j]? = some b):bt s ((n+j:Nat):Int)=(b.toNat:Int):=h.2.2 j b e
def qZ (x:Int):Prop:=48<=x/\x<=57
instance (x:Int):Decidable (qZ x):=by unfold qZ;infer_instance
def nK (s:af) (i:Nat):Nat->Nat->Int->Nat×Int
  |0,k,n=>(k,n)
  |d+1,k,n=>if k<s.size/\qZ (bt s (k:Int))/\k<i+9 then nK s i d (k+1) (10*n+(bt s (k:Int)-48)) else(k,n)
def o7 (s:af):Nat->Nat->List Int->List Int
  |0,_,out=>out
  |d+1,i,out=>if i<s.size then(if(nK s i 10 i 0).1>i then o7 s d (nK s i 10 i 0).1 (out ++ [(nK s i 10 i 0).2]) else o7 s d (i+1) out) else out
theorem JJ (s:af) (i:Nat):∀(d k:Nat) (n:Int),i<=k->0<=n->n<10 ^ (k-i)->k<=i+9->k<=s.size->k<=(nK s i d k n).1/\(nK s i d k n).1<=s.size/\(nK s i d k n).1<=i+9/\0<=(nK s i d k n).2/\(nK s i d k n).2<10 ^ ((nK s i d k n).1-i):=by
  intro d
  induction d with
  |zero=>intro k n h1 h2 h3 h4 h5;exact⟨Nat.le_refl _,h5,h4,h2,h3⟩
  |succ d ih=>
    intro k n h1 h2 h3 h4 h5
    unfold nK
    split
    · rename_i h
      have hd:=h.2.1
      unfold qZ at hd
      obtain⟨a,b,c,e,f⟩:=ih (k+1) (10*n+(bt s (k:Int)-48)) aa aa (by rw[show k+1-i=(k-i)+1 by omega,Int.pow_succ];omega) aa aa
      exact⟨by omega,b,c,e,f⟩
    · exact⟨Nat.le_refl _,h5,h4,h2,h3⟩
theorem Ue (s:af) (i:Nat) (hi:i<=s.size) (d:Nat):0<=(nK s i d i 0).2/\(nK s i d i 0).2<=999999999:=by
  obtain⟨_,_,c,e,f⟩:=JJ s i d i 0 (Nat.le_refl _) (Int.le_refl _) (by simp) aa hi
  refine⟨e,?_⟩
  have key:∀ n:Nat,n<=9->(10:Int) ^ n<=1000000000:=fun n hn=>
    match n,hn with
    |0,_=>by decide
    |1,_=>by decide
    |2,_=>by decide
    |3,_=>by decide
    |4,_=>by decide
    |5,_=>by decide
    |6,_=>by decide
    |7,_=>by decide
    |8,_=>by decide
    |9,_=>by decide
    |n+10,hn=>absurd hn aa
  have h':=key ((nK s i d i 0).1-i) aa
  omega
theorem Uf (s:af):∀(d i:Nat) (out:List Int),i<=s.size->(∀ x∈out,0<=x/\x<=999999999)->∀ x∈o7 s d i out,0<=x/\x<=999999999:=by
  intro d
  induction d with
  |zero=>intro i out hi h;exact h
  |succ d ih=>
    intro i out hi h
    unfold o7
    split
    · split
      · refine ih _ _ (JJ s i 10 i 0 (Nat.le_refl _) (Int.le_refl _) (by simp) aa hi).2.1 fun x hx=>?_
        rcases List.mem_append.1 hx with hx|hx
        · exact h x hx
        · obtain rfl:=List.mem_singleton.1 hx
          exact Ue s i hi 10
      · exact ih _ _ aa h
    · exact h
theorem bU {s:ByteArray} {d i:Nat} {out:List Int} (h1:i<s.size) (h2:¬ qZ (bt s (i:Int))):o7 s (d+1) i out=o7 s d (i+1) out:=by
  have e:nK s i 10 i 0=(i,0):=by unfold nK;rw[if_neg fun h=>h2 h.2.1]
  rw[o7,if_pos h1,e,if_neg (Nat.lt_irrefl _)]
theorem AQ {s:ByteArray} {d i:Nat} {out:List Int} (h1:s.size<=i):o7 s d i out=out:=by
  cases d with
  |zero=>rfl
  |succ d=>rw[o7,if_neg aa]
theorem wL {s:ByteArray} {i d k:Nat} {n:Int} (x:Int) (h1:k<s.size) (h2:bt s (k:Int)=48+x%10) (h3:k<i+9):nK s i (d+1) k n=nK s i d (k+1) (10*n+x%10):=by
  rw[nK,if_pos ⟨h1,by unfold qZ;omega,h3⟩,h2]
  congr 1
  omega
theorem Fh {s:ByteArray} {i d k:Nat} {n:Int} (h:k<s.size->¬ qZ (bt s (k:Int))):nK s i d k n=(k,n):=by
  cases d with
  |zero=>rfl
  |succ d=>rw[nK,if_neg fun q=>h q.1 q.2.1]
theorem Ug {s:ByteArray} {d i:Nat} {out:List Int} (x:Int) (h1:i<s.size) (a:bt s (i:Int)=48+x%10) (h:i+1<s.size->¬ qZ (bt s ((i+1:Nat):Int))) :
    o7 s (d+1) i out=o7 s d (i+1) (out ++ [x%10]):=by
  have e:nK s i 10 i 0=(i+1,x%10):=by
    rw[wL x h1 a aa,Fh h]
    congr 1
    omega
  rw[o7,if_pos h1,e,if_pos (by show i+1>i;omega)]
theorem jN {s:ByteArray} {d i:Nat} {out:List Int} (n:Int) (hn:0<=n) (h1:i+1<s.size) (a:bt s (i:Int)=48+n / 10%10) (b:bt s ((i+1:Nat):Int)=48+n%10) (h:i+2<s.size->¬ qZ (bt s ((i+2:Nat):Int))) :
    o7 s (d+1) i out=o7 s d (i+2) (out ++ [n%100]):=by
  have e:nK s i 10 i 0=(i+2,n%100):=by
    rw[wL (n / 10) aa a aa,wL n h1 b aa,Fh h]
    congr 1
    omega
  rw[o7,if_pos aa,e,if_pos (by show i+2>i;omega)]
theorem Cz {s:ByteArray} {d i:Nat} {out:List Int} (n:Int) (hn:0<=n) (h1:i+3<s.size) (a:bt s (i:Int)=48+n / 1000%10) (b:bt s ((i+1:Nat):Int)=48+n / 100%10) (c:bt s ((i+2:Nat):Int)=48+n / 10%10) (e:bt s ((i+3:Nat):Int)=48+n%10) (h:i+4<s.size->¬ qZ (bt s ((i+4:Nat):Int))) :
    o7 s (d+1) i out=o7 s d (i+4) (out ++ [n%10000]):=by
  have e:nK s i 10 i 0=(i+4,n%10000):=by
    rw[wL (n / 1000) aa a aa,wL (n / 100) aa b aa,wL (n / 10) aa c aa,wL n h1 e aa,Fh h]
    congr 1
    omega
  rw[o7,if_pos aa,e,if_pos (by show i+4>i;omega)]
theorem QL {s:ByteArray} {out:List Int}:∀(n d i:Nat),i+n<=s.size->(∀ j:Nat,i<=j->j<i+n->¬ qZ (bt s (j:Int)))->o7 s (d+n) i out=o7 s d (i+n) out:=by
  intro n
  induction n with
  |zero=>intro d i _ _;rfl
  |succ n ih=>
    intro d i h1 h2
    rw[show d+(n+1)=(d+n)+1 by omega,bU aa (h2 i (Nat.le_refl _) aa),ih d (i+1) aa (fun j a b=>h2 j aa aa),show i+1+n=i+(n+1) by omega]
def numsOf (s:af):List Int:=o7 s 100 0 []
theorem aaq {x:Int} (h:x<48∨57<x):¬ qZ x:=by unfold qZ;omega
theorem Fg.nd {s:ByteArray} {n:Nat} {T:List UInt8} (h:Fg s n T) (j:Nat) (b:UInt8) (e:T[j]? = some b) (hb:b.toNat<48∨57<b.toNat):¬ qZ (bt s ((n+j:Nat):Int)):=by
  rw[h.get j b e]
  exact aaq aa
theorem Fg.dg {s:ByteArray} {n:Nat} {T:List UInt8} (h:Fg s n T) (j:Nat) (x:Int) (e:T[j]? = some (ji x)):bt s ((n+j:Nat):Int)=48+x%10:=by
  rw[h.get j _ e,JH]
theorem wM {s:ByteArray} {n:Nat} {T:List UInt8} (h:Fg s n T) (hn:n<=9):numsOf s=o7 s (100-n) (n+0) []:=by
  unfold numsOf
  rw[show(100:Nat)=(100-n)+n by omega,QL n (100-n) 0 (by have:=h.1;omega) (fun j a b=>aaq (by have:=h.2.1 j aa;omega))]
  congr 1 <;> omega
theorem QM {s:ByteArray} {n:Nat} {Y M D a i e:Int} (h:Fg s n (sK Y M D a i e)) (hn:n<=9) (hY:0<=Y) (hD:0<=D) (ha:0<=a) (hi:0<=i) (he:0<=e) :
    numsOf s = [D%100,Y%10000,a%100,i%100,e%100]:=by
  obtain⟨x,y,z,hm,hx,hy,hz⟩:=fw M
  have hs:s.size=n+26:=by rw[h.1];unfold sK;rw[hm];rfl
  have T:sK Y M D a i e = [44,32,ji (D / 10),ji D,32,x,y,z,32,ji (Y / 1000),ji (Y / 100),ji (Y / 10),ji Y,32,ji (a / 10),ji a,58,ji (i / 10),ji i,58,ji (e / 10),ji e,32,71,77,84]:=by unfold sK;rw[hm];rfl
  rw[T] at h
  obtain⟨d,hd⟩:∃ d,100-n=d+30:=⟨70-n,by omega⟩
  rw[wM h hn,hd]
  rw[bU aa (h.nd 0 44 rfl av),bU aa (h.nd 1 32 rfl av),jN D hD aa (h.dg 2 _ rfl) (h.dg 3 _ rfl) (fun _=>h.nd 4 32 rfl av),
    bU aa (h.nd 4 32 rfl av),bU aa (h.nd 5 x rfl aa),bU aa (h.nd 6 y rfl aa),bU aa (h.nd 7 z rfl aa),bU aa (h.nd 8 32 rfl av),
    Cz Y hY aa (h.dg 9 _ rfl) (h.dg 10 _ rfl) (h.dg 11 _ rfl) (h.dg 12 _ rfl) (fun _=>h.nd 13 32 rfl av),
    bU aa (h.nd 13 32 rfl av),jN a ha aa (h.dg 14 _ rfl) (h.dg 15 _ rfl) (fun _=>h.nd 16 58 rfl av),
    bU aa (h.nd 16 58 rfl av),jN i hi aa (h.dg 17 _ rfl) (h.dg 18 _ rfl) (fun _=>h.nd 19 58 rfl av),
    bU aa (h.nd 19 58 rfl av),jN e he aa (h.dg 20 _ rfl) (h.dg 21 _ rfl) (fun _=>h.nd 22 32 rfl av),
    bU aa (h.nd 22 32 rfl av),bU aa (h.nd 23 71 rfl av),bU aa (h.nd 24 77 rfl av),bU aa (h.nd 25 84 rfl av),AQ aa]
  rfl
theorem QN {s:ByteArray} {n:Nat} {Y M D a i e:Int} (h:Fg s n (vL Y M D a i e)) (hn:n<=9) (hY:0<=Y) (hD:0<=D) (ha:0<=a) (hi:0<=i) (he:0<=e) :
    numsOf s = [D%100,Y%100,a%100,i%100,e%100]:=by
  obtain⟨x,y,z,hm,hx,hy,hz⟩:=fw M
  have hs:s.size=n+24:=by rw[h.1];unfold vL;rw[hm];rfl
  have T:vL Y M D a i e = [44,32,ji (D / 10),ji D,45,x,y,z,45,ji (Y / 10),ji Y,32,ji (a / 10),ji a,58,ji (i / 10),ji i,58,ji (e / 10),ji e,32,71,77,84]:=by unfold vL;rw[hm];rfl
  rw[T] at h
  obtain⟨d,hd⟩:∃ d,100-n=d+30:=⟨70-n,by omega⟩
  rw[wM h hn,hd]
  rw[bU aa (h.nd 0 44 rfl av),bU aa (h.nd 1 32 rfl av),jN D hD aa (h.dg 2 _ rfl) (h.dg 3 _ rfl) (fun _=>h.nd 4 45 rfl av),
    bU aa (h.nd 4 45 rfl av),bU aa (h.nd 5 x rfl aa),bU aa (h.nd 6 y rfl aa),bU aa (h.nd 7 z rfl aa),bU aa (h.nd 8 45 rfl av),
    jN Y hY aa (h.dg 9 _ rfl) (h.dg 10 _ rfl) (fun _=>h.nd 11 32 rfl av),
    bU aa (h.nd 11 32 rfl av),jN a ha aa (h.dg 12 _ rfl) (h.dg 13 _ rfl) (fun _=>h.nd 14 58 rfl av),
    bU aa (h.nd 14 58 rfl av),jN i hi aa (h.dg 15 _ rfl) (h.dg 16 _ rfl) (fun _=>h.nd 17 58 rfl av),
    bU aa (h.nd 17 58 rfl av),jN e he aa (h.dg 18 _ rfl) (h.dg 19 _ rfl) (fun _=>h.nd 20 32 rfl av),
    bU aa (h.nd 20 32 rfl av),bU aa (h.nd 21 71 rfl av),bU aa (h.nd 22 77 rfl av),bU aa (h.nd 23 84 rfl av),AQ aa]
  rfl
theorem QO {s:ByteArray} {n:Nat} {Y M D a i e:Int} (h:Fg s n (nJ Y M D a i e)) (hn:n<=9) (hY:0<=Y) (hD:0<=D) (ha:0<=a) (hi:0<=i) (he:0<=e) :
    numsOf s = [D%100,a%100,i%100,e%100,Y%10000]:=by
  obtain⟨x,y,z,hm,hx,hy,hz⟩:=fw M
  obtain⟨d,hd⟩:∃ d,100-n=d+30:=⟨70-n,by omega⟩
  by_cases h10:D<10
  · have T:nJ Y M D a i e = [32,x,y,z,32,32,ji D,32,ji (a / 10),ji a,58,ji (i / 10),ji i,58,ji (e / 10),ji e,32,ji (Y / 1000),ji (Y / 100),ji (Y / 10),ji Y]:=by unfold nJ;rw[hm,if_pos h10];rfl
    have hs:s.size=n+21:=by rw[h.1,T];rfl
    rw[T] at h
    rw[wM h hn,hd]
    rw[bU aa (h.nd 0 32 rfl av),bU aa (h.nd 1 x rfl aa),bU aa (h.nd 2 y rfl aa),bU aa (h.nd 3 z rfl aa),bU aa (h.nd 4 32 rfl av),bU aa (h.nd 5 32 rfl av),
      Ug D aa (h.dg 6 _ rfl) (fun _=>h.nd 7 32 rfl av),
      bU aa (h.nd 7 32 rfl av),jN a ha aa (h.dg 8 _ rfl) (h.dg 9 _ rfl) (fun _=>h.nd 10 58 rfl av),
      bU aa (h.nd 10 58 rfl av),jN i hi aa (h.dg 11 _ rfl) (h.dg 12 _ rfl) (fun _=>h.nd 13 58 rfl av),
      bU aa (h.nd 13 58 rfl av),jN e he aa (h.dg 14 _ rfl) (h.dg 15 _ rfl) (fun _=>h.nd 16 32 rfl av),
      bU aa (h.nd 16 32 rfl av),Cz Y hY aa (h.dg 17 _ rfl) (h.dg 18 _ rfl) (h.dg 19 _ rfl) (h.dg 20 _ rfl) (fun q=>absurd q aa),AQ aa]
    show [D%10,a%100,i%100,e%100,Y%10000]=_
    rw[show D%10=D%100 by omega]
  · have T:nJ Y M D a i e = [32,x,y,z,32,ji (D / 10),ji D,32,ji (a / 10),ji a,58,ji (i / 10),ji i,58,ji (e / 10),ji e,32,ji (Y / 1000),ji (Y / 100),ji (Y / 10),ji Y]:=by unfold nJ;rw[hm,if_neg h10];rfl
    have hs:s.size=n+21:=by rw[h.1,T];rfl
    rw[T] at h
    rw[wM h hn,hd]
    rw[bU aa (h.nd 0 32 rfl av),bU aa (h.nd 1 x rfl aa),bU aa (h.nd 2 y rfl aa),bU aa (h.nd 3 z rfl aa),bU aa (h.nd 4 32 rfl av),
      jN D hD aa (h.dg 5 _ rfl) (h.dg 6 _ rfl) (fun _=>h.nd 7 32 rfl av),
      bU aa (h.nd 7 32 rfl av),jN a ha aa (h.dg 8 _ rfl) (h.dg 9 _ rfl) (fun _=>h.nd 10 58 rfl av),
      bU aa (h.nd 10 58 rfl av),jN i hi aa (h.dg 11 _ rfl) (h.dg 12 _ rfl) (fun _=>h.nd 13 58 rfl av),
      bU aa (h.nd 13 58 rfl av),jN e he aa (h.dg 14 _ rfl) (h.dg 15 _ rfl) (fun _=>h.nd 16 32 rfl av),
      bU aa (h.nd 16 32 rfl av),Cz Y hY aa (h.dg 17 _ rfl) (h.dg 18 _ rfl) (h.dg 19 _ rfl) (h.dg 20 _ rfl) (fun q=>absurd q aa),AQ aa]
    rfl

theorem td {a:Int} (b:Int) (h:0<=a):Int.tdiv a b=a / b:=Int.tdiv_eq_ediv_of_nonneg h
theorem tm {a:Int} (b:Int) (h:0<=a):Int.tmod a b=a%b:=Int.tmod_eq_emod_of_nonneg h
theorem AR (y:Int) (h:0<=y):qJ.f y=some (decide (nW y)):=by
  unfold qJ.f
  rw[tm _ h,tm _ h,tm _ h]
  by_cases a:y%4=0
  · rw[if_pos a]
    by_cases b:y%100=0
    · rw[if_pos b]
      congr 1
      by_cases c:y%400=0
      · rw[c,aQ (show nW y from⟨a,Or.inr c⟩)];rfl
      · rw[aT (show ¬ nW y from fun q=>q.2.elim (fun z=>z b) c),beq_eq_false_iff_ne.2 c]
    · rw[if_neg b,aQ (show nW y from⟨a,Or.inl b⟩)]
  · rw[if_neg a,aT (show ¬ nW y from fun q=>a q.1)]
theorem rG (y m:Int) (h:0<=y):nP.f y m=some (Dn y m):=by
  unfold nP.f Dn
  by_cases a:m=2
  · rw[if_pos a,if_pos a,AR y h,aj]
    by_cases b:nW y
    · rw[aQ b,if_pos rfl,if_pos b]
    · rw[aT b,if_neg av,if_neg b]
  · rw[if_neg a,if_neg a]
    by_cases b:m=4
    · rw[if_pos b,if_pos (Or.inl b)]
    · rw[if_neg b]
      by_cases c:m=6
      · rw[if_pos c,if_pos (Or.inr (Or.inl c))]
      · rw[if_neg c]
        by_cases d:m=9
        · rw[if_pos d,if_pos (Or.inr (Or.inr (Or.inl d)))]
        · rw[if_neg d]
          by_cases e:m=11
          · rw[if_pos e,if_pos (Or.inr (Or.inr (Or.inr e)))]
          · rw[if_neg e,if_neg aa]
theorem wN (y:Int) (h:0<=y):mJ.f y=some (T9 y):=by
  unfold mJ.f T9
  rw[AR y h,aj]
  by_cases b:nW y
  · rw[aQ b,if_pos rfl,if_pos b]
  · rw[aT b,if_neg av,if_neg b]
theorem rH (y m:Int) (h:0<=y) (k:Nat) (hk:0<k):iD.f k y m=some (Dn y m):=by
  obtain⟨k,rfl⟩:=aN k hk
  have j:∀ b:Bool,(m=2->b=decide (nW y))->(m≠2->b=false)->iD.j0 (k+1) m b=some (Dn y m):=by
    intro b h1 h2
    simp only[iD.j0]
    unfold Dn
    by_cases a:m=2
    · rw[h1 a,if_pos a,if_pos a]
      by_cases c:nW y
      · rw[aQ c,if_pos rfl,if_pos c]
      · rw[aT c,if_neg av,if_neg c]
    · rw[h2 a,if_neg av,if_neg a,if_neg a]
      by_cases b:m=4
      · rw[if_pos b,if_pos (Or.inl b)]
      · rw[if_neg b]
        by_cases c:m=6
        · rw[if_pos c,if_pos (Or.inr (Or.inl c))]
        · rw[if_neg c]
          by_cases d:m=9
          · rw[if_pos d,if_pos (Or.inr (Or.inr (Or.inl d)))]
          · rw[if_neg d]
            by_cases e:m=11
            · rw[if_pos e,if_pos (Or.inr (Or.inr (Or.inr e)))]
            · rw[if_neg e,if_neg aa]
  unfold iD.f
  rw[tm _ h,tm _ h,tm _ h]
  by_cases a:m=2
  · rw[if_pos a]
    by_cases c:y%4=0
    · rw[if_pos c]
      by_cases d:y%100=0
      · rw[if_pos d]
        refine j _ (fun _=>?_) (fun z=>absurd a z)
        by_cases e:y%400=0
        · rw[e,aQ (show nW y from⟨c,Or.inr e⟩)];rfl
        · rw[aT (show ¬ nW y from fun q=>q.2.elim (fun z=>z d) e),beq_eq_false_iff_ne.2 e]
      · rw[if_neg d]
        exact j _ (fun _=>(aQ (show nW y from⟨c,Or.inl d⟩)).symm) (fun z=>absurd a z)
    · rw[if_neg c]
      refine j _ (fun _=>?_) (fun z=>absurd a z)
      rw[aT (show ¬ nW y from fun q=>c q.1),beq_eq_false_iff_ne.2 aa]
  · rw[if_neg a]
    exact j false (fun z=>absurd z a) (fun _=>rfl)
theorem yA (y:Int) (h0:1970<=y) (h1:y<=1000000):iU.f y=some (vD y):=by
  unfold iU.f vD
  have e1:wrap64 (y-1970)=y-1970:=ak aa aa
  have e2:wrap64 (y-1)=y-1:=ak aa aa
  rw[e1,e2,td _ (by omega:0<=y-1),td _ (by omega:0<=y-1),td _ (by omega:0<=y-1)]
  rw[ak (x:=365*(y-1970)) aa aa,ak (x:=(y-1) / 4) aa aa,ak (x:=(y-1) / 100) aa aa,ak (x:=(y-1) / 400) aa aa]
  rw[ak (x:=365*(y-1970)+(y-1) / 4) aa aa,ak (x:=365*(y-1970)+(y-1) / 4-(y-1) / 100) aa aa,ak (x:=365*(y-1970)+(y-1) / 4-(y-1) / 100+(y-1) / 400) aa aa,ak aa aa]
theorem oH (a l h:Int):dB.f a l h=some (decide (l<=a/\a<=h)):=pV a l h
theorem D8 (Y M D h m s:Int) (k:Nat) (hk:0<k):fE.f k Y M D h m s=some (xz Y M D h m s):=by
  unfold fE.f xz
  rw[oH,aj]
  by_cases a:1970<=Y/\Y<=9999
  case neg=>rw[aT a,if_neg av];rfl
  rw[aQ a,if_pos rfl,oH,aj,Bool.true_and]
  by_cases b:1<=M/\M<=12
  case neg=>rw[aT b,if_neg av];rfl
  rw[aQ b,if_pos rfl,rH Y M aa k hk,aj,oH,aj,Bool.true_and]
  by_cases c:1<=D/\D<=Dn Y M
  case neg=>rw[aT c,if_neg av];rfl
  rw[aQ c,if_pos rfl,oH,aj,Bool.true_and]
  by_cases d:0<=h/\h<=23
  case neg=>rw[aT d,if_neg av];rfl
  rw[aQ d,if_pos rfl,oH,aj,Bool.true_and]
  by_cases e:0<=m/\m<=59
  case neg=>rw[aT e,if_neg av];rfl
  rw[aQ e,if_pos rfl,oH,aj,Bool.true_and]
theorem D9 (Y M D h m s:Int):eU.f Y M D h m s=some (xz Y M D h m s):=by
  have bad:∀ p:Prop,[Decidable p]->(xz Y M D h m s=true->p)->¬ p->some false=some (xz Y M D h m s):=by
    intro p _ h1 h2
    cases hc:xz Y M D h m s with
    |false=>rfl
    |true=>exact absurd (h1 hc) h2
  unfold eU.f
  by_cases a1:Y>=1970
  case neg=>rw[if_neg a1];exact bad (Y>=1970) (fun q=>((iG ..).1 q).1.1) a1
  rw[if_pos a1]
  by_cases a2:Y<=9999
  case neg=>rw[if_neg a2];exact bad _ (fun q=>((iG ..).1 q).1.2) a2
  rw[if_pos a2]
  by_cases b1:M>=1
  case neg=>rw[if_neg b1];exact bad (M>=1) (fun q=>((iG ..).1 q).2.1.1) b1
  rw[if_pos b1]
  by_cases b2:M<=12
  case neg=>rw[if_neg b2];exact bad _ (fun q=>((iG ..).1 q).2.1.2) b2
  rw[if_pos b2]
  by_cases c1:D>=1
  case neg=>rw[if_neg c1];exact bad (D>=1) (fun q=>((iG ..).1 q).2.2.1.1) c1
  rw[if_pos c1,rG Y M aa,aj]
  by_cases c2:D<=Dn Y M
  case neg=>rw[if_neg c2];exact bad _ (fun q=>((iG ..).1 q).2.2.1.2) c2
  rw[if_pos c2]
  by_cases d1:h>=0
  case neg=>rw[if_neg d1];exact bad (h>=0) (fun q=>((iG ..).1 q).2.2.2.1.1) d1
  rw[if_pos d1]
  by_cases d2:h<=23
  case neg=>rw[if_neg d2];exact bad _ (fun q=>((iG ..).1 q).2.2.2.1.2) d2
  rw[if_pos d2]
  by_cases e1:m>=0
  case neg=>rw[if_neg e1];exact bad (m>=0) (fun q=>((iG ..).1 q).2.2.2.2.1.1) e1
  rw[if_pos e1]
  by_cases e2:m<=59
  case neg=>rw[if_neg e2];exact bad _ (fun q=>((iG ..).1 q).2.2.2.2.1.2) e2
  rw[if_pos e2]
  by_cases f1:s>=0
  case neg=>rw[if_neg f1];exact bad (s>=0) (fun q=>((iG ..).1 q).2.2.2.2.2.1) f1
  rw[if_pos f1]
  unfold xz
  rw[aQ (⟨a1,a2⟩:1970<=Y/\Y<=9999),aQ (⟨b1,b2⟩:1<=M/\M<=12),aQ (⟨c1,c2⟩:1<=D/\D<=Dn Y M),aQ (⟨d1,d2⟩:0<=h/\h<=23),aQ (⟨e1,e2⟩:0<=m/\m<=59),Bool.true_and,Bool.true_and,Bool.true_and,Bool.true_and,Bool.true_and]
  exact congrArg some (decide_eq_decide.2 ⟨fun q=>⟨f1,q⟩,fun q=>q.2⟩)
theorem Dp (y:Int) (h0:1970<=y) (h1:y<=10000):0<=vD y/\vD y<=2932897:=by
  unfold vD;omega
theorem yX (y:Int) (n:Nat) (h:n<=12):0<=vE y n/\vE y n<=366:=by
  have a:=IK y n
  have b:=AL y n 12 h
  rw[JG] at b
  have c:=Lh y
  omega
def yL (Y M D h m s:Int):Int×Bool:=if xz Y M D h m s=true then(Ht Y M D h m s,true) else(0,false)
theorem Ea (Y M D h m s:Int) (hc:xz Y M D h m s=true):∀(d n k:Nat),n+d+1=M.toNat->d<k->∀ x:Int,x=vD Y+D-1+vE Y n->
    fF.l0 (k+1) x ((n:Int)+1) Y M D h m s=some (Ht Y M D h m s,true):=by
  have hf:=(iG ..).1 hc
  have hy:=Dp Y hf.1.1 aa
  have hdm:=IJ Y M
  intro d
  induction d with
  |zero=>
    intro n k h1 h2 x hx
    have hmb:=yX Y n aa
    simp only[fF.l0]
    rw[if_neg aa]
    rw[ak (x:=86400*x) aa aa,ak (x:=3600*h) aa aa,ak (x:=60*m) aa aa,ak (x:=86400*x+3600*h) aa aa,ak (x:=86400*x+3600*h+60*m) aa aa,ak aa aa]
    unfold Ht
    rw[show(M-1).toNat=n by omega]
    congr 2
    omega
  |succ d ih=>
    intro n k h1 h2 x hx
    obtain⟨k,rfl⟩:=aN k aa
    have hmb:=yX Y n aa
    have asn:=yX Y (n+1) aa
    have hs:vE Y (n+1)=vE Y n+Dn Y ((n:Int)+1):=rfl
    rw[fF.l0,if_pos aa,rH Y _ aa (k+1) aa,aj,ak (x:=x+_) aa aa,ak aa aa]
    exact ih (n+1) k aa aa _ aa
theorem AU (Y M D h m s:Int) (k:Nat) (hk:20<k):fF.f k Y M D h m s=some (yL Y M D h m s):=by
  unfold fF.f yL
  rw[D8 _ _ _ _ _ _ k aa,aj]
  cases hc:xz Y M D h m s with
  |false=>rfl
  |true=>
    have hf:=(iG ..).1 hc
    have hy:=Dp Y hf.1.1 aa
    have hdm:=IJ Y M
    obtain⟨k,rfl⟩:=aN k aa
    rw[if_pos rfl,if_pos rfl,yA Y aa aa,aj,ak (x:=vD Y+D) aa aa,ak aa aa]
    exact Ea Y M D h m s hc (M.toNat-1) 0 k aa aa _ (by show _=_+0;omega)
theorem Eb (Y M D h m s:Int) (hc:xz Y M D h m s=true):∀(d n k:Nat),n+d+1=M.toNat->d<k->∀ x:Int,x=vD Y+D-1+vE Y n->
    cB.l1 (k+1) x ((n:Int)+1) Y M D h m s=some (Ht Y M D h m s,true):=by
  have hf:=(iG ..).1 hc
  have hy:=Dp Y hf.1.1 aa
  have hdm:=IJ Y M
  intro d
  induction d with
  |zero=>
    intro n k h1 h2 x hx
    have hmb:=yX Y n aa
    simp only[cB.l1]
    rw[if_neg aa]
    rw[ak (x:=x*24) aa aa,ak (x:=x*24+h) aa aa,ak (x:=(x*24+h)*60) aa aa,ak (x:=(x*24+h)*60+m) aa aa,ak (x:=((x*24+h)*60+m)*60) aa aa,ak aa aa]
    unfold Ht
    rw[show(M-1).toNat=n by omega]
    congr 2
    omega
  |succ d ih=>
    intro n k h1 h2 x hx
    obtain⟨k,rfl⟩:=aN k aa
    have hmb:=yX Y n aa
    have asn:=yX Y (n+1) aa
    have hs:vE Y (n+1)=vE Y n+Dn Y ((n:Int)+1):=rfl
    rw[cB.l1,if_pos aa,rG Y _ aa,aj,ak (x:=x+_) aa aa,ak aa aa]
    exact ih (n+1) k aa aa _ aa
theorem Fj (Y M D h m s:Int) (hc:xz Y M D h m s=true):∀(d k:Nat) (y x:Int),1970<=y->y+d=Y->d+20<k->x=vD y+D-1->cB.l0 k x y Y M D h m s=some (Ht Y M D h m s,true):=by
  have hf:=(iG ..).1 hc
  have hdm:=IJ Y M
  intro d
  induction d with
  |zero=>
    intro k y x h0 h1 h2 hx
    obtain⟨k,rfl⟩:∃ q,k=q+2:=⟨k-2,by omega⟩
    rw[cB.l0,if_neg aa]
    exact Eb Y M D h m s hc (M.toNat-1) 0 k aa aa _ (by show _=_+0;rw[show Y=y by omega];omega)
  |succ d ih=>
    intro k y x h0 h1 h2 hx
    obtain⟨k,rfl⟩:=aN k aa
    have hy:=Dp y h0 aa
    have hs:=wJ y
    have hl:=Lh y
    have hg:=aap y
    rw[cB.l0,if_pos aa,wN y aa,aj,ak (x:=x+_) aa aa,ak (x:=y+1) aa aa]
    exact ih k (y+1) _ aa aa aa aa
theorem uj (Y M D h m s:Int) (k:Nat) (hk:9000<k):cB.f k Y M D h m s=some (yL Y M D h m s):=by
  unfold cB.f yL
  rw[D9,aj]
  cases hc:xz Y M D h m s with
  |false=>rfl
  |true=>
    have hf:=(iG ..).1 hc
    have hdm:=IJ Y M
    have e:vD 1970=0:=by decide
    rw[if_pos rfl,if_pos rfl,ak (x:=D-1) aa aa]
    exact Fj Y M D h m s hc (Y-1970).toNat k 1970 _ (Int.le_refl _) aa aa (by rw[e];omega)
theorem Ec (t:Int) (ht:ry t) (h i s:Int):∀(d n k:Nat),n+d=cN t->d<k->∀ x:Int,x=t / 86400-vD (cY t)-vE (cY t) n->
    cO.l1 k x (cY t) ((n:Int)+1) 0 h i s=some (cY t,cM t,cD t,h,i,s,true):=by
  obtain⟨y1,y2,y3,y4⟩:=xN t ht
  obtain⟨m1,m2,m3⟩:=AP t ht
  have hy:=Dp (cY t) y3 aa
  have hys:=wJ (cY t)
  have hyl:=Lh (cY t)
  intro d
  induction d with
  |zero=>
    intro n k h1 h2 x hx
    obtain⟨k,rfl⟩:=aN k aa
    obtain rfl:n=cN t:=by omega
    have hmb:=yX (cY t) (cN t) aa
    have hs:vE (cY t) (cN t+1)=vE (cY t) (cN t)+Dn (cY t) ((cN t:Int)+1):=rfl
    rw[cO.l1,rG _ _ aa,aj,if_neg aa,ak aa aa]
    unfold cD cM
    rw[hx]
  |succ d ih=>
    intro n k h1 h2 x hx
    obtain⟨k,rfl⟩:=aN k aa
    have hmb:=yX (cY t) n aa
    have hs:vE (cY t) (n+1)=vE (cY t) n+Dn (cY t) ((n:Int)+1):=rfl
    have hmono:=AL (cY t) (n+1) (cN t) aa
    have hdg:=Ua (cY t) ((n:Int)+1)
    rw[cO.l1,rG _ _ aa,aj,if_pos aa,aj,ak (x:=x-_) aa aa,ak aa aa]
    exact ih (n+1) k aa aa _ aa
theorem Fp (t:Int) (ht:ry t) (h i s:Int):∀(d k:Nat) (y x:Int),1970<=y->y+d=cY t->d+20<k->x=t / 86400-vD y->cO.l0 k x y 1 0 h i s=some (cY t,cM t,cD t,h,i,s,true):=by
  obtain⟨y1,y2,y3,y4⟩:=xN t ht
  intro d
  induction d with
  |zero=>
    intro k y x h0 h1 h2 hx
    obtain⟨k,rfl⟩:=aN k aa
    obtain rfl:y=cY t:=by omega
    have hys:=wJ (cY t)
    obtain⟨m1,m2,m3⟩:=AP t ht
    rw[cO.l0,wN _ aa,aj,if_neg aa]
    exact Ec t ht h i s (cN t) 0 k aa aa x (by show _=_-0;omega)
  |succ d ih=>
    intro k y x h0 h1 h2 hx
    obtain⟨k,rfl⟩:=aN k aa
    have hy:=Dp y h0 aa
    have hs:=wJ y
    have hm:=AO (y+1) (cY t) aa
    have hl:=Lh y
    have hlg:=aap y
    unfold ry at ht
    rw[cO.l0,wN _ aa,aj,if_pos aa,aj,ak (x:=x-_) aa aa,ak (x:=y+1) aa aa]
    exact ih k (y+1) _ aa aa aa aa
instance (t:Int):Decidable (ry t):=by unfold ry;infer_instance
theorem qf (t:Int):nG t=true↔ry t:=by unfold nG ry;exact decide_eq_true_iff
theorem q8 (t:Int) (ht:ry t) (k:Nat) (hk:9000<k):cO.f k t=some (cY t,cM t,cD t,cH t,cI t,cS t,true):=by
  obtain⟨y1,y2,y3,y4⟩:=xN t ht
  have ht':=ht
  unfold ry at ht'
  have e:vD 1970=0:=by decide
  unfold cO.f
  rw[nk,aj,if_pos ((qf t).2 ht),td _ ht'.1,td _ ht'.1,td _ ht'.1,ak (x:=t / 86400) aa aa,ak (x:=t / 3600) aa aa,ak (x:=t / 60) aa aa,tm _ (by omega:0<=t / 3600),tm _ (by omega:0<=t / 60),tm _ ht'.1]
  have h1:t / 3600%24=cH t:=by unfold cH;omega
  have h2:t / 60%60=cI t:=by unfold cI;omega
  rw[h1,h2,show t%60=cS t from rfl]
  exact Fp t ht _ _ _ (cY t-1970).toNat k 1970 _ (Int.le_refl _) aa aa (by rw[e];omega)
theorem rf (t:Int) (ht:¬ ry t) (k:Nat):cO.f k t=some (0,0,0,0,0,0,false):=by
  unfold cO.f
  rw[nk,aj,if_neg (fun q=>ht ((qf t).1 q))]
theorem Ed (t:Int) (ht:ry t) (h i s:Int):∀(d n k:Nat),n+d=cN t->d<k->∀ x:Int,x=t / 86400-vD (cY t)-vE (cY t) n->
    dn.l1 (k+1) x (cY t) ((n:Int)+1) 0 h i s=some (cY t,cM t,cD t,h,i,s):=by
  obtain⟨y1,y2,y3,y4⟩:=xN t ht
  obtain⟨m1,m2,m3⟩:=AP t ht
  have hy:=Dp (cY t) y3 aa
  have hys:=wJ (cY t)
  have hyl:=Lh (cY t)
  intro d
  induction d with
  |zero=>
    intro n k h1 h2 x hx
    obtain rfl:n=cN t:=by omega
    have hmb:=yX (cY t) (cN t) aa
    have hs:vE (cY t) (cN t+1)=vE (cY t) (cN t)+Dn (cY t) ((cN t:Int)+1):=rfl
    rw[dn.l1,rH _ _ aa k aa,aj,if_neg aa,ak aa aa]
    unfold cD cM
    rw[hx]
  |succ d ih=>
    intro n k h1 h2 x hx
    obtain⟨k,rfl⟩:=aN k aa
    have hmb:=yX (cY t) n aa
    have hs:vE (cY t) (n+1)=vE (cY t) n+Dn (cY t) ((n:Int)+1):=rfl
    have hmono:=AL (cY t) (n+1) (cN t) aa
    have hdg:=Ua (cY t) ((n:Int)+1)
    rw[dn.l1,rH _ _ aa (k+1) aa,aj,if_pos aa,aj,ak (x:=x-_) aa aa,ak aa aa]
    exact ih (n+1) k aa aa _ aa
theorem Fq (t:Int) (ht:ry t) (h i s:Int):∀(d k:Nat) (y:Int),1970<=y->y+d=cY t->d+20<k->dn.l0 k (t / 86400) y 1 0 h i s=some (cY t,cM t,cD t,h,i,s):=by
  obtain⟨y1,y2,y3,y4⟩:=xN t ht
  have ht':=ht
  unfold ry at ht'
  intro d
  induction d with
  |zero=>
    intro k y h0 h1 h2
    obtain⟨k,rfl⟩:∃ q,k=q+2:=⟨k-2,by omega⟩
    obtain rfl:y=cY t:=by omega
    have hy:=Dp (cY t) y3 aa
    obtain⟨m1,m2,m3⟩:=AP t ht
    rw[dn.l0,ak (x:=cY t+1) aa aa,yA _ aa aa,aj,if_neg aa,yA _ aa aa,aj,ak (x:=t / 86400-_) aa aa]
    exact Ed t ht h i s (cN t) 0 k aa aa _ (by show _=_-0;omega)
  |succ d ih=>
    intro k y h0 h1 h2
    obtain⟨k,rfl⟩:=aN k aa
    have hm:=AO (y+1) (cY t) aa
    rw[dn.l0,ak (x:=y+1) aa aa,yA _ aa aa,aj,if_pos aa]
    exact ih k (y+1) aa aa aa
theorem ow (t:Int) (ht:ry t) (k:Nat) (hk:9000<k):dn.f k t=some (cY t,cM t,cD t,cH t,cI t,cS t):=by
  obtain⟨y1,y2,y3,y4⟩:=xN t ht
  have ht':=ht
  unfold ry at ht'
  have hstart:1970+t / 86400 / 366<=cY t:=by
    by_cases q:1970+t / 86400 / 366<=cY t
    · exact q
    · exfalso
      have hm:=AO (cY t+1) (1970+t / 86400 / 366) aa
      have hb:vD (1970+t / 86400 / 366)<=366*(t / 86400 / 366):=by unfold vD;omega
      omega
  unfold dn.f
  rw[td _ ht'.1,tm _ ht'.1,ak (x:=t / 86400) aa aa,td _ (by omega:0<=t / 86400),td _ (by omega:0<=t%86400),td _ (by omega:0<=t%86400),tm _ (by omega:0<=t%86400),ak (x:=t / 86400 / 366) aa aa,ak (x:=1970+_) aa aa,ak (x:=t%86400 / 3600) aa aa,ak (x:=t%86400 / 60) aa aa,tm _ (by omega:0<=t%86400 / 60)]
  have h2:t%86400 / 60%60=cI t:=by unfold cI;omega
  have h3:t%86400%60=cS t:=by unfold cS;omega
  rw[h2,h3,show t%86400 / 3600=cH t from rfl]
  exact Fq t ht _ _ _ (cY t-(1970+t / 86400 / 366)).toNat k _ aa aa aa
def vM (t:Int):Int:=(t / 86400+3)%7
theorem zJ (t:Int) (ht:ry t):lK.f t=some (vM t):=by
  have ht':=ht
  unfold ry at ht'
  unfold lK.f vM
  rw[nk,aj,if_pos ((qf t).2 ht),td _ ht'.1,ak (x:=t / 86400) aa aa,ak (x:=t / 86400+3) aa aa,tm _ aa]
theorem zK (t:Int) (ht:ry t):lL.f t=some (vM t):=by
  have ht':=ht
  unfold ry at ht'
  unfold lL.f vM
  rw[lI,aj,if_pos ((qf t).2 ht),td _ ht'.1,ak (x:=t / 86400) aa aa,ak (x:=t / 86400+3) aa aa,tm _ aa]

def jf (l:List UInt8):ByteArray:=⟨l.toArray⟩
theorem fu (l:List UInt8):(jf l).size=l.length:=by simp[jf,ByteArray.size]
theorem l8 (a b:List UInt8):jf a++jf b=jf (a++b):=by
  apply ByteArray.ext
  simp[jf]
theorem Fs (n:Int) (h0:0<=n) (h1:n<10):iQ n=jf [ji n]:=by
  obtain⟨m,rfl⟩:=Int.eq_ofNat_of_zero_le h0
  unfold iQ Lib.itoa
  rw[if_neg aa,Int.toNat_natCast,Lib.decDigits_one aa]
  unfold ji jf
  rw[show((m:Int)%10).toNat=m by omega]
theorem YS (n:Int):ji (n%10)=ji n:=by
  unfold ji
  rw[show n%10%10=n%10 by omega]
theorem yY : ∀(c:Nat) (n:Int) (out:List UInt8) (k:Nat),0<=n->n<=1000000000->out.length+c<=100->c<=10->c<k->
    dG.l0 k n (c:Int) (jf out)=some (jf (((List.range c).reverse.map fun j=>ji (n / 10 ^ j))++out)):=by
  intro c
  induction c with
  |zero=>
    intro n out k h0 h1 h2 h3 hk
    obtain⟨k,rfl⟩:=aN k aa
    rw[dG.l0,if_neg aa]
    rfl
  |succ c ih=>
    intro n out k h0 h1 h2 h3 hk
    obtain⟨k,rfl⟩:=aN k aa
    have hi:iw.f (n%10)=some (iQ (n%10)):=if_pos ⟨by omega,by omega⟩
    have hz:=fu [ji (n%10)]
    have hz2:=fu out
    rw[dG.l0,if_pos aa,tm _ h0,hi,aj,Fs (n%10) aa aa,if_pos (by rw[hz,hz2];have q:[ji (n%10)].length=1:=rfl;omega),td _ h0,ak (x:=n / 10) aa aa,ak aa aa,show((c+1:Nat):Int)-1=(c:Int) by omega,l8,ih (n / 10) _ k aa aa (by rw[List.length_append,List.length_singleton];omega) aa aa]
    congr 2
    rw[List.range_succ_eq_map,List.reverse_cons,List.map_append]
    simp only[List.map_reverse,List.map_map,List.map_cons,List.map_nil,List.append_assoc,List.cons_append,List.nil_append]
    have e1:ji (n / 10 ^ 0)=ji (n%10):=by rw[YS];simp
    rw[e1]
    congr 1
    congr 1
    apply List.map_congr_left
    intro j _
    show ji (n / 10 / 10 ^ j)=ji (n / 10 ^ (j+1))
    rw[Int.pow_succ,Int.mul_comm,<- Int.ediv_ediv_of_nonneg av]
theorem qg (n:Int) (h0:0<=n) (h1:n<=1000000000) (k:Nat) (hk:20<k):dG.f k n 2=some (jf (fK n)):=by
  have:=yY 2 n [] k h0 h1 av av aa
  unfold dG.f
  refine this.trans ?_
  congr 2
  show [ji (n / 10 ^ 1),ji (n / 10 ^ 0)] ++ []=_
  unfold fK
  simp
theorem IM (n:Int) (h0:0<=n) (h1:n<=1000000000) (k:Nat) (hk:20<k):dG.f k n 4=some (jf (o6 n)):=by
  have:=yY 4 n [] k h0 h1 av av aa
  unfold dG.f
  refine this.trans ?_
  congr 2
  show [ji (n / 10 ^ 3),ji (n / 10 ^ 2),ji (n / 10 ^ 1),ji (n / 10 ^ 0)] ++ []=_
  unfold o6
  simp
theorem AV (u:Nat) (h:10<=u):Lib.decDigits u=Lib.decDigits (u / 10) ++ [ji (u:Int)]:=by
  have e:ji (u:Int)=UInt8.ofNat (48+u%10):=by unfold ji;rw[show((u:Int)%10).toNat=u%10 by omega]
  rw[e,Lib.decDigits,dif_neg aa]
theorem Fu (u:Nat) (h:u<10):Lib.decDigits u = [ji (u:Int)]:=by
  rw[Lib.decDigits_one h]
  unfold ji
  rw[show((u:Int)%10).toNat=u by omega]
theorem Lj (n:Int) (h0:0<=n):iQ n=jf (Lib.decDigits n.toNat):=by
  unfold iQ Lib.itoa jf
  rw[if_neg aa]
theorem Fv (s:af) (c:Int) (h:c<=s.size) (k:Nat):eD.l0 (k+1) c s=some s:=by
  rw[eD.l0,if_neg aa]
theorem qh (n:Int) (h0:0<=n) (h1:n<=99) (k:Nat) (hk:200<k):eD.f k n 2=some (jf (fK n)):=by
  obtain⟨k,rfl⟩:∃ q,k=q+2:=⟨k-2,by omega⟩
  obtain⟨u,rfl⟩:=Int.eq_ofNat_of_zero_le h0
  unfold eD.f
  rw[jE _ h0 aa _ aa,aj,Lj _ h0,Int.toNat_natCast]
  by_cases c:u<10
  · rw[Fu u c,eD.l0,fu,if_pos (by simp),if_pos (by simp)]
    have e:(⟨#[48]⟩:af)++jf [ji (u:Int)]=jf (fK (u:Int)):=by
      show jf [48]++jf _=_
      rw[l8]
      unfold fK
      have:ji ((u:Int) / 10)=48:=by
        unfold ji
        rw[show((u:Int) / 10%10).toNat=0 by omega];rfl
      rw[this];rfl
    rw[e]
    exact Fv _ _ (by rw[fu];exact Int.le_refl _) _
  · rw[AV u aa,Fu (u / 10) aa]
    have e:[ji ((u / 10:Nat):Int)] ++ [ji (u:Int)]=fK (u:Int):=by
      unfold fK
      rw[show((u / 10:Nat):Int)=(u:Int) / 10 by omega];rfl
    rw[e]
    exact Fv _ _ (by rw[fu];exact Int.le_refl _) _
theorem IP (n:Int) (h0:1000<=n) (h1:n<=9999) (k:Nat) (hk:200<k):eD.f k n 4=some (jf (o6 n)):=by
  obtain⟨k,rfl⟩:∃ q,k=q+2:=⟨k-2,by omega⟩
  obtain⟨u,rfl⟩:=Int.eq_ofNat_of_zero_le (by omega:0<=n)
  unfold eD.f
  rw[jE _ aa aa _ aa,aj,Lj _ aa,Int.toNat_natCast,AV u aa,AV (u / 10) aa,AV (u / 10 / 10) aa,Fu (u / 10 / 10 / 10) aa]
  have e:[ji ((u / 10 / 10 / 10:Nat):Int)] ++ [ji ((u / 10 / 10:Nat):Int)] ++ [ji ((u / 10:Nat):Int)] ++ [ji (u:Int)]=o6 (u:Int):=by
    unfold o6
    rw[show((u / 10:Nat):Int)=(u:Int) / 10 by omega,show((u / 10 / 10:Nat):Int)=(u:Int) / 100 by omega,show((u / 10 / 10 / 10:Nat):Int)=(u:Int) / 1000 by omega];rfl
  rw[e]
  exact Fv _ _ (by rw[fu];exact Int.le_refl _) _
theorem JK (w:Int) (h:0<=w/\w<=6):jZ.f w=some (jf (o5 w)):=by
  unfold jZ.f o5
  repeat' split
  all_goals rfl
theorem Uh : ∀ n:Fin 12,iP.f ((n.val:Int)+1)=some (jf (oL ((n.val:Int)+1))):=by decide +kernel
theorem AX (m:Int) (h:1<=m/\m<=12):iP.f m=some (jf (oL m)):=by
  obtain⟨n,hn⟩:=Int.eq_ofNat_of_zero_le (by omega:0<=m-1)
  have:=Uh ⟨n,by omega⟩
  rw[show m=(n:Int)+1 by omega]
  exact this
def wO : List ByteArray:=[(⟨#[74,97,110]⟩:af),(⟨#[70,101,98]⟩:af),(⟨#[77,97,114]⟩:af),(⟨#[65,112,114]⟩:af),(⟨#[77,97,121]⟩:af),(⟨#[74,117,110]⟩:af),(⟨#[74,117,108]⟩:af),(⟨#[65,117,103]⟩:af),(⟨#[83,101,112]⟩:af),(⟨#[79,99,116]⟩:af),(⟨#[78,111,118]⟩:af),(⟨#[68,101,99]⟩:af)]
def Ll : List ByteArray:=[(⟨#[77,111,110,100,97,121]⟩:af),(⟨#[84,117,101,115,100,97,121]⟩:af),(⟨#[87,101,100,110,101,115,100,97,121]⟩:af),(⟨#[84,104,117,114,115,100,97,121]⟩:af),(⟨#[70,114,105,100,97,121]⟩:af),(⟨#[83,97,116,117,114,100,97,121]⟩:af),(⟨#[83,117,110,100,97,121]⟩:af)]
theorem yB : mK.f=some wO:=rfl
theorem JL : sw.f=some Ll:=rfl
theorem EE (n:Nat) (h:n<12):ed ByteArray.empty wO (n:Int)=jf (oL ((n:Int)+1)):=by
  have e:n=0∨n=1∨n=2∨n=3∨n=4∨n=5∨n=6∨n=7∨n=8∨n=9∨n=10∨n=11:=by omega
  rcases e with rfl|rfl|rfl|rfl|rfl|rfl|rfl|rfl|rfl|rfl|rfl|rfl <;> rfl
theorem JM (w:Int) (h:0<=w/\w<=6):ed ByteArray.empty Ll w=jf (o5 w):=by
  have e:w=0∨w=1∨w=2∨w=3∨w=4∨w=5∨w=6:=by omega
  rcases e with rfl|rfl|rfl|rfl|rfl|rfl|rfl <;> rfl
theorem AY (l:List UInt8) (n:Nat):(jf l).extract 0 n=jf (l.take n):=by
  apply ByteArray.ext
  simp[jf]
theorem u6 (a b c h i s:Int) (h1:0<=h/\h<=23) (h2:0<=i/\i<=59) (h3:0<=s/\s<=59) (k:Nat) (hk:200<k):jS.f k a b c h i s=some (jf (mi h i s)):=by
  have e:(⟨#[58]⟩:af)=jf [58]:=rfl
  unfold jS.f
  rw[qg h aa aa k aa,aj,if_pos (by rw[fu];simp[fK]),qg i aa aa k aa,aj,e]
  simp only[l8,fu]
  rw[if_pos (by simp[fK]),if_pos (by simp[fK]),qg s aa aa k aa,aj]
  simp only[l8,fu]
  rw[if_pos (by simp[fK])]
  rfl
theorem u7 (a b c h i s:Int) (h1:0<=h/\h<=23) (h2:0<=i/\i<=59) (h3:0<=s/\s<=59) (k:Nat) (hk:200<k):iy.f k a b c h i s=some (jf (mi h i s)):=by
  have e:(⟨#[58]⟩:af)=jf [58]:=rfl
  unfold iy.f
  rw[qh h aa aa k aa,aj,if_pos (by rw[fu];simp[fK]),qh i aa aa k aa,aj,e]
  simp only[l8,fu]
  rw[if_pos (by simp[fK]),if_pos (by simp[fK]),qh s aa aa k aa,aj]
  simp only[l8,fu]
  rw[if_pos (by simp[fK])]
  rfl
theorem vN (t:Int):0<=vM t/\vM t<=6:=by unfold vM;omega
def sO (t:Int):ByteArray:=jf ((o5 (vM t)).take 3++sK (cY t) (cM t) (cD t) (cH t) (cI t) (cS t))
def oI (t:Int):ByteArray:=jf (o5 (vM t)++vL (cY t) (cM t) (cD t) (cH t) (cI t) (cS t))
def sP (t:Int):ByteArray:=jf ((o5 (vM t)).take 3++nJ (cY t) (cM t) (cD t) (cH t) (cI t) (cS t))
theorem Lm (k:Int):∃ a b c,(o5 k).take 3 = [a,b,c]:=by
  generalize hl:o5 k=l
  unfold o5 at hl
  repeat' split at hl
  all_goals (subst hl;exact⟨_,_,_,rfl⟩)
theorem lT (t:Int) (h:ry t):(1970<=cY t/\cY t<=9999)/\(1<=cM t/\cM t<=12)/\(1<=cD t/\cD t<=31)/\(0<=cH t/\cH t<=23)/\(0<=cI t/\cI t<=59)/\(0<=cS t/\cS t<=59):=by
  have hc:=(iG ..).1 (ahq t h)
  have:=IJ (cY t) (cM t)
  exact⟨hc.1,hc.2.1,⟨hc.2.2.1.1,by omega⟩,hc.2.2.2.1,hc.2.2.2.2.1,hc.2.2.2.2.2⟩

theorem YT : (⟨#[44,32]⟩:af)=jf [44,32]:=rfl
theorem Lp : (⟨#[32]⟩:af)=jf [32]:=rfl
theorem ahs : (⟨#[45]⟩:af)=jf [45]:=rfl
theorem YU : (⟨#[32,71,77,84]⟩:af)=jf vK:=rfl
theorem JN (t:Int) (h:ry t):wrap64 (cM t-1)=(cN t:Int)/\cN t<12/\(cN t:Int)+1=cM t:=by
  have hb:=(lT t h).2.1
  have:cM t=(cN t:Int)+1:=rfl
  refine⟨by rw[ak aa aa];omega,by omega,by omega⟩
theorem AZ (t:Int) (ht:ry t) (k:Nat) (hk:10000<k):gp.f k t=some (sO t):=by
  obtain⟨hY,hM,hD,hh,hi,hs⟩:=lT t ht
  obtain⟨a,b,c,h3⟩:=Lm (vM t)
  obtain⟨x,y,z,hm,_⟩:=fw (cM t)
  have hlen:=qI (vM t)
  have h3':3<=((jf (o5 (vM t))).size:Int):=by rw[fu];omega
  unfold gp.f sO sK
  rw[q8 t ht k aa,aj]
  dsimp only
  rw[if_pos rfl,zJ t ht,aj,JK _ (vN t),aj,if_pos av,if_pos h3',AY,h3,YT,Lp,YU,qh (cD t) aa aa k aa,AX _ hM,IP (cY t) aa aa k aa,u7 _ _ _ (cH t) (cI t) (cS t) hh hi hs k aa]
  simp only[aj,l8,fu]
  rw[hm]
  repeat rw[if_pos (by simp[fK,o6,mi,vK])]
  simp only[List.append_assoc]
theorem JO (t:Int) (ht:ry t) (k:Nat) (hk:10000<k):gT.f k t=some (sO t):=by
  obtain⟨hY,hM,hD,hh,hi,hs⟩:=lT t ht
  obtain⟨a,b,c,h3⟩:=Lm (vM t)
  obtain⟨x,y,z,hm,_⟩:=fw (cM t)
  obtain⟨p1,p2,p3⟩:=JN t ht
  have hw:=vN t
  have hlen:=qI (vM t)
  have h3':3<=((jf (o5 (vM t))).size:Int):=by rw[fu];omega
  have l7:Ll.length=7:=rfl
  have l12:wO.length=12:=rfl
  unfold gT.f sO sK
  rw[lI,aj,if_pos ((qf t).2 ht),ow t ht k aa,aj]
  dsimp only
  rw[JL,aj,zK t ht,aj,if_pos hw.1,l7,if_pos aa,JM _ hw,if_pos av,if_pos h3',AY,h3,YT,Lp,YU,qg (cD t) aa aa k aa,yB,IM (cY t) aa aa k aa,u6 _ _ _ (cH t) (cI t) (cS t) hh hi hs k aa,p1]
  simp only[aj,EE _ p2,p3,l8,fu,l12]
  rw[hm]
  repeat rw[if_pos (by first|(simp[fK,o6,mi,vK];done)|omega)]
  simp only[List.append_assoc]
theorem Bg (t:Int) (ht:ry t) (k:Nat) (hk:10000<k):dN.f k t=some (if cY t<=2069 then oI t else(⟨#[]⟩:af)):=by
  obtain⟨hY,hM,hD,hh,hi,hs⟩:=lT t ht
  obtain⟨x,y,z,hm,_⟩:=fw (cM t)
  have hlen:=qI (vM t)
  obtain⟨k,rfl⟩:=aN k aa
  unfold dN.f
  rw[q8 t ht (k+1) aa,aj]
  dsimp only
  rw[if_pos rfl]
  simp only[dN.j0]
  by_cases hc:cY t<=2069
  case neg=>rw[aQ aa,if_pos rfl,if_neg hc]
  rw[aT aa,if_neg av,if_pos hc]
  unfold oI vL
  have hy2:Int.tmod (cY t) 100=cY t%100:=tm _ aa
  have hd2:fK (cY t%100)=fK (cY t):=by
    unfold fK ji
    rw[show cY t%100 / 10%10=cY t / 10%10 by omega,show cY t%100%10=cY t%10 by omega]
  rw[zJ t ht,aj,JK _ (vN t),aj,YT,Lp,ahs,YU,qh (cD t) aa aa k aa,AX _ hM,hy2,qh (cY t%100) aa aa k aa,hd2,u7 _ _ _ (cH t) (cI t) (cS t) hh hi hs k aa]
  simp only[aj,l8,fu]
  rw[hm]
  repeat rw[if_pos (by simp[fK,o6,mi,vK];omega)]
  simp only[List.append_assoc]
theorem JP (t:Int) (ht:ry t) (k:Nat) (hk:10000<k):eF.f k t=some (if cY t<=2069 then oI t else(⟨#[]⟩:af)):=by
  obtain⟨hY,hM,hD,hh,hi,hs⟩:=lT t ht
  obtain⟨x,y,z,hm,_⟩:=fw (cM t)
  obtain⟨p1,p2,p3⟩:=JN t ht
  have hw:=vN t
  have hlen:=qI (vM t)
  have l7:Ll.length=7:=rfl
  have l12:wO.length=12:=rfl
  obtain⟨k,rfl⟩:=aN k aa
  unfold eF.f
  rw[lI,aj,if_pos ((qf t).2 ht),ow t ht (k+1) aa,aj]
  simp only[eF.j0]
  by_cases hc:cY t<=2069
  case neg=>rw[aQ aa,if_pos rfl,if_neg hc]
  rw[aT aa,if_neg av,if_pos hc,ow t ht k aa,aj]
  dsimp only
  unfold oI vL
  rw[JL,aj,zK t ht,aj,if_pos hw.1,l7,if_pos aa,JM _ hw,YT,Lp,ahs,YU,qg (cD t) aa aa k aa,yB,qg (cY t) aa aa k aa,u6 _ _ _ (cH t) (cI t) (cS t) hh hi hs k aa,p1]
  simp only[aj,EE _ p2,p3,l8,fu,l12]
  rw[hm]
  repeat rw[if_pos (by first|omega|(simp[fK,o6,mi,vK];omega))]
  simp only[List.append_assoc]
theorem Bh (t:Int) (ht:ry t) (k:Nat) (hk:10000<k):dH.f k t=some (sP t):=by
  obtain⟨hY,hM,hD,hh,hi,hs⟩:=lT t ht
  obtain⟨a,b,c,h3⟩:=Lm (vM t)
  obtain⟨x,y,z,hm,_⟩:=fw (cM t)
  have hlen:=qI (vM t)
  have h3':3<=((jf (o5 (vM t))).size:Int):=by rw[fu];omega
  obtain⟨k,rfl⟩:=aN k aa
  have j:∀ dd:List UInt8,dd.length=2->dH.j0 (k+1) t (jf dd) (cY t) (cM t) (cD t) (cH t) (cI t) (cS t)=some (jf ([a,b,c]++([32]++oL (cM t) ++ [32]++dd ++ [32]++mi (cH t) (cI t) (cS t) ++ [32]++o6 (cY t)))):=by
    intro dd hdd
    simp only[dH.j0]
    rw[zJ t ht,aj,JK _ (vN t),aj,if_pos av,if_pos h3',AY,h3,Lp,AX _ hM,IP (cY t) aa aa k aa,u7 _ _ _ (cH t) (cI t) (cS t) hh hi hs k aa]
    simp only[aj,l8,fu]
    rw[hm]
    repeat rw[if_pos (by simp[fK,o6,mi,vK,hdd])]
    simp only[List.append_assoc]
  unfold dH.f sP nJ
  rw[q8 t ht (k+1) aa,aj]
  dsimp only
  rw[if_pos rfl,qh (cD t) aa aa (k+1) aa,aj,h3]
  by_cases q:cD t<10
  · have hx:bX.f (k+1) (cD t)=some (jf [ji (cD t)]):=by rw[jE _ aa aa _ aa,Fs _ aa aa]
    rw[if_pos q,if_pos q,hx,aj,if_pos (by rw[fu];simp),Lp,l8]
    exact j [32,ji (cD t)] rfl
  · rw[if_neg q,if_neg q]
    exact j (fK (cD t)) rfl
theorem JQ (t:Int) (ht:ry t) (k:Nat) (hk:10000<k):dW.f k t=some (sP t):=by
  obtain⟨hY,hM,hD,hh,hi,hs⟩:=lT t ht
  obtain⟨a,b,c,h3⟩:=Lm (vM t)
  obtain⟨x,y,z,hm,_⟩:=fw (cM t)
  obtain⟨p1,p2,p3⟩:=JN t ht
  have hw:=vN t
  have hlen:=qI (vM t)
  have h3':3<=((jf (o5 (vM t))).size:Int):=by rw[fu];omega
  have l7:Ll.length=7:=rfl
  have l12:wO.length=12:=rfl
  obtain⟨k,rfl⟩:=aN k aa
  have j:∀ dd:List UInt8,dd.length=2->dW.j0 (k+1) t (jf dd) (cY t) (cM t) (cD t) (cH t) (cI t) (cS t)=some (jf ([a,b,c]++([32]++oL (cM t) ++ [32]++dd ++ [32]++mi (cH t) (cI t) (cS t) ++ [32]++o6 (cY t)))):=by
    intro dd hdd
    simp only[dW.j0]
    rw[JL,aj,zK t ht,aj,if_pos hw.1,l7,if_pos aa,JM _ hw,if_pos av,if_pos h3',AY,h3,Lp,yB,IM (cY t) aa aa k aa,u6 _ _ _ (cH t) (cI t) (cS t) hh hi hs k aa,p1]
    simp only[aj,EE _ p2,p3,l8,fu,l12]
    rw[hm]
    repeat rw[if_pos (by first|(simp[fK,o6,mi,vK,hdd];done)|omega)]
    simp only[List.append_assoc]
  unfold dW.f sP nJ
  rw[lI,aj,if_pos ((qf t).2 ht),ow t ht (k+1) aa,aj]
  dsimp only
  rw[qg (cD t) aa aa (k+1) aa,aj,h3]
  by_cases q:cD t<10
  · have hx:(jf (fK (cD t))).extract 1 (jf (fK (cD t))).size=jf [ji (cD t)]:=by
      apply ByteArray.ext
      simp[jf,fK,ByteArray.size]
    rw[if_pos q,if_pos q,if_pos (by rw[fu];simp[fK]),hx,if_pos (by rw[fu];simp),Lp,l8]
    exact j [32,ji (cD t)] rfl
  · rw[if_neg q,if_neg q]
    exact j (fK (cD t)) rfl
theorem JR (t:Int) (ht:¬ ry t) (k:Nat):gp.f k t=some (⟨#[]⟩:af):=by
  unfold gp.f
  rw[rf t ht k,aj]
  rfl
theorem JS (t:Int) (ht:¬ ry t) (k:Nat):dH.f k t=some (⟨#[]⟩:af):=by
  unfold dH.f
  rw[rf t ht k,aj]
  rfl
theorem JU (t:Int) (ht:¬ ry t) (k:Nat) (hk:0<k):dN.f k t=some (⟨#[]⟩:af):=by
  obtain⟨k,rfl⟩:=aN k hk
  unfold dN.f
  rw[rf t ht (k+1),aj]
  simp only[dN.j0]
  rfl

def Hu (u:af) (l:List UInt8):Bool:=Lib.contains u.data.toList l
theorem Bi (u:af) (p:Nat) (a:UInt8):u.data.toList[p]? = some a↔p<u.size/\bt u (p:Int)=(a.toNat:Int):=by
  constructor
  · intro h
    obtain⟨h1,h2⟩:=List.getElem?_eq_some_iff.1 h
    have h3:p<u.size:=by rw[<- fP];exact h1
    refine⟨h3,?_⟩
    unfold bt
    rw[dif_pos (show((p:Int)).toNat<u.size by simpa using h3),<- h2]
    rfl
  · intro⟨h1,h2⟩
    have h3:p<u.data.toList.length:=by rw[fP];exact h1
    rw[List.getElem?_eq_getElem h3]
    unfold bt at h2
    rw[dif_pos (show((p:Int)).toNat<u.size by simpa using h1)] at h2
    have h4:(u.data.toList[p]).toNat=a.toNat:=by
      have:((u.data.toList[p]).toNat:Int)=(a.toNat:Int):=h2
      omega
    rw[UInt8.toNat_inj.1 h4]
theorem aht (s:List UInt8) (a b c:UInt8) (p:Nat):Lib.occAt s [a,b,c] p=true↔s[p]? = some a/\s[p+1]? = some b/\s[p+2]? = some c:=by
  unfold Lib.occAt
  have e0:s[p]? = (s.drop p)[0]?:=by rw[List.getElem?_drop];rfl
  have e1:s[p+1]? = (s.drop p)[1]?:=by rw[List.getElem?_drop]
  have e2:s[p+2]? = (s.drop p)[2]?:=by rw[List.getElem?_drop]
  rw[e0,e1,e2]
  generalize s.drop p=l
  match l with
  |[]=>simp
  |[x]=>simp
  |[x,y]=>simp
  |x::y::z::r=>
    have e:[a,b,c].isPrefixOf (x::y::z::r)=(a==x&&(b==y&&(c==z&&true))):=by
      simp only[List.isPrefixOf]
    have f0:(x::y::z::r)[0]? = some x:=rfl
    have f1:(x::y::z::r)[1]? = some y:=rfl
    have f2:(x::y::z::r)[2]? = some z:=rfl
    rw[e,f0,f1,f2]
    simp only[Bool.and_eq_true,beq_iff_eq,Option.some.injEq,and_true]
    constructor
    · rintro⟨rfl,rfl,rfl⟩;exact⟨rfl,rfl,rfl⟩
    · rintro⟨rfl,rfl,rfl⟩;exact⟨rfl,rfl,rfl⟩
theorem Lr (u:af) (a b c:UInt8):Hu u [a,b,c]=true↔∃ p:Nat,p+2<u.size/\bt u (p:Int)=(a.toNat:Int)/\bt u ((p+1:Nat):Int)=(b.toNat:Int)/\bt u ((p+2:Nat):Int)=(c.toNat:Int):=by
  unfold Hu Lib.contains
  rw[decide_eq_true_iff]
  constructor
  · intro h
    rcases Lib.index_spec u.data.toList [a,b,c] with⟨h1,_⟩|⟨i,h1,h2,h3,_⟩
    · omega
    · rw[aht] at h3
      obtain⟨x,y,z⟩:=h3
      rw[Bi] at x y z
      exact⟨i,z.1,x.2,y.2,z.2⟩
  · intro⟨p,h,x,y,z⟩
    rcases Lib.index_spec u.data.toList [a,b,c] with⟨h1,h2⟩|⟨i,h1,_⟩
    · have:=h2 p (by rw[fP];omega)
      rw[(aht _ _ _ _ _).2 ⟨(Bi _ _ _).2 ⟨by omega,x⟩,(Bi _ _ _).2 ⟨by omega,y⟩,(Bi _ _ _).2 ⟨h,z⟩⟩] at this
      simp at this
    · omega
def monE (u:af):Nat->Int->Int
  |0,_=>0
  |d+1,m=>if Hu u (oL m)=true then m else monE u d (m+1)
theorem Ui (u:af) (M:Int) (hM:Hu u (oL M)=true):∀(d:Nat) (m:Int),m<=M->M<m+d->(∀ x,m<=x->x<M->Hu u (oL x)=false)->monE u d m=M:=by
  intro d
  induction d with
  |zero=>intro m h1 h2 _;omega
  |succ d ih=>
    intro m h1 h2 h3
    unfold monE
    by_cases e:m=M
    · rw[e,if_pos hM]
    · rw[h3 m (Int.le_refl _) aa,if_neg av]
      exact ih (m+1) aa aa (fun x a b=>h3 x aa b)
def uk (u:af):Int:=monE u 12 1
theorem Fw {u:ByteArray} (A B:List UInt8) (M:Int) (hM:1<=M/\M<=12) (h:Fg u 0 (A++oL M++B)) (hA:∀ b∈A,b.toNat<97) (hB:∀ b∈B,b.toNat<97):uk u=M:=by
  obtain⟨x,y,z,hm,hx,hy,hz⟩:=fw M
  have hs:=h.1
  rw[hm] at h hs
  have gx:=h.get A.length x (by rw[List.append_assoc,List.getElem?_append_right (Nat.le_refl _),Nat.sub_self];rfl)
  have gy:=h.get (A.length+1) y (by rw[List.append_assoc,List.getElem?_append_right aa,Nat.add_sub_cancel_left];rfl)
  have gz:=h.get (A.length+2) z (by rw[List.append_assoc,List.getElem?_append_right aa,Nat.add_sub_cancel_left];rfl)
  rw[Nat.zero_add] at gx gy gz
  simp only[List.length_append,List.length_cons,List.length_nil] at hs
  have low:∀ j:Nat,j<u.size->97<=bt u (j:Int)->j=A.length+1∨j=A.length+2:=by
    intro j hj hb
    by_cases h1:j<A.length
    · have g:=h.get j A[j] (by rw[List.append_assoc,List.getElem?_append_left h1,List.getElem?_eq_getElem h1])
      rw[Nat.zero_add] at g
      have:=hA A[j] (List.getElem_mem h1)
      omega
    · by_cases h2:j<A.length+3
      · by_cases h3:j=A.length
        · subst h3;omega
        · omega
      · have hl:j-(A.length+3)<B.length:=by omega
        have g:=h.get j B[j-(A.length+3)] (by
          have e3:(A ++ [x,y,z]).length=A.length+3:=by simp
          rw[List.getElem?_append_right aa,e3,List.getElem?_eq_getElem hl])
        rw[Nat.zero_add] at g
        have:=hB B[j-(A.length+3)] (List.getElem_mem hl)
        omega
  have hit:Hu u (oL M)=true:=by
    rw[hm,Lr]
    exact⟨A.length,by omega,gx,gy,gz⟩
  refine Ui u M hit 12 1 aa aa fun m h1 h2=>?_
  cases hq:Hu u (oL m) with
  |false=>rfl
  |true=>
    exfalso
    obtain⟨a,b,c,hn,ha,hb,hc⟩:=fw m
    rw[hn,Lr] at hq
    obtain⟨p,q1,q2,q3,q4⟩:=hq
    have r1:=low (p+1) aa aa
    have r2:=low (p+2) q1 aa
    obtain rfl:p=A.length:=by omega
    have e1:a=x:=UInt8.toNat_inj.1 aa
    have e2:b=y:=UInt8.toNat_inj.1 aa
    have e3:c=z:=UInt8.toNat_inj.1 aa
    have:m=M:=Li m M aa hM (by rw[hn,hm,e1,e2,e3])
    omega
theorem Fg.tail {s:ByteArray} {n:Nat} {T:List UInt8} (h:Fg s n T):Fg (s.extract n s.size) 0 T:=by
  have h1:=h.1
  refine⟨by rw[size_extract];omega,fun j hj=>absurd hj aa,fun j b e=>?_⟩
  have hj:j<T.length:=(List.getElem?_eq_some_iff.1 e).1
  rw[Nat.zero_add,iH _ _ _ _ aa aa aa,show((n:Int)+(j:Int))=((n+j:Nat):Int) by omega]
  exact h.2.2 j b e
theorem sQ (n:Int):∀ b∈fK n,b.toNat<97:=by
  intro b hb
  unfold fK at hb
  simp only[List.mem_cons,List.not_mem_nil,or_false] at hb
  rcases hb with rfl|rfl <;> (have:=oZ (n / 10);have:=oZ n;omega)
theorem Ls (n:Int):∀ b∈o6 n,b.toNat<97:=by
  intro b hb
  unfold o6 at hb
  simp only[List.mem_cons,List.not_mem_nil,or_false] at hb
  rcases hb with rfl|rfl|rfl|rfl <;> (have:=oZ (n / 10);have:=oZ n;have:=oZ (n / 100);have:=oZ (n / 1000);omega)
theorem jg {A B:List UInt8} (hA:∀ b∈A,b.toNat<97) (hB:∀ b∈B,b.toNat<97):∀ b∈A++B,b.toNat<97:=by
  intro b hb
  rcases List.mem_append.1 hb with h|h
  · exact hA b h
  · exact hB b h
theorem JV (h i s:Int):∀ b∈mi h i s,b.toNat<97:=jg (jg (jg (jg (sQ _) av) (sQ _)) av) (sQ _)
theorem NR {s:ByteArray} {n:Nat} {Y M D a i e:Int} (h:Fg s n (sK Y M D a i e)) (hM:1<=M/\M<=12):uk (s.extract n s.size)=M:=
  Fw ([44,32]++fK D ++ [32]) ([32]++o6 Y ++ [32]++mi a i e++vK) M hM (by have:=h.tail;unfold sK at this;simpa only[List.append_assoc] using this)
    (jg (jg av (sQ _)) av) (jg (jg (jg (jg av (Ls _)) av) (JV _ _ _)) av)
theorem NS {s:ByteArray} {n:Nat} {Y M D a i e:Int} (h:Fg s n (vL Y M D a i e)) (hM:1<=M/\M<=12):uk (s.extract n s.size)=M:=
  Fw ([44,32]++fK D ++ [45]) ([45]++fK Y ++ [32]++mi a i e++vK) M hM (by have:=h.tail;unfold vL at this;simpa only[List.append_assoc] using this)
    (jg (jg av (sQ _)) av) (jg (jg (jg (jg av (sQ _)) av) (JV _ _ _)) av)
theorem NT {s:ByteArray} {n:Nat} {Y M D a i e:Int} (h:Fg s n (nJ Y M D a i e)) (hM:1<=M/\M<=12):uk (s.extract n s.size)=M:=
  Fw [32] ([32]++(if D<10 then [32,ji D] else fK D) ++ [32]++mi a i e ++ [32]++o6 Y) M hM (by have:=h.tail;unfold nJ at this;simpa only[List.append_assoc] using this)
    av (jg (jg (jg (jg (jg av (by
      split
      · intro b hb
        simp only[List.mem_cons,List.not_mem_nil,or_false] at hb
        rcases hb with rfl|rfl
        · decide
        · have:=oZ D;omega
      · exact sQ _)) av) (JV _ _ _)) av) (Ls _))
def noB (s:af) (c:Int) (n:Nat):Prop:=∀ m:Nat,m<n->bt s (m:Int)≠c
theorem Ph {s:ByteArray} {n:Nat} {T:List UInt8} (h:Fg s n T) (c:UInt8) (hc:c.toNat<65) (hT:c∉T):noB s (c.toNat:Int) s.size:=by
  intro m hm
  by_cases q:m<n
  · have:=h.2.1 m q;omega
  · have hl:m-n<T.length:=by have:=h.1;omega
    have g:=h.get (m-n) T[m-n] (List.getElem?_eq_getElem hl)
    rw[show n+(m-n)=m by omega] at g
    rw[g]
    intro e
    exact hT ((UInt8.toNat_inj.1 (show T[m-n].toNat=c.toNat by omega))▸List.getElem_mem hl)
theorem Pj {s:ByteArray} {n:Nat} {T:List UInt8} (h:Fg s n T) (c:Int) (hc:c<65):noB s c n:=by
  intro m hm
  have:=h.2.1 m hm;omega
theorem gu {c:UInt8} {A B:List UInt8} (h1:c∉A) (h2:c∉B):c∉A++B:=fun h=>(List.mem_append.1 h).elim h1 h2
theorem xO (n:Int) (c:UInt8) (hc:c.toNat<48):c∉fK n:=by
  intro hb
  unfold fK at hb
  simp only[List.mem_cons,List.not_mem_nil,or_false] at hb
  have:=oZ (n / 10);have:=oZ n
  rcases hb with rfl|rfl <;> omega
theorem Lt (n:Int) (c:UInt8) (hc:c.toNat<48):c∉o6 n:=by
  intro hb
  unfold o6 at hb
  simp only[List.mem_cons,List.not_mem_nil,or_false] at hb
  have:=oZ (n / 10);have:=oZ n;have:=oZ (n / 100);have:=oZ (n / 1000)
  rcases hb with rfl|rfl|rfl|rfl <;> omega
theorem Pk (n:Int) (c:UInt8) (hc:c.toNat<48):c∉oL n:=by
  obtain⟨x,y,z,hm,hx,hy,hz⟩:=fw n
  rw[hm]
  intro hb
  simp only[List.mem_cons,List.not_mem_nil,or_false] at hb
  rcases hb with rfl|rfl|rfl <;> omega
theorem Pm (h i s:Int) (c:UInt8) (hc:c.toNat<48):c∉mi h i s:=
  have k:c∉([58]:aM):=by intro hb;simp only[List.mem_cons,List.not_mem_nil,or_false] at hb;subst hb;exact absurd hc av
  gu (gu (gu (gu (xO _ _ hc) k) (xO _ _ hc)) k) (xO _ _ hc)
theorem QP (Y M D h i s:Int):(45:UInt8)∉sK Y M D h i s:=
  gu (gu (gu (gu (gu (gu (gu (gu av (xO _ _ av)) av) (Pk _ _ av)) av) (Lt _ _ av)) av) (Pm _ _ _ _ av)) av
theorem QQ (Y M D h i s:Int):(44:UInt8)∉nJ Y M D h i s:=
  gu (gu (gu (gu (gu (gu (gu av (Pk _ _ av)) av) (by
    split
    · intro hb
      simp only[List.mem_cons,List.not_mem_nil,or_false] at hb
      rcases hb with hb|hb
      · exact absurd hb av
      · have:=oZ D;rw[<- hb] at this;exact absurd this av
    · exact xO _ _ av)) av) (Pm _ _ _ _ av)) av) (Lt _ _ av)

theorem JW (c:Int):gF.f c=some (decide (qZ c)):=by
  unfold gF.f
  by_cases h:c>=48
  · rw[if_pos h]
    by_cases q:c<=57
    · rw[aQ q,aQ (show qZ c from⟨h,q⟩)]
    · rw[aT q,aT (show ¬ qZ c from fun z=>q z.2)]
  · rw[if_neg h,aT (show ¬ qZ c from fun z=>h z.1)]
theorem aso (a:Nat) (h:a<=9):(10:Int) ^ a<=1000000000:=by
  have:∀ b:Fin 10,(10:Int) ^ b.val<=1000000000:=by decide +kernel
  exact this ⟨a,by omega⟩
theorem Uj (s:af) (hs:s.size<=100) (out:List Int) (ho:out.length<1000) (i:Nat) (R:Option (List Int)) (K:Nat) :
    ∀(d x k:Nat) (n:Int),i<=x->x<=i+9->x+d=i+10->x<=s.size->0<=n->n<10 ^ (x-i)->K+d<k->
      (∀ k',K<=k'->(if(nK s i d x n).1>i then bf.l0 k' s (out ++ [(nK s i d x n).2]) ((nK s i d x n).1:Int) else bf.l0 k' s out ((i+1:Nat):Int))=R)->
      bf.l1 k s out (i:Int) (x:Int) n=R:=by
  intro d
  induction d with
  |zero=>intro x k n h1 h2 h3;omega
  |succ d ih=>
    intro x k n h1 h2 h3 h4 h5 h6 hk hR
    obtain⟨k,rfl⟩:=aN k aa
    have hp:=aso (x-i) aa
    simp only[bf.l1]
    by_cases hc:x<s.size/\qZ (bt s (x:Int))/\x<i+9
    · simp only[nK,if_pos hc] at hR
      have hd:=hc.2.1
      unfold qZ at hd
      rw[if_pos aa,if_pos aa,JW,aj,aQ hc.2.1,if_pos rfl,ak (x:=(x:Int)-i) aa aa,if_pos aa,
        ak (x:=10*n) aa aa,show(bt s (x:Int)-48)%256=bt s (x:Int)-48 by omega,ak (x:=10*n+_) aa aa,dR x aa]
      refine ih (x+1) k _ aa aa aa aa aa ?_ aa hR
      rw[show x+1-i=(x-i)+1 by omega,Int.pow_succ]
      omega
    · simp only[nK,if_neg hc] at hR
      have hE:(if(x:Int)>i then(if out.length<17592186044416 then bf.l0 k s (out ++ [n]) (wrap64 ((wrap64 ((x:Int)-1))+1)) else none) else bf.l0 k s out (wrap64 ((i:Int)+1)))=R:=by
        have q:=hR k aa
        by_cases a:x>i
        · rw[if_pos a] at q
          rw[if_pos aa,if_pos aa,ak (x:=(x:Int)-1) aa aa,show(x:Int)-1+1=x by omega,ak (x:=(x:Int)) aa aa]
          exact q
        · rw[if_neg a] at q
          rw[if_neg aa,dR i aa]
          exact q
      by_cases a:x<s.size
      · rw[if_pos aa,if_pos aa,JW,aj]
        by_cases b:qZ (bt s (x:Int))
        · rw[aQ b,if_pos rfl,ak (x:=(x:Int)-i) aa aa,if_neg (fun q=>hc ⟨a,b,by omega⟩)]
          exact hE
        · rw[aT b,if_neg av]
          exact hE
      · rw[if_neg aa]
        exact hE
theorem QR (s:af) (hs:s.size<=100):∀(d i k:Nat) (out:List Int),out.length+d<=200->i<=s.size->s.size<=i+d->20*d+1<k->bf.l0 k s out (i:Int)=some (o7 s d i out):=by
  intro d
  induction d with
  |zero=>
    intro i k out h1 h2 h3 hk
    obtain⟨k,rfl⟩:=aN k aa
    simp only[bf.l0]
    rw[if_neg aa]
    rfl
  |succ d ih=>
    intro i k out h1 h2 h3 hk
    obtain⟨k,rfl⟩:=aN k aa
    simp only[bf.l0]
    by_cases a:i<s.size
    · rw[if_pos aa]
      have e:o7 s (d+1) i out=if(nK s i 10 i 0).1>i then o7 s d (nK s i 10 i 0).1 (out ++ [(nK s i 10 i 0).2]) else o7 s d (i+1) out:=by
        simp only[o7];rw[if_pos a]
      rw[e]
      have hr:=JJ s i 10 i 0 (Nat.le_refl _) aa (by rw[Nat.sub_self];decide) aa h2
      refine Uj s hs out aa i _ (20*d+2) 10 i k 0 (Nat.le_refl _) aa aa h2 aa (by rw[Nat.sub_self];decide) aa ?_
      intro k' hk'
      by_cases b:(nK s i 10 i 0).1>i
      · rw[if_pos b,if_pos b]
        exact ih _ k' _ (by rw[List.length_append];simp only[List.length_cons,List.length_nil];omega) hr.2.1 aa aa
      · rw[if_neg b,if_neg b]
        exact ih (i+1) k' out aa aa aa aa
    · rw[if_neg aa]
      simp only[o7]
      rw[if_neg a]
theorem IQ (s:af) (hs:s.size<=40) (k:Nat) (hk:3000<k):bf.f k s=some (numsOf s):=
  QR s aa 100 0 k [] (by simp) aa aa aa
theorem JX (u:af) (hu:u.size<=1048576) (m:Int):strings_Contains.f u (jf (oL m))=some (Hu u (oL m)):=by
  obtain⟨a,b,c,hm,_⟩:=fw m
  rw[hm]
  have e:stringslite_Index.f u (jf [a,b,c])=if u.size<4294967281 then some (Lib.index u.data.toList [a,b,c]) else none:=rfl
  unfold strings_Contains.f strings_Index.f
  rw[e,if_pos aa]
  rfl
theorem NU (u:af) (hu:u.size<=1048576):∀(d n k:Nat),n+d=12->d<k->gG.l0 k u wO 12 (n:Int)=some (monE u d ((n:Int)+1)):=by
  intro d
  induction d with
  |zero=>
    intro n k h hk
    obtain⟨k,rfl⟩:=aN k aa
    simp only[gG.l0]
    rw[if_neg aa]
    rfl
  |succ d ih=>
    intro n k h hk
    obtain⟨k,rfl⟩:=aN k aa
    simp only[gG.l0]
    have hl:(wO.length:Int)=12:=rfl
    rw[if_pos aa,if_pos aa,if_pos aa,EE n aa,JX u hu,aj,dR n aa]
    have e:monE u (d+1) ((n:Int)+1)=if Hu u (oL ((n:Int)+1))=true then(n:Int)+1 else monE u d ((n:Int)+1+1):=rfl
    rw[e]
    by_cases a:Hu u (oL ((n:Int)+1))=true
    · rw[if_pos a,if_pos a];congr 1
    · rw[if_neg a,if_neg a,ih (n+1) k aa aa];congr 1
theorem Fx (u:af) (hu:u.size<=1048576) (k:Nat) (hk:20<k):gG.f k u=some (uk u):=by
  unfold gG.f
  rw[yB,aj]
  exact NU u hu 12 0 k rfl aa
theorem Bj (s:af) (c:Int) (u:UInt8) (h:c.toNat.toUInt8=u):strings_IndexByte.f s c=some (if aK s (u.toNat:Int)<s.size then(aK s (u.toNat:Int):Int) else -1):=by
  have e:strings_IndexByte.f s c=some (Lib.indexByte s.data.toList c.toNat.toUInt8):=rfl
  rw[e,h,zL]

def QS (t:Int) (s:af):Prop:=ry t/\(s=sO t∨s=sP t∨(cY t<=2069/\s=oI t))
theorem QT {Y M D h m e:Int} (q:(yL Y M D h m e).2=true):ry (yL Y M D h m e).1:=by
  unfold yL at q ⊢
  by_cases c:xz Y M D h m e=true
  · rw[if_pos c];exact Ud _ _ _ _ _ _ c
  · rw[if_neg c] at q;exact absurd q av
theorem NV (t:Int) (h:ry t):yL (cY t) (cM t) (cD t) (cH t) (cI t) (cS t)=(t,true):=by
  unfold yL;rw[if_pos (ahq t h),ahr]
theorem Bl (s:af) (h6:6<=s.size) (Y M D h m e:Int) (k:Nat) (hk:10002<k) :
    ((yL Y M D h m e).2=true/\QS (yL Y M D h m e).1 s->au.j1 k s Y M D h m e=some ((yL Y M D h m e).1,true))/\(¬ ((yL Y M D h m e).2=true/\QS (yL Y M D h m e).1 s)->au.j1 k s Y M D h m e=some (0,false)):=by
  obtain⟨k,rfl⟩:=aN k aa
  simp only[au.j1]
  rw[AU _ _ _ _ _ _ k aa,aj]
  have ht:=@QT Y M D h m e
  generalize yL Y M D h m e=v at ht ⊢
  by_cases q:v.2=true
  · have ht:=ht q
    rw[if_pos q,JO v.1 ht k aa,aj]
    by_cases e1:(sO v.1).toList=s.toList
    · rw[if_pos e1];exact⟨fun _=>rfl,fun z=>absurd ⟨q,ht,Or.inl ((bW _ _).1 e1).symm⟩ z⟩
    · rw[if_neg e1,JP v.1 ht k aa,aj]
      by_cases e2:(if cY v.1<=2069 then oI v.1 else(⟨#[]⟩:af)).toList=s.toList
      · rw[if_pos e2]
        refine⟨fun _=>rfl,fun z=>absurd ⟨q,ht,Or.inr (Or.inr ?_)⟩ z⟩
        by_cases c:cY v.1<=2069
        · rw[if_pos c] at e2;exact⟨c,((bW _ _).1 e2).symm⟩
        · rw[if_neg c] at e2
          have:=(bW _ _).1 e2
          rw[<- this] at h6
          exact absurd h6 av
      · rw[if_neg e2,JQ v.1 ht k aa,aj]
        by_cases e3:(sP v.1).toList=s.toList
        · rw[if_pos e3];exact⟨fun _=>rfl,fun z=>absurd ⟨q,ht,Or.inr (Or.inl ((bW _ _).1 e3).symm)⟩ z⟩
        · rw[if_neg e3]
          refine⟨fun z=>?_,fun _=>rfl⟩
          exfalso
          rcases z.2.2 with a|a|⟨c,a⟩
          · exact e1 ((bW _ _).2 a.symm)
          · exact e3 ((bW _ _).2 a.symm)
          · exact e2 (by rw[if_pos c];exact(bW _ _).2 a.symm)
  · rw[if_neg q]
    exact⟨fun z=>absurd z.1 q,fun _=>rfl⟩
theorem ahu (s:af):strings_IndexByte.f s 44=some (if aK s 44<s.size then(aK s 44:Int) else -1):=Bj s 44 44 rfl
theorem ahv (s:af):strings_IndexByte.f s 45=some (if aK s 45<s.size then(aK s 45:Int) else -1):=Bj s 45 45 rfl
def yrS (b:Int):Int:=if b+1900<1970 then b+2000 else b+1900
theorem rJ (s:af) (h6:6<=s.size) (h40:s.size<=40) (a b c d e:Int) (hn:numsOf s = [a,b,c,d,e]) (k:Nat) (hk:3001<k) :
    au.j0 (k+1) s false=if aK s 44<s.size then(if aK s 45<s.size then au.j1 k s (yrS b) (uk (s.extract (aK s 44) s.size)) a c d e else au.j1 k s b (uk (s.extract (aK s 44) s.size)) a c d e) else au.j1 k s e (uk (s.extract 3 s.size)) a b c d:=by
  have hb:0<=b/\b<=999999999:=Uf s 100 0 [] (Nat.zero_le _) (fun x hx=>absurd hx List.not_mem_nil) b (by
    have:o7 s 100 0 [] = [a,b,c,d,e]:=hn
    rw[this];simp)
  have L5:(([a,b,c,d,e]:List Int).length:Int)=5:=rfl
  have r0:rd [a,b,c,d,e] 0=a:=rfl
  have r1:rd [a,b,c,d,e] 1=b:=rfl
  have r2:rd [a,b,c,d,e] 2=c:=rfl
  have r3:rd [a,b,c,d,e] 3=d:=rfl
  have r4:rd [a,b,c,d,e] 4=e:=rfl
  simp only[au.j0]
  rw[if_neg av,IQ s h40 k aa,aj,hn,L5,r0,r1,r2,r3,r4,if_pos rfl,if_pos aa,Fx _ (by rw[size_extract];omega) k aa,aj,ahu,aj]
  by_cases c1:aK s 44<s.size
  · rw[if_pos c1,if_pos c1,if_pos aa,if_pos aa,if_pos aa,Int.toNat_natCast,Fx _ (by rw[size_extract];omega) k aa,aj,if_pos av,if_pos av,if_pos av,if_pos av,if_pos av,ahv,aj]
    by_cases c2:aK s 45<s.size
    · rw[if_pos c2,if_pos c2,if_pos aa,ak (x:=b+1900) aa aa]
      unfold yrS
      by_cases c3:b+1900<1970
      · rw[if_pos c3,if_pos c3,ak (x:=b+1900+100) aa aa,show b+1900+100=b+2000 by omega]
      · rw[if_neg c3,if_neg c3]
    · rw[if_neg c2,if_neg c2,if_neg av]
  · rw[if_neg c1,if_neg c1,if_neg av,if_pos av,if_pos av,if_pos av,if_pos av,if_pos av]
theorem asq (l:List Int) (h:l.length=5):∃ a b c d e,l = [a,b,c,d,e]:=by
  match l,h with
  |[a,b,c,d,e],_=>exact⟨a,b,c,d,e,rfl⟩
theorem JY (s:af) (H:∀ t,¬ QS t s) (k:Nat) (hk:20000<k):au.f k s=some (0,false):=by
  obtain⟨k,rfl⟩:=aN k aa
  unfold au.f
  have ht:au.j0 (k+1) s true=some (0,false):=by simp only[au.j0];rw[if_pos trivial]
  by_cases c0:(s.size:Int)<6
  · rw[if_pos c0,ht]
  rw[if_neg c0]
  by_cases c1:(s.size:Int)>40
  · rw[aQ c1,ht]
  rw[aT c1]
  by_cases h5:(numsOf s).length=5
  · obtain⟨a,b,c,d,e,hn⟩:=asq _ h5
    rw[rJ s aa aa a b c d e hn k aa]
    have no:∀ Y M D h m e,au.j1 k s Y M D h m e=some (0,false):=fun Y M D h m e=>(Bl s aa Y M D h m e k aa).2 (fun z=>H _ z.2)
    rw[no,no,no]
    split
    · split <;> rfl
    · rfl
  · simp only[au.j0]
    rw[if_neg av,IQ s aa k aa,aj,if_neg aa]
theorem Pn (t:Int):Fg (sO t) 3 (sK (cY t) (cM t) (cD t) (cH t) (cI t) (cS t)):=by
  obtain⟨a,b,c,h3⟩:=Lm (vM t)
  have h:=JI ((o5 (vM t)).take 3) (sK (cY t) (cM t) (cD t) (cH t) (cI t) (cS t)) (fun b hb=>wK _ b (List.mem_of_mem_take hb))
  rw[show((o5 (vM t)).take 3).length=3 by rw[h3];rfl] at h
  exact h
theorem Po (t:Int):Fg (sP t) 3 (nJ (cY t) (cM t) (cD t) (cH t) (cI t) (cS t)):=by
  obtain⟨a,b,c,h3⟩:=Lm (vM t)
  have h:=JI ((o5 (vM t)).take 3) (nJ (cY t) (cM t) (cD t) (cH t) (cI t) (cS t)) (fun b hb=>wK _ b (List.mem_of_mem_take hb))
  rw[show((o5 (vM t)).take 3).length=3 by rw[h3];rfl] at h
  exact h
theorem Pp (t:Int):Fg (oI t) (o5 (vM t)).length (vL (cY t) (cM t) (cD t) (cH t) (cI t) (cS t)):=
  JI (o5 (vM t)) _ (fun b hb=>wK _ b hb)
theorem IU (Y M D h i e:Int):(sK Y M D h i e).length=26:=by
  obtain⟨x,y,z,hm,_⟩:=fw M
  unfold sK;rw[hm];rfl
theorem IV (Y M D h i e:Int):(vL Y M D h i e).length=24:=by
  obtain⟨x,y,z,hm,_⟩:=fw M
  unfold vL;rw[hm];rfl
theorem IW (Y M D h i e:Int):(nJ Y M D h i e).length=21:=by
  obtain⟨x,y,z,hm,_⟩:=fw M
  unfold nJ;rw[hm]
  split <;> rfl
theorem Hw (t:Int) (s:af) (H:QS t s) (k:Nat) (hk:20000<k):au.f k s=some (t,true):=by
  obtain⟨k,rfl⟩:=aN k aa
  have go:6<=s.size->s.size<=40->au.j0 (k+1) s false=au.j1 k s (cY t) (cM t) (cD t) (cH t) (cI t) (cS t)->au.f (k+1) s=some (t,true):=by
    intro h6 h40 e
    unfold au.f
    rw[if_neg aa,aT aa,e]
    have:=(Bl s h6 (cY t) (cM t) (cD t) (cH t) (cI t) (cS t) k aa).1 (by rw[NV t H.1];exact⟨rfl,H⟩)
    rw[NV t H.1] at this
    exact this
  have hb:=lT t H.1
  obtain⟨ht,e|e|⟨c,e⟩⟩:=H
  · have A:=Pn t
    rw[<- e] at A
    have hs:=A.1
    rw[IU] at hs
    have hn:=QM A aa aa aa aa aa aa
    rw[show cD t%100=cD t by omega,show cY t%10000=cY t by omega,show cH t%100=cH t by omega,show cI t%100=cI t by omega,show cS t%100=cS t by omega] at hn
    have p44:aK s 44=3:=qx s 44 3 aa (Pj A 44 av) (fun _=>A.get 0 44 rfl)
    have p45:aK s 45=s.size:=qx s 45 s.size (Nat.le_refl _) (Ph A 45 av (QP _ _ _ _ _ _)) (fun q=>absurd q (Nat.lt_irrefl _))
    refine go aa aa ?_
    rw[rJ s aa aa _ _ _ _ _ hn k aa,p44,p45,if_pos aa,if_neg (Nat.lt_irrefl _),NR A hb.2.1]
  · have A:=Po t
    rw[<- e] at A
    have hs:=A.1
    rw[IW] at hs
    have hn:=QO A aa aa aa aa aa aa
    rw[show cD t%100=cD t by omega,show cY t%10000=cY t by omega,show cH t%100=cH t by omega,show cI t%100=cI t by omega,show cS t%100=cS t by omega] at hn
    have p44:aK s 44=s.size:=qx s 44 s.size (Nat.le_refl _) (Ph A 44 av (QQ _ _ _ _ _ _)) (fun q=>absurd q (Nat.lt_irrefl _))
    refine go aa aa ?_
    rw[rJ s aa aa _ _ _ _ _ hn k aa,p44,if_neg (Nat.lt_irrefl _),NT A hb.2.1]
  · have A:=Pp t
    rw[<- e] at A
    have hs:=A.1
    rw[IV] at hs
    have hl:=qI (vM t)
    have hn:=QN A aa aa aa aa aa aa
    rw[show cD t%100=cD t by omega,show cH t%100=cH t by omega,show cI t%100=cI t by omega,show cS t%100=cS t by omega] at hn
    have p44:aK s 44=(o5 (vM t)).length:=qx s 44 _ aa (Pj A 44 av) (fun _=>A.get 0 44 rfl)
    have p45:aK s 45<s.size:=by
      have g:=A.get 4 45 rfl
      have:=jd s 45
      by_cases q:aK s 45<s.size
      · exact q
      · exact absurd g (um s 45 ((o5 (vM t)).length+4) aa)
    have hy:yrS (cY t%100)=cY t:=by unfold yrS;split <;> omega
    refine go aa aa ?_
    rw[rJ s aa aa _ _ _ _ _ hn k aa,p44,if_pos aa,if_pos p45,hy,NS A hb.2.1]

theorem Uk (c:Int):dQ.f c=some (decide (qZ c)):=JW c
theorem Ul (u:af) (hu:u.size<=1000):∀(d i k:Nat) (x:Int),i+d=u.size->d<k->∃ v,aV.l0 k u x (i:Int)=some v:=by
  intro d
  induction d with
  |zero=>
    intro i k x h hk
    obtain⟨k,rfl⟩:=aN k aa
    exact⟨x,by simp only[aV.l0];rw[if_neg aa]⟩
  |succ d ih=>
    intro i k x h hk
    obtain⟨k,rfl⟩:=aN k aa
    simp only[aV.l0]
    rw[if_pos aa,if_pos aa,dR i aa]
    by_cases a:bt u (i:Int)=32
    · rw[if_pos a];exact ih (i+1) k _ aa aa
    · rw[if_neg a,Uk,aj]
      by_cases b:qZ (bt u (i:Int))
      · rw[aQ b,if_pos rfl];exact ih (i+1) k _ aa aa
      · rw[aT b,if_neg av];exact⟨_,rfl⟩
theorem JZ (u:af) (hu:u.size<=1000) (k:Nat) (hk:1000<k):∃ v,aV.f k u=some v:=Ul u hu u.size 0 k 0 aa aa
theorem zM {u:ByteArray} {i k:Nat} {x:Int} (y:Int) (h1:i<u.size) (hu:u.size<=1000) (h2:bt u (i:Int)=48+y%10) (h3:0<=x) (h4:x<=100000):aV.l0 (k+1) u x (i:Int)=aV.l0 k u (x*10+y%10) ((i+1:Nat):Int):=by
  simp only[aV.l0]
  rw[if_pos aa,if_pos aa,if_neg aa,Uk,aj,aQ (show qZ (bt u (i:Int)) from by unfold qZ;omega),if_pos rfl,h2,dR i aa,
    show(48+y%10-48)%256=y%10 by omega,ak (x:=x*10) aa aa,ak (x:=x*10+y%10) aa aa]
theorem ac3 {u:ByteArray} {i k:Nat} {x:Int} (h1:i<u.size) (hu:u.size<=1000) (h2:bt u (i:Int)=32) (h3:0<=x) (h4:x<=100000):aV.l0 (k+1) u x (i:Int)=aV.l0 k u (x*10) ((i+1:Nat):Int):=by
  simp only[aV.l0]
  rw[if_pos aa,if_pos aa,if_pos h2,dR i aa,ak (x:=x*10) aa aa]
theorem J2 {u:ByteArray} {i k:Nat} {x:Int} (h1:u.size<=i):aV.l0 (k+1) u x (i:Int)=some x:=by
  simp only[aV.l0]
  rw[if_neg aa]
theorem zN (l:List UInt8) (j:Nat) (n:Int) (h:l[j]? = some (ji n)):bt (jf l) (j:Int)=48+n%10:=(ED l j (ji n) h).trans (JH n)
theorem zO (n:Int) (h:0<=n) (k:Nat) (hk:1000<k):aV.f k (jf (fK n))=some (n%100):=by
  obtain⟨k,rfl⟩:∃ j,k=j+3:=⟨k-3,by omega⟩
  have hz:(jf (fK n)).size=2:=rfl
  have e:aV.f (k+3) (jf (fK n))=aV.l0 (k+3) (jf (fK n)) 0 ((0:Nat):Int):=rfl
  rw[e,zM (n / 10) aa aa (zN _ 0 _ rfl) aa aa,zM n aa aa (zN _ 1 _ rfl) aa aa,J2 aa]
  congr 1
  omega
theorem Um (n:Int) (h:0<=n) (k:Nat) (hk:1000<k):aV.f k (jf (o6 n))=some (n%10000):=by
  obtain⟨k,rfl⟩:∃ j,k=j+5:=⟨k-5,by omega⟩
  have hz:(jf (o6 n)).size=4:=rfl
  have e:aV.f (k+5) (jf (o6 n))=aV.l0 (k+5) (jf (o6 n)) 0 ((0:Nat):Int):=rfl
  rw[e,zM (n / 1000) aa aa (zN _ 0 _ rfl) aa aa,zM (n / 100) aa aa (zN _ 1 _ rfl) aa aa,
    zM (n / 10) aa aa (zN _ 2 _ rfl) aa aa,zM n aa aa (zN _ 3 _ rfl) aa aa,J2 aa]
  congr 1
  omega
theorem ac4 (n:Int) (h:0<=n) (h9:n<10) (k:Nat) (hk:1000<k):aV.f k (jf [32,ji n])=some n:=by
  obtain⟨k,rfl⟩:∃ j,k=j+3:=⟨k-3,by omega⟩
  have hz:(jf [32,ji n]).size=2:=rfl
  have e:aV.f (k+3) (jf [32,ji n])=aV.l0 (k+3) (jf [32,ji n]) 0 ((0:Nat):Int):=rfl
  have b0:bt (jf [32,ji n]) ((0:Nat):Int)=32:=ED [32,ji n] 0 32 rfl
  rw[e,ac3 (u:=jf [32,ji n]) (i:=0) aa aa b0 aa aa,zM n aa aa (zN _ 1 _ rfl) aa aa,J2 aa]
  congr 1
  omega
theorem Un (u:af):∀(d n k:Nat),n+d=12->d<k->∃ v,eX.l0 k u ((n:Int)+1)=some v:=by
  intro d
  induction d with
  |zero=>
    intro n k h hk
    obtain⟨k,rfl⟩:=aN k aa
    exact⟨-1,by simp only[eX.l0];rw[if_neg aa]⟩
  |succ d ih=>
    intro n k h hk
    obtain⟨k,rfl⟩:=aN k aa
    simp only[eX.l0]
    rw[if_pos aa,AX _ aa,aj,ak (x:=(n:Int)+1+1) aa aa]
    by_cases a:(jf (oL ((n:Int)+1))).toList=u.toList
    · rw[if_pos a];exact⟨_,rfl⟩
    · rw[if_neg a];exact ih (n+1) k aa aa
theorem ac5 (u:af) (k:Nat) (hk:20<k):∃ v,eX.f k u=some v:=Un u 12 0 k rfl aa
theorem YV {a b:List UInt8} (h:jf a=jf b):a=b:=by
  have:=congrArg (fun x:ByteArray=>x.data.toList) h
  simpa [jf] using this
theorem YW (M:Int) (hM:1<=M/\M<=12):∀(d n k:Nat),n+d=12->d<k->(n:Int)+1<=M->eX.l0 k (jf (oL M)) ((n:Int)+1)=some M:=by
  intro d
  induction d with
  |zero=>intro n k h hk hn;omega
  |succ d ih=>
    intro n k h hk hn
    obtain⟨k,rfl⟩:=aN k aa
    simp only[eX.l0]
    rw[if_pos aa,AX _ aa,aj,ak (x:=(n:Int)+1+1) aa aa]
    by_cases a:(n:Int)+1=M
    · rw[a,if_pos rfl]
    · rw[if_neg (fun z=>a (Li _ _ aa hM (YV ((bW _ _).1 z))))]
      exact ih (n+1) k aa aa aa
theorem Uo (M:Int) (hM:1<=M/\M<=12) (k:Nat) (hk:20<k):eX.f k (jf (oL M))=some M:=YW M hM 12 0 k rfl aa aa
theorem J3 (Y M D:Int) (u:af) (h8:8<=u.size) (k:Nat) (hk:10000<k):∃ v,ja.f k Y M D u=some v:=by
  obtain⟨a,ha⟩:=JZ (u.extract 0 2) (by rw[size_extract];omega) k aa
  obtain⟨b,hb⟩:=JZ (u.extract 3 5) (by rw[size_extract];omega) k aa
  obtain⟨c,hc⟩:=JZ (u.extract 6 8) (by rw[size_extract];omega) k aa
  unfold ja.f
  rw[if_pos av,if_pos aa,ha,aj,if_pos av,if_pos aa,hb,aj,if_pos av,if_pos aa,hc,aj,uj _ _ _ _ _ _ k aa,aj]
  by_cases q:(yL Y M D a b c).2=true
  · rw[if_pos q];exact⟨_,rfl⟩
  · rw[if_neg q];exact⟨_,rfl⟩
theorem lC (l:List UInt8) (a b:Nat):(jf l).extract a b=jf ((l.take b).drop a):=by
  apply ByteArray.ext
  apply Array.toList_inj.1
  rw[Bn]
  simp[jf]
theorem NW (t:Int) (ht:ry t) (k:Nat) (hk:10000<k):ja.f k (cY t) (cM t) (cD t) (jf (mi (cH t) (cI t) (cS t)))=some t:=by
  have hb:=lT t ht
  have e0:(jf (mi (cH t) (cI t) (cS t))).extract 0 2=jf (fK (cH t)):=by rw[lC];rfl
  have e1:(jf (mi (cH t) (cI t) (cS t))).extract 3 5=jf (fK (cI t)):=by rw[lC];rfl
  have e2:(jf (mi (cH t) (cI t) (cS t))).extract 6 8=jf (fK (cS t)):=by rw[lC];rfl
  have hz:(jf (mi (cH t) (cI t) (cS t))).size=8:=rfl
  unfold ja.f
  rw[if_pos av,if_pos aa,e0,zO _ aa k aa,aj,if_pos av,if_pos aa,e1,zO _ aa k aa,aj,if_pos av,if_pos aa,e2,zO _ aa k aa,aj,
    show cH t%100=cH t by omega,show cI t%100=cI t by omega,show cS t%100=cS t by omega,uj _ _ _ _ _ _ k aa,aj,NV t ht,if_pos rfl]

theorem Bo {s:ByteArray} (h:6<=s.size):¬ (⟨#[]⟩:af).toList=s.toList:=by
  intro z
  have:=(bW _ _).1 z
  rw[<- this] at h
  exact absurd h av
theorem Bp (s u:af) (h6:6<=s.size) (hu:18<=u.size) (y:Int) (k:Nat) (hk:10002<k) (H:∀ t,¬ QS t s):ai.j3 k s u y=some (0,false):=by
  obtain⟨k,rfl⟩:=aN k aa
  obtain⟨m,hm⟩:=ac5 (u.extract 3 6) k aa
  obtain⟨d,hd⟩:=JZ (u.extract 0 2) (by rw[size_extract];omega) k aa
  obtain⟨v,hv⟩:=J3 y m d (u.extract 10 18) (by rw[size_extract];omega) k aa
  simp only[ai.j3]
  rw[if_pos av,if_pos aa,hm,aj,if_pos av,if_pos aa,hd,aj,if_pos av,if_pos aa,hv,aj]
  by_cases t:ry v
  · rw[Bg v t k aa,aj]
    by_cases c:cY v<=2069
    · rw[if_pos c,if_neg (fun z=>H v ⟨t,Or.inr (Or.inr ⟨c,((bW _ _).1 z).symm⟩)⟩)]
    · rw[if_neg c,if_neg (Bo h6)]
  · rw[JU v t k aa,aj,if_neg (Bo h6)]
theorem wP (s:af) (hs:s.size<=1048576) (k:Nat) (hk:10005<k) (H:∀ t,¬ QS t s):ai.j1 k s=some (0,false):=by
  obtain⟨k,rfl⟩:∃ j,k=j+2:=⟨k-2,by omega⟩
  have hf:ai.j2 (k+1) s false=some (0,false):=by simp only[ai.j2];rfl
  have e:ai.j1 (k+2) s=if(s.size:Int)>=30 then ai.j2 (k+1) s (decide ((s.size:Int)<=33)) else ai.j2 (k+1) s false:=by
    simp only[ai.j1]
  rw[e,hf]
  by_cases a:(s.size:Int)>=30
  · rw[if_pos a]
    by_cases b:(s.size:Int)<=33
    · rw[aQ b]
      simp only[ai.j2]
      have hw:wrap64 ((s.size:Int)-22)=(s.size:Int)-22:=ak aa aa
      have hz:(s.extract ((s.size:Int)-22).toNat s.size).size=22:=by rw[size_extract];omega
      rw[hw,if_pos trivial,if_pos aa,if_pos aa,if_pos av,if_pos aa]
      obtain⟨v,hv⟩:=JZ ((s.extract ((s.size:Int)-22).toNat s.size).extract 7 9) (by rw[size_extract];omega) k aa
      rw[hv,aj]
      split
      · exact Bp s _ aa aa _ k aa H
      · exact Bp s _ aa aa _ k aa H
    · rw[aT b,hf]
  · rw[if_neg a]
theorem wQ (s:af) (hs:s.size<=1048576) (k:Nat) (hk:10010<k) (H:∀ t,¬ QS t s):ai.j0 k s=some (0,false):=by
  obtain⟨k,rfl⟩:=aN k aa
  simp only[ai.j0]
  by_cases a:(s.size:Int)=24
  · obtain⟨y,hy⟩:=JZ (s.extract 20 24) (by rw[size_extract];omega) k aa
    obtain⟨m,hm⟩:=ac5 (s.extract 4 7) k aa
    obtain⟨d,hd⟩:=JZ (s.extract 8 10) (by rw[size_extract];omega) k aa
    obtain⟨v,hv⟩:=J3 y m d (s.extract 11 19) (by rw[size_extract];omega) k aa
    rw[if_pos a,if_pos av,if_pos aa,hy,aj,if_pos av,if_pos aa,hm,aj,if_pos av,if_pos aa,hd,aj,if_pos av,if_pos aa,hv,aj]
    by_cases t:ry v
    · rw[Bh v t k aa,aj,if_neg (fun z=>H v ⟨t,Or.inr (Or.inl ((bW _ _).1 z).symm)⟩)]
      exact wP s hs k aa H
    · rw[JS v t k,aj,if_neg (Bo aa)]
      exact wP s hs k aa H
  · rw[if_neg a]
    exact wP s hs k aa H
theorem J4 (s:af) (hs:s.size<=1048576) (k:Nat) (hk:20000<k) (H:∀ t,¬ QS t s):ai.f k s=some (0,false):=by
  unfold ai.f
  by_cases a:(s.size:Int)=29
  · obtain⟨y,hy⟩:=JZ (s.extract 12 16) (by rw[size_extract];omega) k aa
    obtain⟨m,hm⟩:=ac5 (s.extract 8 11) k aa
    obtain⟨d,hd⟩:=JZ (s.extract 5 7) (by rw[size_extract];omega) k aa
    obtain⟨v,hv⟩:=J3 y m d (s.extract 17 25) (by rw[size_extract];omega) k aa
    rw[if_pos a,if_pos av,if_pos aa,hy,aj,if_pos av,if_pos aa,hm,aj,if_pos av,if_pos aa,hd,aj,if_pos av,if_pos aa,hv,aj]
    by_cases t:ry v
    · rw[AZ v t k aa,aj,if_neg (fun z=>H v ⟨t,Or.inl ((bW _ _).1 z).symm⟩)]
      exact wQ s hs k aa H
    · rw[JR v t k,aj,if_neg (Bo aa)]
      exact wQ s hs k aa H
  · rw[if_neg a]
    exact wQ s hs k aa H
theorem Hy (t:Int) (ht:ry t) (k:Nat) (hk:20000<k):ai.f k (sO t)=some (t,true):=by
  have hb:=lT t ht
  obtain⟨a,b,c,h3⟩:=Lm (vM t)
  obtain⟨x,y,z,hm,_⟩:=fw (cM t)
  have hz:(sO t).size=29:=by have:=(Pn t).1;rw[IU] at this;exact this
  have hl:sO t=jf ([a,b,c]++([44,32]++fK (cD t) ++ [32] ++ [x,y,z] ++ [32]++o6 (cY t) ++ [32]++mi (cH t) (cI t) (cS t)++vK)):=by unfold sO sK;rw[h3,hm]
  have e1:(sO t).extract 12 16=jf (o6 (cY t)):=by rw[hl,lC];rfl
  have e2:(sO t).extract 8 11=jf (oL (cM t)):=by rw[hl,lC,hm];rfl
  have e3:(sO t).extract 5 7=jf (fK (cD t)):=by rw[hl,lC];rfl
  have e4:(sO t).extract 17 25=jf (mi (cH t) (cI t) (cS t)):=by rw[hl,lC];rfl
  unfold ai.f
  rw[if_pos aa,if_pos av,if_pos aa,e1,Um _ aa k aa,aj,if_pos av,if_pos aa,e2,Uo _ hb.2.1 k aa,aj,
    if_pos av,if_pos aa,e3,zO _ aa k aa,aj,if_pos av,if_pos aa,e4,show cY t%10000=cY t by omega,show cD t%100=cD t by omega,NW t ht k aa,aj,
    AZ t ht k aa,aj,if_pos rfl]
theorem Hz (t:Int) (ht:ry t) (k:Nat) (hk:20000<k):ai.f k (sP t)=some (t,true):=by
  obtain⟨k,rfl⟩:=aN k aa
  have hb:=lT t ht
  obtain⟨a,b,c,h3⟩:=Lm (vM t)
  obtain⟨x,y,z,hm,_⟩:=fw (cM t)
  have hz:(sP t).size=24:=by have:=(Po t).1;rw[IW] at this;exact this
  obtain⟨p,q,hpq,hn⟩:∃ p q,(if cD t<10 then [32,ji (cD t)] else fK (cD t)) = [p,q]/\aV.f k (jf [p,q])=some (cD t):=by
    by_cases w:cD t<10
    · exact⟨32,ji (cD t),by rw[if_pos w],ac4 _ aa w k aa⟩
    · exact⟨ji (cD t / 10),ji (cD t),by rw[if_neg w];rfl,by have:=zO (cD t) aa k aa;rw[show cD t%100=cD t by omega] at this;exact this⟩
  have hl:sP t=jf ([a,b,c]++([32] ++ [x,y,z] ++ [32] ++ [p,q] ++ [32]++mi (cH t) (cI t) (cS t) ++ [32]++o6 (cY t))):=by unfold sP nJ;rw[h3,hm,hpq]
  have e1:(sP t).extract 20 24=jf (o6 (cY t)):=by rw[hl,lC];rfl
  have e2:(sP t).extract 4 7=jf (oL (cM t)):=by rw[hl,lC,hm];rfl
  have e3:(sP t).extract 8 10=jf [p,q]:=by rw[hl,lC];rfl
  have e4:(sP t).extract 11 19=jf (mi (cH t) (cI t) (cS t)):=by rw[hl,lC];rfl
  unfold ai.f
  rw[if_neg aa]
  simp only[ai.j0]
  rw[if_pos aa,if_pos av,if_pos aa,e1,Um _ aa k aa,aj,if_pos av,if_pos aa,e2,Uo _ hb.2.1 k aa,aj,
    if_pos av,if_pos aa,e3,hn,aj,if_pos av,if_pos aa,e4,show cY t%10000=cY t by omega,NW t ht k aa,aj,
    Bh t ht k aa,aj,if_pos rfl]
theorem HY (t:Int) (ht:ry t) (hc:cY t<=2069) (k:Nat) (hk:20000<k):ai.f k (oI t)=some (t,true):=by
  obtain⟨k,rfl⟩:∃ j,k=j+4:=⟨k-4,by omega⟩
  have hb:=lT t ht
  have hl:=qI (vM t)
  obtain⟨x,y,z,hm,_⟩:=fw (cM t)
  have hz:(oI t).size=(o5 (vM t)).length+24:=by have:=(Pp t).1;rw[IV] at this;exact this
  have hx:(oI t).extract (((oI t).size:Int)-22).toNat (oI t).size=jf (fK (cD t) ++ [45] ++ [x,y,z] ++ [45]++fK (cY t) ++ [32]++mi (cH t) (cI t) (cS t)++vK):=by
    rw[show(((oI t).size:Int)-22).toNat=(o5 (vM t)).length+2 by omega]
    have e:oI t=jf (o5 (vM t)++([44,32]++(fK (cD t) ++ [45] ++ [x,y,z] ++ [45]++fK (cY t) ++ [32]++mi (cH t) (cI t) (cS t)++vK))):=by unfold oI vL;rw[hm];simp only[List.append_assoc]
    rw[e,lC,fu,List.take_length]
    first
      |(rw[List.drop_append,List.drop_eq_nil_of_le aa,Nat.add_sub_cancel_left];rfl)
      |(rw[List.drop_append_eq_append_drop,List.drop_eq_nil_of_le aa,Nat.add_sub_cancel_left];rfl)
  have e1:(jf (fK (cD t) ++ [45] ++ [x,y,z] ++ [45]++fK (cY t) ++ [32]++mi (cH t) (cI t) (cS t)++vK)).extract 7 9=jf (fK (cY t)):=by rw[lC];rfl
  have e2:(jf (fK (cD t) ++ [45] ++ [x,y,z] ++ [45]++fK (cY t) ++ [32]++mi (cH t) (cI t) (cS t)++vK)).extract 3 6=jf (oL (cM t)):=by rw[lC,hm];rfl
  have e3:(jf (fK (cD t) ++ [45] ++ [x,y,z] ++ [45]++fK (cY t) ++ [32]++mi (cH t) (cI t) (cS t)++vK)).extract 0 2=jf (fK (cD t)):=by rw[lC];rfl
  have e4:(jf (fK (cD t) ++ [45] ++ [x,y,z] ++ [45]++fK (cY t) ++ [32]++mi (cH t) (cI t) (cS t)++vK)).extract 10 18=jf (mi (cH t) (cI t) (cS t)):=by rw[lC];rfl
  have hv:(jf (fK (cD t) ++ [45] ++ [x,y,z] ++ [45]++fK (cY t) ++ [32]++mi (cH t) (cI t) (cS t)++vK)).size=22:=rfl
  generalize jf (fK (cD t) ++ [45] ++ [x,y,z] ++ [45]++fK (cY t) ++ [32]++mi (cH t) (cI t) (cS t)++vK)=u at hx e1 e2 e3 e4 hv
  have last:ai.j3 (k+1) (oI t) u (cY t)=some (t,true):=by
    simp only[ai.j3]
    rw[if_pos av,if_pos aa,e2,Uo _ hb.2.1 k aa,aj,if_pos av,if_pos aa,e3,zO _ aa k aa,aj,if_pos av,if_pos aa,e4,
      show cD t%100=cD t by omega,NW t ht k aa,aj,Bg t ht k aa,aj,if_pos hc,if_pos rfl]
  have mid:ai.j2 (k+2) (oI t) true=some (t,true):=by
    simp only[ai.j2]
    have hw:wrap64 (((oI t).size:Int)-22)=((oI t).size:Int)-22:=ak aa aa
    rw[hw,if_pos trivial,if_pos aa,if_pos aa,if_pos av,hx,if_pos aa,e1,zO _ aa (k+1) aa,aj]
    by_cases w:cY t%100>=70
    · rw[if_pos w,ak (x:=cY t%100+1900) aa aa,show cY t%100+1900=cY t by omega];exact last
    · rw[if_neg w,ak (x:=cY t%100+2000) aa aa,show cY t%100+2000=cY t by omega];exact last
  have q1:ai.j1 (k+3) (oI t)=some (t,true):=by
    simp only[ai.j1]
    rw[if_pos aa,aQ aa]
    exact mid
  unfold ai.f
  rw[if_neg aa]
  simp only[ai.j0]
  rw[if_neg aa]
  exact q1
theorem HZ (t:Int) (s:af) (H:QS t s) (k:Nat) (hk:20000<k):ai.f k s=some (t,true):=by
  obtain⟨ht,rfl|rfl|⟨c,rfl⟩⟩:=H
  · exact Hy t ht k hk
  · exact Hz t ht k hk
  · exact HY t ht c k hk
open Classical in
noncomputable def Dq (s:af):Int×Bool:=if h:∃ t,QS t s then(h.choose,true) else(0,false)
theorem Bq (s:af) (k:Nat) (hk:20000<k):au.f k s=some (Dq s):=by
  unfold Dq
  by_cases h:∃ t,QS t s
  · rw[dif_pos h];exact Hw _ s h.choose_spec k hk
  · rw[dif_neg h];exact JY s (fun t z=>h ⟨t,z⟩) k hk
theorem J5 (s:af) (hs:s.size<=1048576) (k:Nat) (hk:20000<k):ai.f k s=some (Dq s):=by
  unfold Dq
  by_cases h:∃ t,QS t s
  · rw[dif_pos h];exact HZ _ s h.choose_spec k hk
  · rw[dif_neg h];exact J4 s hs k hk (fun t z=>h ⟨t,z⟩)
theorem NY (s:af):ry (Dq s).1:=by
  unfold Dq
  by_cases h:∃ t,QS t s
  · rw[dif_pos h];exact h.choose_spec.1
  · rw[dif_neg h];exact⟨Int.le_refl _,by decide⟩
theorem Lu : Dq (⟨#[]⟩:af)=(0,false):=by
  have:=Bq (⟨#[]⟩:af) 20001 aa
  have e:au.f 20001 (⟨#[]⟩:af)=some (0,false):=by
    unfold au.f
    rw[if_pos av]
    simp only[au.j0]
    rw[if_pos trivial]
  rw[e] at this
  exact(gK this).symm

def vk (l:List aH) (a:af):ByteArray:=if(valuesOf l a).length=0 then(⟨#[]⟩:af) else ed ByteArray.empty (valuesOf l a) 0
theorem CB (l:List aH) (a:af):(vk l a).size<=190:=by
  unfold vk
  by_cases h:(valuesOf l a).length=0
  · rw[if_pos h];exact Nat.zero_le _
  · rw[if_neg h];exact sU l a _ (Uq (i:=0) aa)
theorem CE (l:List aH) (a:af) (ha:a.size<=140737488351232) (k:Nat) (hk:6000<k):mM.f k l a=some (vk l a,hasB l a):=by
  unfold mM.f vk hasB
  rw[sV l a ha k hk,aj]
  by_cases h:(valuesOf l a).length=0
  · rw[if_pos aa,if_pos h,aT aa]
  · rw[if_neg aa,if_pos aa,if_neg h,aQ aa]
theorem IX (l:List aH) (a:af) (ha:a.size<=140737488351232) (k:Nat) (hk:6000<k):xh.f k l a=some (vk l a,hasB l a):=by
  unfold xh.f vk hasB
  rw[o8 l a ha k hk,aj]
  by_cases h:(valuesOf l a).length=0
  · rw[if_pos aa,if_pos h,aT aa]
  · rw[if_neg aa,if_pos aa,if_neg h,aQ aa]
noncomputable def l6 (l:List aH) (a:af):Int×Bool:=Dq (vk l a)
theorem qK (l:List aH) (a:af):ry (l6 l a).1:=NY _
theorem sW (l:List aH) (a:af) (ha:a.size<=140737488351232) (k:Nat) (hk:40000<k):pW.f k l a=some (l6 l a):=by
  unfold pW.f l6
  rw[IX l a ha k aa,aj,Bq _ k aa,aj]
theorem rq (l:List aH) (a:af) (ha:a.size<=140737488351232) (k:Nat) (hk:40000<k):ny.f k l a=some (l6 l a):=by
  unfold ny.f l6
  have hs:=CB l a
  rw[CE l a ha k aa,aj]
  by_cases h:hasB l a=true
  · rw[if_pos h,J5 (vk l a) aa k aa,aj]
  · rw[if_neg h]
    have e:vk l a=(⟨#[]⟩:af):=by
      unfold vk
      unfold hasB at h
      rw[if_pos (by simp at h;simp[h])]
    rw[e,Lu]
def zP : ByteArray:=(⟨#[100,97,116,101]⟩:af)
def qL : ByteArray:=(⟨#[97,103,101]⟩:af)
def tq : ByteArray:=(⟨#[101,120,112,105,114,101,115]⟩:af)
def vO : ByteArray:=(⟨#[108,97,115,116,45,109,111,100,105,102,105,101,100]⟩:af)
noncomputable def nL (t2:Int) (ml:List aH):Int:=if(l6 ml zP).2=true then(l6 ml zP).1 else t2
theorem qM (t2:Int) (ml:List aH) (h:nG t2=true):0<=nL t2 ml/\nL t2 ml<=253402300799:=by
  unfold nL
  split
  · exact qK ml zP
  · exact aX h
theorem wR (u:af) (t1 t2:Int) (l:List aH) (m0 m1:af) (m2:Int) (m3:af) (m4:Bool) (ml:List aH) (m6:af) (k:Nat) (hk:40000<k):jF.f k u t1 t2 l m0 m1 m2 m3 m4 ml m6=some (nL t2 ml):=by
  unfold jF.f nL
  rw[show(⟨#[100,97,116,101]⟩:af)=zP from rfl,sW ml zP av k hk,aj]
  split <;> rfl
noncomputable def EF (u:af) (t1 t2:Int) (l:List aH) (m0 m1:af) (m2:Int) (m3:af) (m4:Bool) (ml:List aH) (m6:af):Int:=if nI u t1 t2 l m0 m1 m2 m3 m4 ml m6=true then nL t2 ml else -1
theorem xP (u:af) (t1 t2:Int) (l:List aH) (m0 m1:af) (m2:Int) (m3:af) (m4:Bool) (ml:List aH) (m6:af) (hu:u.size<=1048576) (k:Nat) (hk:80000010<k):lZ.f k u t1 t2 l m0 m1 m2 m3 m4 ml m6=some (EF u t1 t2 l m0 m1 m2 m3 m4 ml m6):=by
  unfold lZ.f EF
  rw[ou _ _ _ _ _ _ _ _ _ _ _ hu k hk,aj]
  by_cases h:nI u t1 t2 l m0 m1 m2 m3 m4 ml m6=true
  · rw[if_pos h,if_pos h,show(⟨#[100,97,116,101]⟩:af)=zP from rfl,rq ml zP av k aa,aj]
    unfold nL
    split <;> rfl
  · rw[if_neg h,if_neg h]
theorem qN {u:ByteArray} {t1 t2:Int} {l:List aH} {m0 m1:ByteArray} {m2:Int} {m3:ByteArray} {m4:Bool} {ml:List aH} {m6:ByteArray} (h:nI u t1 t2 l m0 m1 m2 m3 m4 ml m6=true):nG t1=true/\nG t2=true/\t1<=t2:=by
  unfold nI at h
  simp only[Bool.and_eq_true,decide_eq_true_eq] at h
  exact⟨h.2.1,h.2.2.1,h.2.2.2.1⟩

def YX (c:Int):Bool:=decide (48<=c)&&decide (c<=57)
theorem Fy (c:Int):gF.f c=some (YX c):=by
  unfold gF.f YX
  by_cases h:c>=48
  · rw[if_pos h,show decide (48<=c)=true from aQ h,Bool.true_and]
  · rw[if_neg h,show decide (48<=c)=false from aT h,Bool.false_and]
theorem NZ (c:Int):dQ.f c=some (YX c):=Fy c
def Ee (s:af):Nat->Int->Bool
  |0,_=>true
  |d+1,i=>YX (bt s i)&&Ee s d (i+1)
def Fz (s:af):Nat->Int->Int->Int
  |0,n,_=>n
  |d+1,n,i=>Fz s d (min 2147483648 (10*n+(bt s i-48))) (i+1)
theorem Lv (s:af) (hs:s.size<=140737488351232):∀(d k:Nat) (i:Int),0<=i->(s.size:Int)-i=d->d<k->
    dw.l0 k s i=some (Ee s d i):=by
  intro d
  induction d with
  |zero=>
    intro k i h0 hd hk
    obtain⟨k,rfl⟩:∃ m,k=m+1:=⟨k-1,by omega⟩
    simp only[dw.l0]
    rw[if_neg aa]
    rfl
  |succ d ih=>
    intro k i h0 hd hk
    obtain⟨k,rfl⟩:∃ m,k=m+1:=⟨k-1,by omega⟩
    simp only[dw.l0]
    rw[if_pos aa,if_pos h0,Fy,aj,ak aa aa,ih k (i+1) aa aa aa]
    simp only[Ee]
    cases YX (bt s i) <;> simp
theorem QU (s:af) (hs:s.size<=140737488351232):∀(d k:Nat) (n i:Int),0<=n->n<=2147483648->0<=i->(s.size:Int)-i=d->d<k->
    jG.l0 k s n i=some (if Ee s d i=true then(Fz s d n i,true) else(0,false)):=by
  intro d
  induction d with
  |zero=>
    intro k n i hn0 hn1 h0 hd hk
    obtain⟨k,rfl⟩:∃ m,k=m+1:=⟨k-1,by omega⟩
    simp only[jG.l0]
    rw[if_neg aa]
    simp[Ee,Fz]
  |succ d ih=>
    intro k n i hn0 hn1 h0 hd hk
    obtain⟨k,rfl⟩:∃ m,k=m+1:=⟨k-1,by omega⟩
    simp only[jG.l0]
    rw[if_pos aa,if_pos h0,NZ,aj]
    simp only[Ee,Fz]
    by_cases hb:YX (bt s i)=true
    case neg=>rw[if_neg hb];simp[hb]
    case pos=>
      rw[if_pos hb]
      have hr:48<=bt s i/\bt s i<=57:=by simpa [YX] using hb
      rw[ak (x:=n*10) aa aa,ak (x:=i+1) aa aa,ak (x:=n*10+(bt s i-48)%256) aa aa]
      have e:n*10+(bt s i-48)%256=10*n+(bt s i-48):=by omega
      rw[e]
      by_cases hc:10*n+(bt s i-48)>2147483648
      · rw[if_pos hc,ih k _ (i+1) aa aa aa aa aa,show min 2147483648 (10*n+(bt s i-48))=(2147483648:Int) by omega]
        simp[hb]
      · rw[if_neg hc,ih k _ (i+1) aa aa aa aa aa,show min 2147483648 (10*n+(bt s i-48))=10*n+(bt s i-48) by omega]
        simp[hb]
theorem QV (s:af) (hs:s.size<=140737488351232):∀(d k:Nat) (n i:Int),0<=n->n<=2147483648->0<=i->(s.size:Int)-i=d->d<k->Ee s d i=true->
    gU.l0 k s n i=some (Fz s d n i,true):=by
  intro d
  induction d with
  |zero=>
    intro k n i hn0 hn1 h0 hd hk hg
    obtain⟨k,rfl⟩:∃ m,k=m+1:=⟨k-1,by omega⟩
    simp only[gU.l0]
    rw[if_neg aa]
    simp[Fz]
  |succ d ih=>
    intro k n i hn0 hn1 h0 hd hk hg
    obtain⟨k,rfl⟩:∃ m,k=m+1:=⟨k-1,by omega⟩
    simp only[gU.l0]
    rw[if_pos aa,if_pos h0]
    simp only[Ee,Bool.and_eq_true] at hg
    have hr:48<=bt s i/\bt s i<=57:=by simpa [YX] using hg.1
    rw[ak (x:=10*n) aa aa,ak (x:=i+1) aa aa,ak (x:=10*n+(bt s i-48)%256) aa aa]
    have e:mn 2147483648 (10*n+(bt s i-48)%256)=min 2147483648 (10*n+(bt s i-48)):=by unfold mn;split <;> omega
    rw[e,ih k _ (i+1) aa aa aa aa aa hg.2]
    rfl
def jv (s:af):Int×Bool:=if s.toList=([]:aM) then(0,false) else if Ee s s.size 0=true then(Fz s s.size 0 0,true) else(0,false)
theorem yZ (s:af) (hs:s.size<=140737488351232) (k:Nat) (hk:s.size+2<k):jG.f k s=some (jv s):=by
  unfold jG.f jv
  by_cases h:s.toList=([]:aM)
  · rw[if_pos h,if_pos h]
  · rw[if_neg h,if_neg h,QU s hs s.size k 0 0 aa aa aa aa aa]
theorem H5 (s:af) (hs:s.size<=140737488351232) (k:Nat) (hk:s.size+2<k):gU.f k s=some (jv s):=by
  unfold gU.f jv dw.f
  obtain⟨k,rfl⟩:∃ m,k=m+1:=⟨k-1,by omega⟩
  by_cases h:s.toList=([]:aM)
  · rw[if_pos h,if_pos h];simp[gU.j0]
  · rw[if_neg h,if_neg h,Lv s hs s.size (k+1) 0 aa aa aa,aj]
    simp only[gU.j0]
    by_cases hd:Ee s s.size 0=true
    · rw[if_neg (by simp[hd]),if_pos hd,QV s hs s.size k 0 0 aa aa aa aa aa hd]
    · rw[if_pos (by simpa using hd),if_neg hd]

def CF (x:af):Nat->List Int->Nat->Option (List Int)
  |0,out,_=>some out
  |d+1,out,i=>
    if bt x (i:Int)=34 then none
    else if bt x (i:Int)=92 then(match d with|0=>none|e+1=>if Pq (bt x ((i+1:Nat):Int))=true then CF x e (out ++ [bt x ((i+1:Nat):Int)]) (i+2) else none)
    else if Pq (bt x (i:Int))=true then CF x d (out ++ [bt x (i:Int)]) (i+1) else none
theorem IY (x:af) (d:Nat) (out:List Int) (i:Nat):CF x (d+1) out i =
    if bt x (i:Int)=34 then none
    else if bt x (i:Int)=92 then(match d with|0=>none|e+1=>if Pq (bt x ((i+1:Nat):Int))=true then CF x e (out ++ [bt x ((i+1:Nat):Int)]) (i+2) else none)
    else if Pq (bt x (i:Int))=true then CF x d (out ++ [bt x (i:Int)]) (i+1) else none:=by
  rw[CF.eq_def]
def J6 : Option (List Int)->ByteArray×Bool
  |none=>((⟨#[]⟩:af),false)
  |some out=>if(out.length:Int)>4000 then((⟨#[]⟩:af),false) else(strOfNums out,true)
theorem QW (o:Option (List Int)):(J6 o).1.size<=4000:=by
  unfold J6
  split
  · exact Nat.zero_le _
  · split
    · exact Nat.zero_le _
    · show(strOfNums _).size<=4000
      rw[strOfNums_size]
      omega
theorem Ur (x:af) (hx:x.size<=100000):∀(n d:Nat),d<=n->∀(k:Nat) (out:List Int) (i:Nat),i<=x.size->x.size-i=d->out.length<=i->d<k->
    dx.l0 k x out (i:Int)=some (J6 (CF x d out i)):=by
  intro n
  induction n with
  |zero=>
    intro d hdn k out i hi hd ho hk
    obtain rfl:d=0:=by omega
    obtain⟨k,rfl⟩:∃ m,k=m+1:=⟨k-1,by omega⟩
    simp only[dx.l0]
    rw[if_neg aa]
    simp only[CF,J6]
    split <;> rfl
  |succ n ih=>
    intro d hdn k out i hi hd ho hk
    obtain⟨k,rfl⟩:∃ m,k=m+1:=⟨k-1,by omega⟩
    cases d with
    |zero=>
      simp only[dx.l0]
      rw[if_neg aa]
      simp only[CF,J6]
      split <;> rfl
    |succ d=>
      have hw:wrap64 ((i:Int)+1)=((i+1:Nat):Int):=by rw[ak aa aa];omega
      have hw2:wrap64 (((i+1:Nat):Int)+1)=((i+2:Nat):Int):=by rw[ak aa aa];omega
      simp only[dx.l0]
      rw[IY,if_pos aa,if_pos aa,hw,hw2]
      by_cases c1:bt x (i:Int)=34
      · rw[if_pos c1,if_pos c1];rfl
      · rw[if_neg c1,if_neg c1]
        by_cases c2:bt x (i:Int)=92
        · rw[if_pos c2,if_pos c2]
          cases d with
          |zero=>rw[if_pos aa];rfl
          |succ e=>
            rw[if_neg aa,if_pos aa,if_pos aa,wS,aj]
            by_cases c3:Pq (bt x ((i+1:Nat):Int))=true
            · dsimp only
              rw[if_pos c3,if_pos c3,if_pos aa]
              exact ih e aa k _ (i+2) aa aa (by simp;omega) aa
            · dsimp only
              rw[if_neg c3,if_neg c3];rfl
        · rw[if_neg c2,if_neg c2,if_neg aa,wS,aj]
          by_cases c3:Pq (bt x (i:Int))=true
          · rw[if_pos c3,if_pos c3,if_pos aa]
            exact ih d aa k _ (i+1) aa aa (by simp;omega) aa
          · rw[if_neg c3,if_neg c3];rfl
theorem Us (x:af) (hx:x.size<=100000):∀(n d:Nat),d<=n->∀(k:Nat) (out:List Int) (i:Nat),i<=x.size->x.size-i=d->out.length<=i->d<k->
    dz.l0 k out x (i:Int)=some (J6 (CF x d out i)):=by
  intro n
  induction n with
  |zero=>
    intro d hdn k out i hi hd ho hk
    obtain rfl:d=0:=by omega
    obtain⟨k,rfl⟩:∃ m,k=m+1:=⟨k-1,by omega⟩
    simp only[dz.l0]
    rw[if_neg aa]
    simp only[CF,J6]
    split <;> rfl
  |succ n ih=>
    intro d hdn k out i hi hd ho hk
    obtain⟨k,rfl⟩:∃ m,k=m+1:=⟨k-1,by omega⟩
    cases d with
    |zero=>
      simp only[dz.l0]
      rw[if_neg aa]
      simp only[CF,J6]
      split <;> rfl
    |succ d=>
      have hw:wrap64 ((i:Int)+1)=((i+1:Nat):Int):=by rw[ak aa aa];omega
      have hw2:wrap64 (((i+1:Nat):Int)+1)=((i+2:Nat):Int):=by rw[ak aa aa];omega
      simp only[dz.l0]
      rw[IY,if_pos aa,if_pos aa,hw,hw2]
      by_cases c2:bt x (i:Int)=92
      · have c1:¬ bt x (i:Int)=34:=by omega
        rw[if_pos c2,if_neg c1,if_pos c2]
        cases d with
        |zero=>rw[if_pos aa];rfl
        |succ e=>
          rw[if_neg aa,if_pos aa,if_pos aa,zQ,aj]
          by_cases c3:Pq (bt x ((i+1:Nat):Int))=true
          · dsimp only
            rw[if_pos c3,if_pos c3,if_pos aa]
            exact ih e aa k _ (i+2) aa aa (by simp;omega) aa
          · dsimp only
            rw[if_neg c3,if_neg c3];rfl
      · rw[if_neg c2,if_neg c2]
        by_cases c1:bt x (i:Int)=34
        · rw[if_pos c1,if_pos c1];rfl
        · rw[if_neg c1,if_neg c1,zQ,aj]
          by_cases c3:Pq (bt x (i:Int))=true
          · rw[if_pos c3,if_pos c3,if_pos aa]
            exact ih d aa k _ (i+1) aa aa (by simp;omega) aa
          · rw[if_neg c3,if_neg c3];rfl
def QX (s:af):ByteArray×Bool:=if s.size<2∨bt s 0≠34∨bt s ((s.size-1:Nat):Int)≠34 then((⟨#[]⟩:af),false) else J6 (CF (s.extract 1 (s.size-1)) (s.size-2) [] 0)
theorem Ut (s:af):(QX s).1.size<=4000:=by
  unfold QX
  split
  · exact Nat.zero_le _
  · exact QW _
theorem xk (s:af) (hs:s.size<=8000) (k:Nat) (hk:s.size+3<k):dx.f k s=some (QX s):=by
  obtain⟨k,rfl⟩:∃ m,k=m+1:=⟨k-1,by omega⟩
  unfold dx.f QX
  by_cases h1:s.size<2
  · rw[if_pos aa,if_pos (Or.inl h1)]
    simp[dx.j0]
  · have hw:wrap64 ((s.size:Int)-1)=((s.size-1:Nat):Int):=by rw[ak aa aa];omega
    rw[if_neg aa,if_pos aa,hw]
    by_cases h2:bt s 0=34
    · rw[if_pos h2,if_pos aa,if_pos aa]
      simp only[dx.j0]
      by_cases h3:bt s ((s.size-1:Nat):Int)=34
      · rw[if_neg (by simp[h3]),hw,if_pos aa,if_pos aa,if_neg (by simp[h2,h3];omega),Int.toNat_natCast]
        have hz:(s.extract 1 (s.size-1)).size=s.size-2:=by rw[size_extract];omega
        exact Ur _ aa _ _ (Nat.le_refl _) k [] 0 (Nat.zero_le _) aa (Nat.le_refl _) aa
      · rw[if_pos (by simpa using h3),if_pos (Or.inr (Or.inr h3))]
    · rw[if_neg h2,if_pos (Or.inr (Or.inl h2))]
      simp[dx.j0]
theorem Ef (s:af) (hs:s.size<=8000) (k:Nat) (hk:s.size+3<k):dz.f k s=some (QX s):=by
  obtain⟨k,rfl⟩:∃ m,k=m+1:=⟨k-1,by omega⟩
  unfold dz.f QX
  by_cases h1:s.size<2
  · rw[if_pos aa,if_pos (Or.inl h1)]
    simp[dz.j0]
  · have hw:wrap64 ((s.size:Int)-1)=((s.size-1:Nat):Int):=by rw[ak aa aa];omega
    rw[if_neg aa,if_neg aa,if_pos aa,hw]
    by_cases h2:bt s 0=34
    · rw[if_pos h2,if_pos aa,if_pos aa]
      simp only[dz.j0]
      by_cases h3:bt s ((s.size-1:Nat):Int)=34
      · rw[if_neg (by simp[h3]),hw,if_pos aa,if_pos aa,if_neg (by simp[h2,h3];omega),Int.toNat_natCast]
        have hz:(s.extract 1 (s.size-1)).size=s.size-2:=by rw[size_extract];omega
        exact Us _ aa _ _ (Nat.le_refl _) k [] 0 (Nat.zero_le _) aa (Nat.le_refl _) aa
      · rw[if_pos (by simpa using h3),if_pos (Or.inr (Or.inr h3))]
    · rw[if_neg h2,if_pos (Or.inr (Or.inl h2))]
      simp[dz.j0]

theorem Br {l:List ByteArray} {i:Nat} {y:ByteArray} {r:List ByteArray} (h:l.drop i=y::r):i<l.length/\ed ByteArray.empty l (i:Int)=y/\l.drop (i+1)=r:=by
  have hi:i<l.length:=by
    by_cases hq:i<l.length
    · exact hq
    · rw[List.drop_eq_nil_iff.mpr aa] at h;cases h
  rw[List.drop_eq_getElem_cons hi] at h
  injection h with h2 h3
  refine⟨hi,?_,h3⟩
  unfold ed
  simp only[Int.toNat_natCast,List.getD_eq_getElem?_getD,List.getElem?_eq_getElem hi,Option.getD_some]
  exact h2
theorem N7 (s:af) (m:Nat) (h:m<s.size):s.data.toList[m]? = some 61↔bt s (m:Int)=61:=by
  have hl:m<s.data.toList.length:=by rw[fP];exact h
  rw[List.getElem?_eq_getElem hl]
  unfold bt
  rw[dif_pos (show((m:Int)).toNat<s.size by simpa using h)]
  have e:s[((m:Int)).toNat]'(by simpa using h)=s.data.toList[m]:=by
    simp only[Int.toNat_natCast,Array.getElem_toList]
    rfl
  rw[e,Option.some.injEq]
  constructor
  · intro q;rw[q];rfl
  · intro q
    have q2:(s.data.toList[m]).toNat=61:=by omega
    exact UInt8.toNat_inj.mp (by simpa using q2)
theorem Lx (c:UInt8):∀ l:List UInt8,(Lib.indexByte l c = -1/\∀ k:Nat,l[k]?≠some c)∨∃ o:Nat,Lib.indexByte l c=(o:Int)/\l[o]? = some c/\∀ k:Nat,k<o->l[k]?≠some c
  |[]=>.inl ⟨rfl,fun k=>by simp⟩
  |b::l=>by
    by_cases hb:b=c
    · refine .inr ⟨0,?_,?_,fun k hk=>absurd hk (Nat.not_lt_zero _)⟩
      · unfold Lib.indexByte;rw[if_pos (beq_iff_eq.mpr hb)];rfl
      · simp[hb]
    · have hb':¬ (b==c)=true:=fun h=>hb (beq_iff_eq.mp h)
      rcases Lx c l with⟨h1,h2⟩|⟨o,h1,h2,h3⟩
      · refine .inl ⟨?_,fun k=>?_⟩
        · unfold Lib.indexByte;rw[if_neg hb',if_pos (beq_iff_eq.mpr h1)]
        · cases k with
          |zero=>simpa using hb
          |succ k=>simpa using h2 k
      · refine .inr ⟨o+1,?_,by simpa using h2,fun k hk=>?_⟩
        · unfold Lib.indexByte
          rw[if_neg hb',if_neg (fun h=>by have:=beq_iff_eq.mp h;omega),h1]
          omega
        · cases k with
          |zero=>simpa using hb
          |succ k=>simpa using h3 k aa
def Bt (s:af):Nat->Nat->Nat
  |0,i=>i
  |d+1,i=>if bt s (i:Int)=61 then i else Bt s d (i+1)
theorem CG (s:af):∀ d i,i<=Bt s d i/\Bt s d i<=i+d/\(∀ m,i<=m->m<Bt s d i->bt s (m:Int)≠61)/\(Bt s d i<i+d->bt s ((Bt s d i:Nat):Int)=61)
  |0,i=>⟨Nat.le_refl _,Nat.le_refl _,fun m h1 h2=>by simp only[Bt] at h2;omega,fun h=>by simp only[Bt] at h;omega⟩
  |d+1,i=>by
    simp only[Bt]
    by_cases h:bt s (i:Int)=61
    · rw[if_pos h]
      exact⟨Nat.le_refl _,by omega,fun m h1 h2=>by omega,fun _=>h⟩
    · rw[if_neg h]
      obtain⟨h1,h2,h3,h4⟩:=CG s d (i+1)
      refine⟨by omega,by omega,fun m q1 q2=>?_,fun q=>h4 aa⟩
      by_cases e:m=i
      · rw[e];exact h
      · exact h3 m aa q2
def tJ (s:af):Nat:=Bt s s.size 0
theorem N8 (s:af):tJ s<=s.size:=by
  have:=(CG s s.size 0).2.1
  unfold tJ;omega
theorem Uu (s:af):Lib.indexByte s.data.toList 61=if tJ s=s.size then -1 else(tJ s:Int):=by
  obtain⟨h1,h2,h3,h4⟩:=CG s s.size 0
  have hle:=N8 s
  change Bt s s.size 0<0+s.size->_ at h4
  have hlen:s.data.toList.length=s.size:=fP s
  rcases Lx 61 s.data.toList with⟨q1,q2⟩|⟨o,q1,q2,q3⟩
  · rw[q1]
    by_cases e:tJ s=s.size
    · rw[if_pos e]
    · exact absurd ((N7 s (tJ s) aa).mpr (h4 (by unfold tJ at e hle;omega))) (q2 _)
  · have ho:o<s.size:=by
      by_cases hq:o<s.size
      · exact hq
      · rw[List.getElem?_eq_none aa] at q2;cases q2
    have hb:=(N7 s o ho).mp q2
    have e1:¬ o<tJ s:=fun h=>h3 o (Nat.zero_le _) h hb
    have e2:¬ tJ s<o:=fun h=>q3 _ h ((N7 s (tJ s) aa).mpr (h4 (by unfold tJ at h;omega)))
    have e3:tJ s=o:=by omega
    rw[q1,if_neg aa,e3]
theorem za (s:af):s.extract 0 s.size=s:=by simp
theorem QY (s:af) (hs:s.size<=140737488351232):∀(d k i:Nat),i+d=s.size->d<k->dS.l0 k s 61 (i:Int)=some (s.extract 0 (Bt s d i)):=by
  intro d
  induction d with
  |zero=>
    intro k i h hk
    obtain⟨k,rfl⟩:∃ m,k=m+1:=⟨k-1,by omega⟩
    simp only[dS.l0,Bt]
    rw[if_neg aa,show i=s.size by omega,za]
  |succ d ih=>
    intro k i h hk
    obtain⟨k,rfl⟩:∃ m,k=m+1:=⟨k-1,by omega⟩
    have hw:wrap64 ((i:Int)+1)=((i+1:Nat):Int):=by rw[ak aa aa];omega
    simp only[dS.l0,Bt]
    rw[if_pos aa,if_pos aa,hw]
    by_cases hb:bt s (i:Int)=61
    · rw[if_pos hb,if_pos hb,if_pos aa,Int.toNat_natCast]
    · rw[if_neg hb,if_neg hb]
      exact ih k (i+1) aa aa
def xQ (w:af):ByteArray:=ig (trimS (w.extract 0 (tJ w)))
def uo (w:af):ByteArray:=if tJ w=w.size then(⟨#[]⟩:af) else if(QX (trimS (w.extract (tJ w+1) w.size))).2=true then(QX (trimS (w.extract (tJ w+1) w.size))).1 else trimS (w.extract (tJ w+1) w.size)
theorem FB (w:af) (hw:w.size<=4000):(uo w).size<=4000:=by
  unfold uo
  have h1:=mO (w.extract (tJ w+1) w.size)
  have h2:(w.extract (tJ w+1) w.size).size<=w.size:=by rw[size_extract];omega
  split
  · exact Nat.zero_le _
  · split
    · exact Ut _
    · omega
theorem Eg (w:af) (hw:w.size<=4000) (k:Nat) (hk:9000<k):qy.f k w=some (xQ w,uo w):=by
  have hj:=N8 w
  have hz:(w.extract 0 (tJ w)).size=tJ w:=by rw[size_extract];omega
  have ht:=mO (w.extract 0 (tJ w))
  unfold qy.f dS.f uo
  rw[show(0:Int)=((0:Nat):Int) from rfl,QY w aa w.size k 0 aa aa]
  simp only[aj]
  change (if((w.extract 0 (tJ w)).size:Int)=_ then _ else _)=_
  rw[hz]
  by_cases h:tJ w=w.size
  · rw[if_pos aa,if_pos h]
    change ((cz.f k (w.extract 0 (tJ w))).bind _)=_
    rw[nz _ aa k aa,aj]
    unfold jk.f
    rw[if_pos aa,aj]
    rfl
  · have hv:(w.extract (tJ w+1) w.size).size<=w.size:=by rw[size_extract];omega
    have hv2:=mO (w.extract (tJ w+1) w.size)
    have hw1:wrap64 ((tJ w:Int)+1)=((tJ w+1:Nat):Int):=by rw[ak aa aa];omega
    rw[if_neg aa,if_neg h]
    change (if 0<=wrap64 (((w.extract 0 (tJ w)).size:Int)+1) then(if wrap64 (((w.extract 0 (tJ w)).size:Int)+1)<=(w.size:Int) then((cz.f k (w.extract ((wrap64 (((w.extract 0 (tJ w)).size:Int)+1)):Int).toNat w.size)).bind _) else none) else none)=_
    rw[hz,hw1,if_pos aa,if_pos aa,Int.toNat_natCast,nz _ aa k aa,aj,Ef _ aa k aa,aj]
    unfold jk.f
    by_cases hu:(QX (trimS (w.extract (tJ w+1) w.size))).2=true
    · rw[if_pos hu,if_pos hu]
      change ((cz.f k (w.extract 0 (tJ w))).bind _)=_
      rw[nz _ aa k aa,aj,if_pos aa,aj]
      rfl
    · rw[if_neg hu,if_neg hu]
      change ((cz.f k (w.extract 0 (tJ w))).bind _)=_
      rw[nz _ aa k aa,aj,if_pos aa,aj]
      rfl
def mP (v:af) (o:Int):Int:=if(jv v).2=true then(jv v).1 else o
theorem LA (s:af):∀ d n i,0<=n->Ee s d i=true->0<=Fz s d n i:=by
  intro d
  induction d with
  |zero=>intro n i h _;exact h
  |succ d ih=>
    intro n i h hd
    simp only[Ee,Bool.and_eq_true] at hd
    have hr:48<=bt s i/\bt s i<=57:=by simpa [YX] using hd.1
    simp only[Fz]
    exact ih _ _ aa hd.2
theorem o9 (v:af):0<=(jv v).1:=by
  unfold jv
  split
  · exact Int.le_refl _
  · split
    · rename_i h;exact LA v _ 0 0 (Int.le_refl _) h
    · exact Int.le_refl _
theorem rM (v:af) (o:Int) (ho:0<=o):0<=mP v o:=by
  unfold mP
  split
  · exact o9 v
  · exact ho
theorem ru (v:af) (o:Int) (hv:v.size<=4000) (k:Nat) (hk:9000<k):iI.f k v o=some (mP v o):=by
  unfold iI.f mP
  rw[H5 v aa k aa,aj]
  split <;> rfl
def mQ (d:iJ) (n v:af):iJ:=
  if n.toList=([110,111,45,115,116,111,114,101]:aM) then { d with b0:=true }
  else if n.toList=([110,111,45,99,97,99,104,101]:aM) then { d with b1:=true }
  else if n.toList=([112,114,105,118,97,116,101]:aM) then { d with b2:=true }
  else if n.toList=([112,117,98,108,105,99]:aM) then { d with b3:=true }
  else if n.toList=([111,110,108,121,45,105,102,45,99,97,99,104,101,100]:aM) then { d with b5:=true }
  else if n.toList=([109,117,115,116,45,114,101,118,97,108,105,100,97,116,101]:aM) then { d with b4:=true }
  else if n.toList=([112,114,111,120,121,45,114,101,118,97,108,105,100,97,116,101]:aM) then { d with b4:=true }
  else if n.toList=([109,97,120,45,97,103,101]:aM) then { d with n6:=tu d.n6 (mP v 0) }
  else if n.toList=([115,45,109,97,120,97,103,101]:aM) then { d with n7:=tu d.n7 (mP v 0) }
  else if n.toList=([109,97,120,45,115,116,97,108,101]:aM) then { d with n8:=tu d.n8 (if v.toList=([]:aM) then 2147483648 else mP v 0) }
  else if n.toList=([109,105,110,45,102,114,101,115,104]:aM) then { d with n9:=tu d.n9 (mP v 2147483648) }
  else d
theorem LB (k:Nat) (hk:9000<k) (d:iJ) (n v:af) (hv:v.size<=4000):keyed k d n v=some (mQ d n v):=by
  unfold keyed mQ
  rw[ru v 0 hv k hk,ru v 2147483648 hv k hk]
  simp only[aj]
  by_cases h0:n.toList=([110,111,45,115,116,111,114,101]:aM)
  · rw[if_pos h0,if_pos h0]
  rw[if_neg h0,if_neg h0]
  by_cases h1:n.toList=([110,111,45,99,97,99,104,101]:aM)
  · rw[if_pos h1,if_pos h1]
  rw[if_neg h1,if_neg h1]
  by_cases h2:n.toList=([112,114,105,118,97,116,101]:aM)
  · rw[if_pos h2,if_pos h2]
  rw[if_neg h2,if_neg h2]
  by_cases h3:n.toList=([112,117,98,108,105,99]:aM)
  · rw[if_pos h3,if_pos h3]
  rw[if_neg h3,if_neg h3]
  by_cases h4:n.toList=([111,110,108,121,45,105,102,45,99,97,99,104,101,100]:aM)
  · rw[if_pos h4,if_pos h4]
  rw[if_neg h4,if_neg h4]
  by_cases h5:n.toList=([109,117,115,116,45,114,101,118,97,108,105,100,97,116,101]:aM)
  · rw[if_pos h5,if_pos h5]
  rw[if_neg h5,if_neg h5]
  by_cases h6:n.toList=([112,114,111,120,121,45,114,101,118,97,108,105,100,97,116,101]:aM)
  · rw[if_pos h6,if_pos h6]
  rw[if_neg h6,if_neg h6]
  by_cases h7:n.toList=([109,97,120,45,97,103,101]:aM)
  · rw[if_pos h7,if_pos h7]
  rw[if_neg h7,if_neg h7]
  by_cases h8:n.toList=([115,45,109,97,120,97,103,101]:aM)
  · rw[if_pos h8,if_pos h8]
  rw[if_neg h8,if_neg h8]
  by_cases h9:n.toList=([109,97,120,45,115,116,97,108,101]:aM)
  · rw[if_pos h9,if_pos h9]
    by_cases hq:v.toList=([]:aM)
    · rw[if_pos hq,if_pos hq]
    · rw[if_neg hq,if_neg hq]
  rw[if_neg h9,if_neg h9]
  by_cases h10:n.toList=([109,105,110,45,102,114,101,115,104]:aM)
  · rw[if_pos h10,if_pos h10]
  rw[if_neg h10,if_neg h10]
def vP (d:iJ) (w:af):iJ:=mQ d (xQ w) (uo w)
theorem QZ : trimS (⟨#[]⟩:af)=(⟨#[]⟩:af):=by decide
theorem Uv : QX (⟨#[]⟩:af)=((⟨#[]⟩:af),false):=by unfold QX;rw[if_pos (Or.inl av)]
theorem N9 (d:iJ) (w:af) (hw:w.size<=4000) (k:Nat) (hk:9000<k):MZ k d w=some (vP d w):=by
  have hj:=N8 w
  have hz:(w.extract 0 (tJ w)).size=tJ w:=by rw[size_extract];omega
  have ht:=mO (w.extract 0 (tJ w))
  have hpv:=FB w hw
  unfold MZ strings_Cut.f stringslite_Cut.f stringslite_Index.f vP
  change (((some (Lib.indexByte w.data.toList 61)).bind _).bind _).bind _=_
  rw[Uu,aj]
  by_cases h:tJ w=w.size
  · have hN:xQ w=ig (trimS w):=by unfold xQ;rw[h,za]
    have hV:uo w=(⟨#[]⟩:af):=by unfold uo;rw[if_pos h]
    have htw:=mO w
    rw[if_pos h,if_neg av]
    simp only[aj]
    have z0:(⟨#[]⟩:af).size=0:=rfl
    rw[lM _ (show((⟨#[]⟩:af)).size<=140737488351232 by decide) k aa,aj,QZ,xk _ av k aa,aj,Uv,lM w aa k aa,aj]
    unfold jw.f
    rw[if_pos aa,aj]
    dsimp only
    rw[if_neg av,LB k hk d _ _ av,hN,hV]
  · have hv:(w.extract (tJ w+1) w.size).size<=w.size:=by rw[size_extract];omega
    have hv2:=mO (w.extract (tJ w+1) w.size)
    have hw1:wrap64 ((tJ w:Int)+(((⟨#[61]⟩:af).size:Nat):Int))=((tJ w+1:Nat):Int):=by
      rw[show(((⟨#[61]⟩:af).size:Nat):Int)=1 from rfl,ak aa aa];omega
    rw[if_neg h,hw1,if_pos aa,if_pos aa,if_pos aa,if_pos aa,if_pos aa,Int.toNat_natCast,Int.toNat_natCast]
    simp only[aj]
    rw[lM _ aa k aa,aj,xk _ aa k aa,aj,lM _ aa k aa,aj]
    unfold jw.f
    rw[if_pos aa,aj]
    have hV:(if(QX (trimS (w.extract (tJ w+1) w.size))).2=true then(QX (trimS (w.extract (tJ w+1) w.size))).1 else trimS (w.extract (tJ w+1) w.size))=uo w:=by unfold uo;rw[if_neg h]
    rw[hV,LB k hk d _ _ hpv]
    rfl
theorem Uw (ws:List ByteArray) (hs:∀ x∈ws,x.size<=4000) (hl:ws.length<=5000):∀(r:List ByteArray) (k i:Nat) (d:iJ),ws.drop i=r->i<=ws.length->r.length+9001<k->LC k ws d (i:Int)=some (r.foldl vP d):=by
  intro r
  induction r with
  |nil=>
    intro k i d h hil hk
    obtain⟨k,rfl⟩:∃ m,k=m+1:=⟨k-1,by omega⟩
    have hi:=List.drop_eq_nil_iff.mp h
    simp only[LC]
    rw[if_neg aa]
    rfl
  |cons w r ih=>
    intro k i d h hil hk
    obtain⟨k,rfl⟩:∃ m,k=m+1:=⟨k-1,by omega⟩
    obtain⟨hi,e1,h3⟩:=Br h
    have hw:wrap64 ((i:Int)+1)=((i+1:Nat):Int):=by rw[ak aa aa];omega
    have hm:w∈ws:=by
      have:w∈ws.drop i:=by rw[h];exact List.mem_cons_self ..
      exact List.mem_of_mem_drop this
    simp only[List.length_cons] at hk
    simp only[LC]
    rw[if_pos aa,if_pos aa,e1,N9 d w (hs w hm) k aa,aj,hw]
    exact ih k (i+1) _ h3 aa aa
def uq : List UInt8:=[110,111,45,99,97,99,104,101]
theorem Ux (ws:List ByteArray) (hs:∀ x∈ws,x.size<=4000) (hl:ws.length<=5000):∀(r:List ByteArray) (k i:Nat) (d:iJ),ws.drop i=r->i<=ws.length->r.length<k->LD k ws d (i:Int)=some { d with b1:=d.b1||r.any fun x=>decide ((ig x).toList=uq) }:=by
  intro r
  induction r with
  |nil=>
    intro k i d h hil hk
    obtain⟨k,rfl⟩:∃ m,k=m+1:=⟨k-1,by omega⟩
    have hi:=List.drop_eq_nil_iff.mp h
    simp only[LD]
    rw[if_neg aa]
    simp
  |cons w r ih=>
    intro k i d h hil hk
    obtain⟨k,rfl⟩:∃ m,k=m+1:=⟨k-1,by omega⟩
    obtain⟨hi,e1,h3⟩:=Br h
    have hw:wrap64 ((i:Int)+1)=((i+1:Nat):Int):=by rw[ak aa aa];omega
    have hm:w∈ws:=by
      have:w∈ws.drop i:=by rw[h];exact List.mem_cons_self ..
      exact List.mem_of_mem_drop this
    have hws:=hs w hm
    simp only[List.length_cons] at hk
    simp only[LD]
    unfold jw.f
    rw[if_pos aa,if_pos aa,e1,if_pos aa,aj,hw,ih k (i+1) _ h3 aa aa]
    by_cases hf:(ig w).toList=([110,111,45,99,97,99,104,101]:aM)
    · rw[if_pos hf]
      have:(ig w).toList=uq:=hf
      simp[this]
    · rw[if_neg hf]
      have:¬ (ig w).toList=uq:=hf
      simp[this]
def dF (name:List UInt8):List ByteArray->ByteArray×Bool
  |[]=>((⟨#[]⟩:af),false)
  |w::r=>if(xQ w).toList=name then(uo w,true) else dF name r
theorem Dr (name:List UInt8):∀ ws:List ByteArray,(∀ x∈ws,x.size<=4000)->(dF name ws).1.size<=4000
  |[],_=>Nat.zero_le _
  |w::r,h=>by
    simp only[dF]
    split
    · exact FB w (h w (List.mem_cons_self ..))
    · exact Dr name r fun x hx=>h x (List.mem_cons_of_mem _ hx)
theorem Oa (ws:List ByteArray) (name:af) (hs:∀ x∈ws,x.size<=4000) (hl:ws.length<=5000):∀(r:List ByteArray) (k i:Nat),ws.drop i=r->i<=ws.length->r.length+9001<k->iE.l0 k ws name (i:Int)=some (dF name.toList r):=by
  intro r
  induction r with
  |nil=>
    intro k i h hil hk
    obtain⟨k,rfl⟩:∃ m,k=m+1:=⟨k-1,by omega⟩
    have hi:=List.drop_eq_nil_iff.mp h
    simp only[iE.l0]
    rw[if_neg aa]
    rfl
  |cons w r ih=>
    intro k i h hil hk
    obtain⟨k,rfl⟩:∃ m,k=m+1:=⟨k-1,by omega⟩
    obtain⟨hi,e1,h3⟩:=Br h
    have hw:wrap64 ((i:Int)+1)=((i+1:Nat):Int):=by rw[ak aa aa];omega
    have hm:w∈ws:=by
      have:w∈ws.drop i:=by rw[h];exact List.mem_cons_self ..
      exact List.mem_of_mem_drop this
    simp only[List.length_cons] at hk
    simp only[iE.l0,dF]
    rw[if_pos aa,if_pos aa,e1,Eg w (hs w hm) k aa,aj,hw,ih k (i+1) h3 aa aa]
    split <;> rfl
theorem vQ (ws:List ByteArray) (name:af) (hs:∀ x∈ws,x.size<=4000) (hl:ws.length<=5000) (k:Nat) (hk:15000<k):iE.f k ws name=some (dF name.toList ws):=
  Oa ws name hs hl ws k 0 rfl (Nat.zero_le _) aa
theorem Eh (ws:List ByteArray) (a:Array UInt8) (hs:∀ x∈ws,x.size<=4000) (hl:ws.length<=5000) (k:Nat) (hk:15000<k):iA.f k ws ⟨a⟩=some (dF a.toList ws).2:=by
  unfold iA.f
  rw[vQ ws ⟨a⟩ hs hl k hk,aj,ByteArray.toList_eq]
def H6 (ws:List ByteArray) (name:List UInt8) (a b:Int):Int:=if(dF name ws).2=true then(if(jv (dF name ws).1).2=true then(jv (dF name ws).1).1 else if(dF name ws).1.toList=([]:aM) then a else b) else -1
theorem FC (ws:List ByteArray) (nm:Array UInt8) (a b:Int) (hs:∀ x∈ws,x.size<=4000) (hl:ws.length<=5000) (k:Nat) (hk:15000<k):jU.f k ws ⟨nm⟩ a b=some (H6 ws nm.toList a b):=by
  have h1:=Dr nm.toList ws hs
  have h2:(dF (⟨nm⟩:af).data.toList ws).1.size<=4000:=h1
  unfold jU.f H6
  rw[vQ ws ⟨nm⟩ hs hl k hk,aj,ByteArray.toList_eq]
  by_cases h:(dF nm.toList ws).2=true
  · rw[if_pos h,if_pos h,yZ _ aa k aa,aj]
    repeat' split
    all_goals rfl
  · rw[if_neg h,if_neg h]
theorem sF (get:iJ->Bool) (name:List UInt8) (h:∀ d n v,get (mQ d n v)=(get d||decide (n.toList=name))):∀(ws:List ByteArray) (d:iJ),get (ws.foldl vP d)=(get d||(dF name ws).2)
  |[],d=>by simp[dF]
  |w::r,d=>by
    simp only[List.foldl_cons,dF]
    rw[sF get name h r (vP d w)]
    unfold vP
    rw[h]
    by_cases hq:(xQ w).toList=name
    · rw[if_pos hq];simp[hq]
    · rw[if_neg hq];simp[hq]
theorem FD (get:iJ->Bool) (n1 n2:List UInt8) (h:∀ d n v,get (mQ d n v)=(get d||(decide (n.toList=n1)||decide (n.toList=n2)))):∀(ws:List ByteArray) (d:iJ),get (ws.foldl vP d)=(get d||((dF n1 ws).2||(dF n2 ws).2))
  |[],d=>by simp[dF]
  |w::r,d=>by
    simp only[List.foldl_cons,dF]
    rw[FD get n1 n2 h r (vP d w)]
    unfold vP
    rw[h]
    by_cases hq:(xQ w).toList=n1
    · rw[if_pos hq];simp[hq]
    · rw[if_neg hq]
      by_cases hq2:(xQ w).toList=n2
      · rw[if_pos hq2];simp[hq,hq2]
      · rw[if_neg hq2];simp[hq,hq2]
theorem Bu (get:iJ->Int) (name:List UInt8) (val:ByteArray->Int) (hv:∀ v,0<=val v) (h:∀ d n v,get (mQ d n v)=if n.toList=name then tu (get d) (val v) else get d):∀(ws:List ByteArray) (d:iJ),get (ws.foldl vP d)=if get d<0 then(if(dF name ws).2=true then val (dF name ws).1 else get d) else get d:=by
  intro ws
  induction ws with
  |nil=>intro d;simp[dF]
  |cons w r ih=>
    intro d
    have h1:get (vP d w)=if(xQ w).toList=name then tu (get d) (val (uo w)) else get d:=h d (xQ w) (uo w)
    rw[List.foldl_cons,ih (vP d w),h1]
    simp only[dF]
    have h2:=hv (uo w)
    generalize hm:val (uo w)=m at h2 ⊢
    by_cases hq:(xQ w).toList=name
    · rw[if_pos hq]
      simp only[if_pos hq]
      unfold tu
      by_cases hd:get d<0
      · have e1:(if get d<0 then m else get d)=m:=if_pos hd
        rw[e1,if_neg aa,if_pos hd]
        simp[hm]
      · rw[if_neg hd,if_neg hd,if_neg hd]
    · rw[if_neg hq]
      simp only[if_neg hq]
theorem kS {p:Prop} (h:p:=by
    unfold mQ
    by_cases h0:n.toList=([110,111,45,115,116,111,114,101]:aM)
    · rw[if_pos h0];simp[h0]
    rw[if_neg h0]
    by_cases h1:n.toList=([110,111,45,99,97,99,104,101]:aM)
    · rw[if_pos h1];simp[h1]
    rw[if_neg h1]
    by_cases h2:n.toList=([112,114,105,118,97,116,101]:aM)
    · rw[if_pos h2];simp[h2]
    rw[if_neg h2]
    by_cases h3:n.toList=([112,117,98,108,105,99]:aM)
    · rw[if_pos h3];simp[h3]
    rw[if_neg h3]
    by_cases h4:n.toList=([111,110,108,121,45,105,102,45,99,97,99,104,101,100]:aM)
    · rw[if_pos h4];simp[h4]
    rw[if_neg h4]
    by_cases h5:n.toList=([109,117,115,116,45,114,101,118,97,108,105,100,97,116,101]:aM)
    · rw[if_pos h5];simp[h5]
    rw[if_neg h5]
    by_cases h6:n.toList=([112,114,111,120,121,45,114,101,118,97,108,105,100,97,116,101]:aM)
    · rw[if_pos h6];simp[h6]
    rw[if_neg h6]
    by_cases h7:n.toList=([109,97,120,45,97,103,101]:aM)
    · rw[if_pos h7];simp[h7]
    rw[if_neg h7]
    by_cases h8:n.toList=([115,45,109,97,120,97,103,101]:aM)
    · rw[if_pos h8];simp[h8]
    rw[if_neg h8]
    by_cases h9:n.toList=([109,97,120,45,115,116,97,108,101]:aM)
    · rw[if_pos h9];simp[h9]
    rw[if_neg h9]
    by_cases h10:n.toList=([109,105,110,45,102,114,101,115,104]:aM)
    · rw[if_pos h10];simp[h10]
    rw[if_neg h10]
    simp[*]):p:=h
theorem Uy (d:iJ) (n v:af):(mQ d n v).b0=(d.b0||decide (n.toList=([110,111,45,115,116,111,114,101]:aM))):=kS
theorem Uz (d:iJ) (n v:af):(mQ d n v).b1=(d.b1||decide (n.toList=([110,111,45,99,97,99,104,101]:aM))):=kS
theorem UA (d:iJ) (n v:af):(mQ d n v).b2=(d.b2||decide (n.toList=([112,114,105,118,97,116,101]:aM))):=kS
theorem UB (d:iJ) (n v:af):(mQ d n v).b3=(d.b3||decide (n.toList=([112,117,98,108,105,99]:aM))):=kS
theorem UC (d:iJ) (n v:af):(mQ d n v).b5=(d.b5||decide (n.toList=([111,110,108,121,45,105,102,45,99,97,99,104,101,100]:aM))):=kS
theorem UD (d:iJ) (n v:af):(mQ d n v).b4=(d.b4||(decide (n.toList=([109,117,115,116,45,114,101,118,97,108,105,100,97,116,101]:aM))||decide (n.toList=([112,114,111,120,121,45,114,101,118,97,108,105,100,97,116,101]:aM)))):=kS
theorem UE (d:iJ) (n v:af):(mQ d n v).n6=if n.toList=([109,97,120,45,97,103,101]:aM) then tu d.n6 (mP v 0) else d.n6:=kS
theorem UF (d:iJ) (n v:af):(mQ d n v).n7=if n.toList=([115,45,109,97,120,97,103,101]:aM) then tu d.n7 (mP v 0) else d.n7:=kS
theorem UG (d:iJ) (n v:af):(mQ d n v).n8=if n.toList=([109,97,120,45,115,116,97,108,101]:aM) then tu d.n8 (if v.toList=([]:aM) then 2147483648 else mP v 0) else d.n8:=kS
theorem UH (d:iJ) (n v:af):(mQ d n v).n9=if n.toList=([109,105,110,45,102,114,101,115,104]:aM) then tu d.n9 (mP v 2147483648) else d.n9:=kS
def xR (ws:List ByteArray):iJ:=
  ⟨(dF [110,111,45,115,116,111,114,101] ws).2,(dF [110,111,45,99,97,99,104,101] ws).2,(dF [112,114,105,118,97,116,101] ws).2,(dF [112,117,98,108,105,99] ws).2,
   (dF [109,117,115,116,45,114,101,118,97,108,105,100,97,116,101] ws).2||(dF [112,114,111,120,121,45,114,101,118,97,108,105,100,97,116,101] ws).2,(dF [111,110,108,121,45,105,102,45,99,97,99,104,101,100] ws).2,
   H6 ws [109,97,120,45,97,103,101] 0 0,H6 ws [115,45,109,97,120,97,103,101] 0 0,H6 ws [109,97,120,45,115,116,97,108,101] 2147483648 0,H6 ws [109,105,110,45,102,114,101,115,104] 2147483648 2147483648⟩
theorem FE (ws:List ByteArray) (name:List UInt8) (o:Int):(if(dF name ws).2=true then mP (dF name ws).1 o else(-1:Int))=H6 ws name o o:=by
  unfold H6 mP
  repeat' split
  all_goals rfl
theorem iJ.same : ∀ x y:iJ,x.b0=y.b0->x.b1=y.b1->x.b2=y.b2->x.b3=y.b3->x.b4=y.b4->x.b5=y.b5->x.n6=y.n6->x.n7=y.n7->x.n8=y.n8->x.n9=y.n9->x=y
  |⟨_,_,_,_,_,_,_,_,_,_⟩,⟨_,_,_,_,_,_,_,_,_,_⟩,rfl,rfl,rfl,rfl,rfl,rfl,rfl,rfl,rfl,rfl=>rfl
theorem Q0 (ws:List ByteArray) (name:List UInt8):(if(dF name ws).2=true then(if(dF name ws).1.toList=([]:aM) then 2147483648 else mP (dF name ws).1 0) else(-1:Int))=H6 ws name 2147483648 0:=by
  unfold H6 mP jv
  by_cases q1:(dF name ws).2=true
  · rw[if_pos q1,if_pos q1]
    by_cases q2:(dF name ws).1.toList=([]:aM)
    · simp[q2]
    · simp only[if_neg q2]
  · rw[if_neg q1,if_neg q1]
theorem J7 (v:af):0<=(if v.toList=([]:aM) then(2147483648:Int) else mP v 0):=by
  split
  · decide
  · exact rM v 0 av
theorem Ob (ws:List ByteArray):ws.foldl vP Bv=xR ws:=by
  have hd:(-1:Int)<0:=by decide
  refine iJ.same _ _ ?_ ?_ ?_ ?_ ?_ ?_ ?_ ?_ ?_ ?_
  · exact(sF iJ.b0 _ Uy ws Bv).trans (Bool.false_or _)
  · exact(sF iJ.b1 _ Uz ws Bv).trans (Bool.false_or _)
  · exact(sF iJ.b2 _ UA ws Bv).trans (Bool.false_or _)
  · exact(sF iJ.b3 _ UB ws Bv).trans (Bool.false_or _)
  · exact(FD iJ.b4 _ _ UD ws Bv).trans (Bool.false_or _)
  · exact(sF iJ.b5 _ UC ws Bv).trans (Bool.false_or _)
  · exact((Bu iJ.n6 _ (fun v=>mP v 0) (fun v=>rM v 0 av) UE ws Bv).trans (if_pos hd)).trans (FE ws _ 0)
  · exact((Bu iJ.n7 _ (fun v=>mP v 0) (fun v=>rM v 0 av) UF ws Bv).trans (if_pos hd)).trans (FE ws _ 0)
  · exact((Bu iJ.n8 _ (fun v=>if v.toList=([]:aM) then 2147483648 else mP v 0) J7 UG ws Bv).trans (if_pos hd)).trans (Q0 ws _)
  · exact((Bu iJ.n9 _ (fun v=>mP v 2147483648) (fun v=>rM v _ av) UH ws Bv).trans (if_pos hd)).trans (FE ws _ 2147483648)
theorem Q3 (s:af) (hs:s.size<=4000):∀(n d:Nat),d<=n->∀(out:List ByteArray) (a:Nat) (q:Bool) (i:Nat),(∀ x∈out,x.size<=4000)->∀ x∈M6 s d out a q i,x.size<=4000:=by
  have hadd:∀(out:List ByteArray) (a b:Nat),(∀ x∈out,x.size<=4000)->∀ x∈zD out (trimS (s.extract a b)),x.size<=4000:=by
    intro out a b h x hx
    unfold zD at hx
    split at hx
    · exact h x hx
    · rcases List.mem_append.mp hx with h1|h1
      · exact h x h1
      · rw[List.mem_singleton] at h1
        have h2:=mO (s.extract a b)
        have h3:(s.extract a b).size<=s.size:=by rw[size_extract];omega
        rw[h1];omega
  intro n
  induction n with
  |zero=>
    intro d hdn out a q i h
    obtain rfl:d=0:=by omega
    exact hadd out a s.size h
  |succ n ih=>
    intro d hdn out a q i h
    cases d with
    |zero=>exact hadd out a s.size h
    |succ d=>
      rw[xS]
      split
      · exact ih d aa out a (!q) (i+1) h
      · split
        · cases d with
          |zero=>exact hadd out a s.size h
          |succ e=>exact ih e aa out a q (i+2) h
        · split
          · exact ih d aa _ (i+1) q (i+1) (hadd out a i h)
          · exact ih d aa out a q (i+1) h
theorem CJ (s:af):∀ x∈kQ s,x.size<=4000:=by
  unfold kQ
  by_cases h:(s.size:Int)>4000
  · rw[if_pos h];intro x hx;cases hx
  · rw[if_neg h]
    exact Q3 s aa s.size s.size (Nat.le_refl _) [] 0 false 0 (fun x hx=>by cases hx)
theorem qz (l:List aH) (a:af):∀ x∈cu l a,x.size<=4000:=CJ _
def rz : ByteArray:=(⟨#[99,97,99,104,101,45,99,111,110,116,114,111,108]⟩:af)
def IZ : ByteArray:=(⟨#[112,114,97,103,109,97]⟩:af)
def ik (l:List aH):iJ:=if(valuesOf l rz).length=0 then { xR (cu l rz) with b1:=(xR (cu l rz)).b1||(cu l IZ).any fun x=>decide ((ig x).toList=uq) } else xR (cu l rz)
theorem Q4 (ws:List ByteArray) (hs:∀ x∈ws,x.size<=4000) (hl:ws.length<=5000) (c0 c2 c3 c4 c5:Bool) (c6 c7 c8 c9:Int):∀(r:List ByteArray) (k i:Nat) (c1:Bool),ws.drop i=r->i<=ws.length->r.length<k->bG.l0 k ws (i:Int) c0 c1 c2 c3 c4 c5 c6 c7 c8 c9=some (c0,(c1||r.any fun x=>decide ((ig x).toList=uq)),c2,c3,c4,c5,c6,c7,c8,c9):=by
  intro r
  induction r with
  |nil=>
    intro k i c1 h hil hk
    obtain⟨k,rfl⟩:∃ m,k=m+1:=⟨k-1,by omega⟩
    have hi:=List.drop_eq_nil_iff.mp h
    simp only[bG.l0]
    rw[if_neg aa]
    simp
  |cons w r ih=>
    intro k i c1 h hil hk
    obtain⟨k,rfl⟩:∃ m,k=m+1:=⟨k-1,by omega⟩
    obtain⟨hi,e1,h3⟩:=Br h
    have hw:wrap64 ((i:Int)+1)=((i+1:Nat):Int):=by rw[ak aa aa];omega
    have hm:w∈ws:=by
      have:w∈ws.drop i:=by rw[h];exact List.mem_cons_self ..
      exact List.mem_of_mem_drop this
    have hws:=hs w hm
    simp only[List.length_cons] at hk
    simp only[bG.l0]
    rw[if_pos aa,hw]
    cases c1 with
    |true=>
      rw[if_pos rfl,ih k (i+1) true h3 aa aa]
      simp
    |false=>
      unfold jk.f
      rw[if_neg av,if_pos aa,e1,if_pos aa,aj,ih k (i+1) _ h3 aa aa]
      have e2:((ig w).toList==([110,111,45,99,97,99,104,101]:aM))=decide ((ig w).toList=uq):=by
        by_cases hf:(ig w).toList=([110,111,45,99,97,99,104,101]:aM)
        · rw[beq_iff_eq.mpr hf];exact(aQ hf).symm
        · rw[beq_eq_false_iff_ne.mpr hf];exact(aT hf).symm
      rw[e2]
      simp
theorem yC (l:List aH) (k:Nat) (hk:40000<k):bG.f k l=some (ik l).Nh:=by
  have hc:rz.size<=140737488351232:=by decide
  have hp:IZ.size<=140737488351232:=by decide
  have hs:=qz l rz
  have hl:(cu l rz).length<=5000:=by have:=pg l rz;omega
  have hs2:=qz l IZ
  have hl2:(cu l IZ).length<=5000:=by have:=pg l IZ;omega
  obtain⟨k,rfl⟩:∃ m,k=m+1:=⟨k-1,by omega⟩
  have hg:mM.f k l rz=some (if(valuesOf l rz).length=0 then((⟨#[]⟩:af),false) else(ed ByteArray.empty (valuesOf l rz) 0,true)):=by
    unfold mM.f
    rw[sV l rz hc k aa,aj]
    by_cases h0:(valuesOf l rz).length=0
    · rw[if_pos aa,if_pos h0]
    · rw[if_neg aa,if_pos aa,if_neg h0]
  unfold bG.f
  change ((mR.f (k+1) l rz).bind _)=_
  rw[zb l rz hc (k+1) aa,aj]
  have hj:∀ x4,bG.j0 (k+1) l (cu l rz) (dF [110,111,45,115,116,111,114,101] (cu l rz)).2 (dF [110,111,45,99,97,99,104,101] (cu l rz)).2 (dF [112,114,105,118,97,116,101] (cu l rz)).2 (dF [112,117,98,108,105,99] (cu l rz)).2 x4 (dF [111,110,108,121,45,105,102,45,99,97,99,104,101,100] (cu l rz)).2 0 0 0 0 =
      some (iJ.Nh { ik l with b4:=x4 }):=by
    intro x4
    simp only[bG.j0]
    simp only[FC (cu l rz) _ _ _ hs hl k aa,aj]
    change ((mM.f k l rz).bind _)=_
    rw[hg,aj]
    by_cases h0:(valuesOf l rz).length=0
    · have e:ik l = { xR (cu l rz) with b1:=(xR (cu l rz)).b1||(cu l IZ).any fun x=>decide ((ig x).toList=uq) }:=if_pos h0
      rw[if_pos h0,if_neg av,e]
      change ((mR.f k l IZ).bind _)=_
      rw[zb l IZ hp k aa,aj]
      exact Q4 (cu l IZ) hs2 hl2 _ _ _ _ _ _ _ _ _ (cu l IZ) k 0 _ rfl (Nat.zero_le _) aa
    · have e:ik l=xR (cu l rz):=if_neg h0
      rw[if_neg h0,if_pos rfl,e]
      rfl
  have hb:(ik l).b4=((dF [109,117,115,116,45,114,101,118,97,108,105,100,97,116,101] (cu l rz)).2||(dF [112,114,111,120,121,45,114,101,118,97,108,105,100,97,116,101] (cu l rz)).2):=by
    unfold ik
    split <;> rfl
  simp only[Eh (cu l rz) _ hs hl (k+1) aa,aj]
  by_cases hm:(dF [109,117,115,116,45,114,101,118,97,108,105,100,97,116,101] (cu l rz)).2=true
  · have e:some (iJ.Nh { ik l with b4:=true })=some (ik l).Nh:=by
      have:(ik l).b4=true:=by rw[hb,hm];rfl
      unfold iJ.Nh
      rw[this]
    rw[<- e]
    exact(if_pos hm).trans (hj true)
  · have e:some (iJ.Nh { ik l with b4:=(dF [112,114,111,120,121,45,114,101,118,97,108,105,100,97,116,101] (cu l rz)).2 })=some (ik l).Nh:=by
      have hm':(dF [109,117,115,116,45,114,101,118,97,108,105,100,97,116,101] (cu l rz)).2=false:=by simpa using hm
      have:(ik l).b4=(dF [112,114,111,120,121,45,114,101,118,97,108,105,100,97,116,101] (cu l rz)).2:=by rw[hb,hm',Bool.false_or]
      unfold iJ.Nh
      rw[this]
    rw[<- e]
    exact(if_neg hm).trans (hj _)
theorem Oc (l:List aH) (a:af) (h:bZ l=false):cu l a = []:=by
  have e1:valuesOf l a = []:=by unfold valuesOf;rw[if_neg (by simp[h])]
  have e2:(⟨(joinL []).toArray⟩:af)=⟨#[]⟩:=by unfold joinL;simp[Go.Lib.join_nil]
  unfold cu joinedOf
  rw[e1,e2]
  unfold kQ
  rw[if_neg av]
  have h1:=mO ((⟨#[]⟩:af).extract 0 0)
  have h2:((⟨#[]⟩:af).extract 0 0).size=0:=by rw[size_extract];rfl
  show zD [] (trimS ((⟨#[]⟩:af).extract 0 0)) = []
  unfold zD
  rw[if_pos ((toList_nil _).2 aa)]
theorem yD (l:List aH) (k:Nat) (hk:40000<k):lV.f k l=some (ik l).Nh:=by
  have hc:rz.size<=140737488351232:=by decide
  have hp:IZ.size<=140737488351232:=by decide
  have hs:=qz l rz
  have hl:(cu l rz).length<=5000:=by have:=pg l rz;omega
  have hs2:=qz l IZ
  have hl2:(cu l IZ).length<=5000:=by have:=pg l IZ;omega
  unfold lV.f
  change ((mU.f k l rz).bind _)=_
  rw[ze l rz hc k aa,aj]
  have h0:=Uw (cu l rz) hs hl (cu l rz) k 0 Bv rfl (Nat.zero_le _) aa
  rw[show((0:Nat):Int)=0 from rfl] at h0
  rw[h0,aj,Ob,ni l k aa,aj]
  cases hf:bZ l with
  |false=>
    have e1:valuesOf l rz = []:=by unfold valuesOf;rw[if_neg (by simp[hf])]
    rw[if_neg av]
    unfold ik
    rw[e1,if_pos (show([]:List ByteArray).length=0 from rfl),Oc l IZ hf]
    simp
  |true=>
    rw[if_pos rfl]
    unfold kR.f
    change (((fT.f k l rz).bind _).bind _)=_
    rw[o8 l rz hc k aa,aj,aj]
    by_cases hv:(valuesOf l rz).length=0
    · have e:ik l = { xR (cu l rz) with b1:=(xR (cu l rz)).b1||(cu l IZ).any fun x=>decide ((ig x).toList=uq) }:=if_pos hv
      rw[if_neg (by rw[decide_eq_true_iff];omega),e]
      change ((mU.f k l IZ).bind _)=_
      have h1:=Ux (cu l IZ) hs2 hl2 (cu l IZ) k 0 (xR (cu l rz)) rfl (Nat.zero_le _) aa
      rw[show((0:Nat):Int)=0 from rfl] at h1
      rw[ze l IZ hp k aa,aj,h1,aj]
    · have e:ik l=xR (cu l rz):=if_neg hv
      rw[if_pos (by rw[decide_eq_true_iff];omega),e]

noncomputable def J8 (t1 t2:Int) (ml:List aH):Int:=mx (mx (t2-nL t2 ml) 0) ((jv (vk ml qL)).1+t2-t1)
theorem UI (s:af):∀(d:Nat) (n i:Int),n<=2147483648->Fz s d n i<=2147483648:=by
  intro d
  induction d with
  |zero=>intro n i h;exact h
  |succ d ih=>intro n i h;simp only[Fz];exact ih _ _ aa
theorem zR (s:af):(jv s).1<=2147483648:=by
  unfold jv
  split
  · exact(by decide)
  · split
    · exact UI s _ _ _ av
    · exact(by decide)
theorem Od (s:af) (h:¬ (jv s).2=true):(jv s).1=0:=by
  unfold jv at h ⊢
  split
  · rfl
  · rename_i a
    rw[if_neg a] at h
    split
    · rename_i b;rw[if_pos b] at h;exact absurd rfl h
    · rfl
theorem UJ (v:af):mP v 0=(jv v).1:=by
  unfold mP
  split
  · rfl
  · rename_i h;exact(Od v h).symm
theorem Dt (t1 t2:Int) (ml:List aH) (h1:nG t1=true) (h2:nG t2=true):0<=J8 t1 t2 ml/\J8 t1 t2 ml<=300000000000:=by
  have a:=aX h1
  have b:=aX h2
  have c:=qM t2 ml h2
  have d:=zR (vk ml qL)
  have e:=o9 (vk ml qL)
  unfold J8 mx
  split <;> split <;> omega
theorem CK (u:af) (t1 t2:Int) (l:List aH) (m0 m1:af) (m2:Int) (m3:af) (m4:Bool) (ml:List aH) (m6:af) (h1:nG t1=true) (h2:nG t2=true) (k:Nat) (hk:80000010<k) :
    dX.f k u t1 t2 l m0 m1 m2 m3 m4 ml m6=some (J8 t1 t2 ml):=by
  have a:=aX h1
  have b:=aX h2
  have c:=qM t2 ml h2
  have d:=zR (vk ml qL)
  have e:=o9 (vk ml qL)
  have hs:=CB ml qL
  unfold dX.f
  rw[show(⟨#[97,103,101]⟩:af)=qL from rfl,IX ml qL av k aa,aj,wR _ _ _ _ _ _ _ _ _ _ _ k aa,aj]
  rw[ru (vk ml qL) 0 aa k aa,aj,UJ]
  rw[ak (x:=t2-nL t2 ml) aa aa,ak (x:=(jv (vk ml qL)).1+t2) aa aa,ak aa aa]
  rfl
noncomputable def CL (u:af) (t1 t2:Int) (l:List aH) (m0 m1:af) (m2:Int) (m3:af) (m4:Bool) (ml:List aH) (m6:af):Int:=if nI u t1 t2 l m0 m1 m2 m3 m4 ml m6=true then J8 t1 t2 ml else -1
theorem CO (a b:Int):ma.f a b=some (if a>b then a else b):=by
  unfold ma.f
  split <;> rfl
theorem CP (u:af) (t1 t2:Int) (l:List aH) (m0 m1:af) (m2:Int) (m3:af) (m4:Bool) (ml:List aH) (m6:af) (hu:u.size<=1048576) (k:Nat) (hk:80000010<k):jb.f k u t1 t2 l m0 m1 m2 m3 m4 ml m6=some (CL u t1 t2 l m0 m1 m2 m3 m4 ml m6):=by
  unfold jb.f CL
  rw[ou _ _ _ _ _ _ _ _ _ _ _ hu k hk,aj]
  by_cases h:nI u t1 t2 l m0 m1 m2 m3 m4 ml m6=true
  · obtain⟨h1,h2,_⟩:=qN h
    have a:=aX h1
    have b:=aX h2
    have c:=qM t2 ml h2
    have d:=zR (vk ml qL)
    have e:=o9 (vk ml qL)
    have hs:=CB ml qL
    rw[if_pos h,if_pos h,show(⟨#[97,103,101]⟩:af)=qL from rfl,CE ml qL av k aa,aj]
    rw[yZ (vk ml qL) aa k aa,aj,xP _ _ _ _ _ _ _ _ _ _ _ hu k hk,aj,CO,aj,CO,aj]
    unfold EF
    rw[if_pos h,ak (x:=t2-nL t2 ml) aa aa,ak (x:=(jv (vk ml qL)).1+t2) aa aa,ak aa aa]
    unfold J8 mx
    congr 1
    split <;> split <;> split <;> split <;> omega
  · rw[if_neg h,if_neg h]
noncomputable def FH (u:af) (t1 t2:Int) (l:List aH) (m0 m1:af) (m2:Int) (m3:af) (m4:Bool) (ml:List aH) (m6:af) (now:Int):Int:=if nI u t1 t2 l m0 m1 m2 m3 m4 ml m6=true then(if nG now=true then(if now<t2 then -1 else J8 t1 t2 ml+now-t2) else -1) else -1
theorem H7 (u:af) (t1 t2:Int) (l:List aH) (m0 m1:af) (m2:Int) (m3:af) (m4:Bool) (ml:List aH) (m6:af) (now:Int) (hu:u.size<=1048576) (k:Nat) (hk:80000010<k):jH.f k u t1 t2 l m0 m1 m2 m3 m4 ml m6 now=some (FH u t1 t2 l m0 m1 m2 m3 m4 ml m6 now):=by
  unfold jH.f FH
  rw[xg _ _ _ _ _ _ _ _ _ _ _ hu k hk,aj]
  by_cases h:nI u t1 t2 l m0 m1 m2 m3 m4 ml m6=true
  · obtain⟨h1,h2,_⟩:=qN h
    rw[if_pos h,if_pos h,lI,aj]
    by_cases g:nG now=true
    · have b:=aX h2
      have c:=aX g
      have d:=Dt t1 t2 ml h1 h2
      rw[if_pos g,if_pos g]
      by_cases x:now<t2
      · rw[if_pos x,if_pos x]
      · rw[if_neg x,if_neg x,CK _ _ _ _ _ _ _ _ _ _ _ h1 h2 k hk,aj,ak (x:=J8 t1 t2 ml+now) aa aa,ak aa aa]
    · rw[if_neg g,if_neg g]
  · rw[if_neg h,if_neg h]
theorem H8 (u:af) (t1 t2:Int) (l:List aH) (m0 m1:af) (m2:Int) (m3:af) (m4:Bool) (ml:List aH) (m6:af) (now:Int) (hu:u.size<=1048576) (k:Nat) (hk:80000010<k):jI.f k u t1 t2 l m0 m1 m2 m3 m4 ml m6 now=some (FH u t1 t2 l m0 m1 m2 m3 m4 ml m6 now):=by
  unfold jI.f FH
  rw[ou _ _ _ _ _ _ _ _ _ _ _ hu k hk,aj]
  by_cases h:nI u t1 t2 l m0 m1 m2 m3 m4 ml m6=true
  · obtain⟨h1,h2,_⟩:=qN h
    rw[if_pos h,if_pos h,nk,aj]
    by_cases g:nG now=true
    · have b:=aX h2
      have c:=aX g
      have d:=Dt t1 t2 ml h1 h2
      rw[if_pos g,if_pos g]
      by_cases x:now<t2
      · rw[if_pos x,if_pos x]
      · rw[if_neg x,if_neg x,CP _ _ _ _ _ _ _ _ _ _ _ hu k hk,aj]
        unfold CL
        rw[if_pos h,ak (x:=J8 t1 t2 ml+now) aa aa,ak aa aa]
    · rw[if_neg g,if_neg g]
  · rw[if_neg h,if_neg h]
def kM : List Int:=[200,203,204,300,301,308,404,405,410,414,501]
def tC (a:Int):Bool:=decide (a∈kM)
theorem Oe (a:Int):∀(d i k:Nat),i+d=11->d<k->∃ v:Int,dC.l0 k kM a 11 (i:Int)=some v/\(0<=v↔a∈kM.drop i):=by
  intro d
  induction d with
  |zero=>
    intro i k h hk
    obtain⟨k,rfl⟩:∃ j,k=j+1:=⟨k-1,by omega⟩
    obtain rfl:i=11:=by omega
    refine⟨-1,?_,fun z=>absurd z av,fun h=>by cases h⟩
    simp only[dC.l0]
    rw[if_neg av]
  |succ d ih=>
    intro i k h hk
    obtain⟨k,rfl⟩:∃ j,k=j+1:=⟨k-1,by omega⟩
    have hi:i<kM.length:=by show i<11;omega
    have hd:kM.drop i=kM[i]::kM.drop (i+1):=(List.drop_eq_getElem_cons hi)
    have hv:rd kM (i:Int)=kM[i]:=by
      unfold rd
      rw[Int.toNat_natCast,List.getD_eq_getElem?_getD,List.getElem?_eq_getElem hi];rfl
    have hl:(i:Int)<(kM.length:Int):=by omega
    have hw:wrap64 ((i:Int)+1)=((i+1:Nat):Int):=by unfold wrap64;omega
    simp only[dC.l0]
    rw[if_pos aa,if_pos aa,if_pos hl,hv,hw,hd]
    by_cases e:a=kM[i]
    · rw[if_pos e];exact⟨_,rfl,fun _=>by rw[<- e];exact List.mem_cons_self ..,fun _=>by omega⟩
    · rw[if_neg e]
      obtain⟨v,h1,h2⟩:=ih (i+1) k aa aa
      refine⟨v,h1,fun z=>List.mem_cons_of_mem _ (h2.1 z),fun z=>h2.2 ?_⟩
      rcases List.mem_cons.1 z with z|z
      · exact absurd z e
      · exact z
theorem Ei (a:Int) (k:Nat) (hk:20<k):qA.f k a=some (tC a):=by
  unfold qA.f jc.f dC.f tC
  obtain⟨v,h1,h2⟩:=Oe a 11 0 k rfl aa
  rw[show dC.l0 k ([200,203,204,300,301,308,404,405,410,414,501]:List Int) a (([200,203,204,300,301,308,404,405,410,414,501]:List Int).length:Int) 0=some v from h1,aj,aj]
  congr 1
  exact decide_eq_decide.2 h2
theorem Du (a:Int):a∈kM↔a=200∨a=203∨a=204∨a=300∨a=301∨a=308∨a=404∨a=405∨a=410∨a=414∨a=501:=by
  unfold kM
  simp only[List.mem_cons,List.not_mem_nil,or_false]
theorem Ej (a:Int):qB.f a=some (tC a):=by
  unfold tC
  by_cases h:a∈kM
  · rw[aQ h]
    rcases(Du a).1 h with rfl|rfl|rfl|rfl|rfl|rfl|rfl|rfl|rfl|rfl|rfl <;> decide
  · rw[aT h]
    have n:=fun z=>h ((Du a).2 z)
    unfold qB.f
    rw[if_neg (fun e=>n aa),if_neg (fun e=>n aa),if_neg (fun e=>n aa),if_neg (fun e=>n aa),if_neg (fun e=>n aa),if_neg (fun e=>n aa),if_neg (fun e=>n aa),if_neg (fun e=>n aa),if_neg (fun e=>n aa),if_neg (fun e=>n aa),if_neg (fun e=>n aa)]

noncomputable def UK (t2:Int) (m2:Int) (ml:List aH):Int:=
  if(ik ml).n7>=0 then(ik ml).n7 else if(ik ml).n6>=0 then(ik ml).n6
  else if hasB ml tq=true then(if(l6 ml tq).2=true then mx 0 ((l6 ml tq).1-nL t2 ml) else 0)
  else if(l6 ml vO).2=true then(if tC m2=true then(if(l6 ml vO).1<=nL t2 ml then mn 86400 (Int.tdiv (nL t2 ml-(l6 ml vO).1) 10) else 0) else 0) else 0
theorem LF {a b:Int} (h1:0<=a) (h2:b<=253402300799) (h3:0<=b) (h:a<=b):wrap64 (Int.tdiv (wrap64 (b-a)) 10)=Int.tdiv (b-a) 10/\0<=Int.tdiv (b-a) 10:=by
  have e:wrap64 (b-a)=b-a:=ak aa aa
  have h0:0<=Int.tdiv (b-a) 10:=Int.tdiv_nonneg aa av
  have h5:Int.tdiv (b-a) 10=(b-a) / 10:=Int.tdiv_eq_ediv_of_nonneg aa
  rw[e]
  refine⟨ak aa aa,h0⟩
noncomputable def vR (u:af) (t1 t2:Int) (l:List aH) (m0 m1:af) (m2:Int) (m3:af) (m4:Bool) (ml:List aH) (m6:af):Int:=if nI u t1 t2 l m0 m1 m2 m3 m4 ml m6=true then UK t2 m2 ml else -1
theorem CQ (u:af) (t1 t2:Int) (l:List aH) (m0 m1:af) (m2:Int) (m3:af) (m4:Bool) (ml:List aH) (m6:af) (hu:u.size<=1048576) (k:Nat) (hk:80000010<k):kF.f k u t1 t2 l m0 m1 m2 m3 m4 ml m6=some (vR u t1 t2 l m0 m1 m2 m3 m4 ml m6):=by
  unfold kF.f vR
  rw[xg _ _ _ _ _ _ _ _ _ _ _ hu k hk,aj]
  by_cases h:nI u t1 t2 l m0 m1 m2 m3 m4 ml m6=true
  case neg=>rw[if_neg h,if_neg h]
  obtain⟨h1,h2,_⟩:=qN h
  have c:=qM t2 ml h2
  have ce:=qK ml tq
  have cm:=qK ml vO
  unfold ry at ce cm
  rw[if_pos h,if_pos h,yD ml k aa,aj]
  unfold UK iJ.Nh
  dsimp only
  by_cases e1:(ik ml).n7>=0
  · rw[if_pos e1,if_pos e1]
  rw[if_neg e1,if_neg e1]
  by_cases e2:(ik ml).n6>=0
  · rw[if_pos e2,if_pos e2]
  rw[if_neg e2,if_neg e2,show(⟨#[101,120,112,105,114,101,115]⟩:af)=tq from rfl,ui ml tq av k aa,aj]
  by_cases e3:hasB ml tq=true
  · rw[if_pos e3,if_pos e3,sW ml tq av k aa,aj]
    by_cases e4:(l6 ml tq).2=true
    · rw[if_pos e4,if_pos e4,wR _ _ _ _ _ _ _ _ _ _ _ k aa,aj,ak aa aa]
    · rw[if_neg e4,if_neg e4]
  rw[if_neg e3,if_neg e3,show(⟨#[108,97,115,116,45,109,111,100,105,102,105,101,100]⟩:af)=vO from rfl,sW ml vO av k aa,aj]
  by_cases e4:(l6 ml vO).2=true
  case neg=>rw[if_neg e4,if_neg e4]
  rw[if_pos e4,if_pos e4,Ei m2 k aa,aj]
  by_cases e5:tC m2=true
  case neg=>rw[if_neg e5,if_neg e5]
  rw[if_pos e5,if_pos e5,wR _ _ _ _ _ _ _ _ _ _ _ k aa,aj]
  by_cases e6:(l6 ml vO).1<=nL t2 ml
  case neg=>rw[if_neg e6,if_neg e6]
  rw[if_pos e6,if_pos e6,aj,(LF cm.1 c.2 c.1 e6).1]
theorem CR (u:af) (t1 t2:Int) (l:List aH) (m0 m1:af) (m2:Int) (m3:af) (m4:Bool) (ml:List aH) (m6:af) (hu:u.size<=1048576) (k:Nat) (hk:80000020<k):fq.f k u t1 t2 l m0 m1 m2 m3 m4 ml m6=some (vR u t1 t2 l m0 m1 m2 m3 m4 ml m6):=by
  unfold fq.f vR
  rw[ou _ _ _ _ _ _ _ _ _ _ _ hu k aa,aj]
  by_cases h:nI u t1 t2 l m0 m1 m2 m3 m4 ml m6=true
  case neg=>rw[if_neg h,if_neg h]
  obtain⟨h1,h2,_⟩:=qN h
  have c:=qM t2 ml h2
  have ce:=qK ml tq
  have cm:=qK ml vO
  unfold ry at ce cm
  have hD:∀ k,80000010<k->lZ.f k u t1 t2 l m0 m1 m2 m3 m4 ml m6=some (nL t2 ml):=by
    intro k hk
    rw[xP _ _ _ _ _ _ _ _ _ _ _ hu k hk]
    unfold EF
    rw[if_pos h]
  rw[if_pos h,if_pos h,yC ml k aa,aj]
  unfold UK iJ.Nh
  dsimp only
  by_cases e1:(ik ml).n7>=0
  · rw[if_pos e1,if_pos e1]
  rw[if_neg e1,if_neg e1]
  by_cases e2:(ik ml).n6>=0
  · rw[if_pos e2,if_pos e2]
  rw[if_neg e2,if_neg e2,show(⟨#[101,120,112,105,114,101,115]⟩:af)=tq from rfl,CE ml tq av k aa,aj]
  dsimp only
  by_cases e3:hasB ml tq=true
  · rw[if_pos e3,if_pos e3,rq ml tq av k aa,aj]
    by_cases e4:(l6 ml tq).2=true
    · rw[if_pos e4,if_pos e4,hD k aa,aj,CO,aj,ak aa aa]
      unfold mx
      split <;> rfl
    · rw[if_neg e4,if_neg e4]
  rw[if_neg e3,if_neg e3,show(⟨#[108,97,115,116,45,109,111,100,105,102,105,101,100]⟩:af)=vO from rfl,rq ml vO av k aa,aj]
  obtain⟨k,rfl⟩:∃ j,k=j+1:=⟨k-1,by omega⟩
  by_cases e4:(l6 ml vO).2=true
  case neg=>rw[if_neg e4,if_neg e4];simp only[fq.j0];rw[if_pos trivial]
  rw[if_pos e4,if_pos e4,Ej m2,aj]
  by_cases e5:tC m2=true
  case neg=>rw[if_neg e5,if_neg e5];simp only[fq.j0];rw[if_pos trivial]
  rw[if_pos e5,if_pos e5,hD (k+1) aa,aj]
  simp only[fq.j0]
  by_cases e6:(l6 ml vO).1<=nL t2 ml
  case neg=>rw[if_pos (aQ aa),if_neg e6]
  rw[if_neg (by rw[aT aa];decide),if_pos e6,hD k aa,aj,(LF cm.1 c.2 c.1 e6).1]
  unfold mn
  split <;> rfl
noncomputable def YY (u:af) (t1 t2:Int) (l:List aH) (m0 m1:af) (m2:Int) (m3:af) (m4:Bool) (ml:List aH) (m6:af) (now:Int):Bool:=if FH u t1 t2 l m0 m1 m2 m3 m4 ml m6 now>=0 then decide (vR u t1 t2 l m0 m1 m2 m3 m4 ml m6>FH u t1 t2 l m0 m1 m2 m3 m4 ml m6 now) else false
theorem SN (u:af) (t1 t2:Int) (l:List aH) (m0 m1:af) (m2:Int) (m3:af) (m4:Bool) (ml:List aH) (m6:af) (now:Int) (hu:u.size<=1048576) (k:Nat) (hk:80000020<k):rO.f k u t1 t2 l m0 m1 m2 m3 m4 ml m6 now=some (YY u t1 t2 l m0 m1 m2 m3 m4 ml m6 now):=by
  unfold rO.f YY
  rw[H7 _ _ _ _ _ _ _ _ _ _ _ _ hu k aa,aj]
  split
  · rw[CQ _ _ _ _ _ _ _ _ _ _ _ hu k aa,aj]
  · rfl
theorem SQ (u:af) (t1 t2:Int) (l:List aH) (m0 m1:af) (m2:Int) (m3:af) (m4:Bool) (ml:List aH) (m6:af) (now:Int) (hu:u.size<=1048576) (k:Nat) (hk:80000020<k):rP.f k u t1 t2 l m0 m1 m2 m3 m4 ml m6 now=some (YY u t1 t2 l m0 m1 m2 m3 m4 ml m6 now):=by
  unfold rP.f YY
  rw[H8 _ _ _ _ _ _ _ _ _ _ _ _ hu k aa,aj]
  split
  · rw[CR _ _ _ _ _ _ _ _ _ _ _ hu k aa,aj]
  · rfl

end Go.Proofs.YtfhllanhldbkkaaGreatDoor.P
end

section
namespace Go.Proofs.YtfhllanhldbkkaaGreatDoor.Pure
open Go.RowKit Go.Proofs.YtfhllanhldbkkaaGreatDoor.P Go.Proofs.YtfhllanhldbkkaaGreatDoorW.aW Go.Proofs.YtfhllanhldbkkaaGreatDoorW.eQ Go.Proofs.YtfhllanhldbkkaaGreatDoorW.fO
set_option linter.unusedVariables false
set_option linter.unusedSimpArgs false

theorem FnExactFreshAt : ic.Pure:=by
  intro a0 a1 a2 l3 a4 a5 a6 a7 a8 l9 WM now z0 w1 w2 z3 z9 wn
  have h3:l3.length<=4398046511104:=by omega
  have h9:l9.length<=4398046511104:=by omega
  have m3:(l3.map toF).length=l3.length:=List.length_map ..
  have m9:(l9.map toF).length=l9.length:=List.length_map ..
  obtain⟨t,ht,hsmall⟩:=JE a0 a1 a2 l3 a4 a5 a6 a7 a8 l9 WM z0 h3 h9 (l3.length+l9.length+90000000) aa
  refine⟨l3.length+l9.length+90000000,?_⟩
  have hto:=NQ a0 a1 a2 l3 a4 a5 a6 a7 a8 l9 WM h3 h9 (l3.length+l9.length+90000000) aa
  unfold ic.f
  rw[ht,aj]
  by_cases hn:t<0
  · rw[if_pos hn]
  · have hu:=hsmall hn
    rw[if_neg hn,hto,aj]
    dsimp only
    rw[SQ _ _ _ _ _ _ _ _ _ _ _ _ hu _ aa,aj,aj]
    dsimp only
    rw[SN _ _ _ _ _ _ _ _ _ _ _ _ hu _ aa,aj,if_neg (by simp),aj]
    dsimp only
    rw[JF _ _ _ _ _ _ _ _ _ _ _ aa aa _ aa,aj,if_pos rfl]

end Go.Proofs.YtfhllanhldbkkaaGreatDoor.Pure
end
