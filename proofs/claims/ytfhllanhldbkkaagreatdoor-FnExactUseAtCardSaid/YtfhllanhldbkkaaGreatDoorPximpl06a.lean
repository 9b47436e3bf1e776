import Derived.Lib.ItoaLen
import Derived.Test.YtfhllanhldbkkaaGreatDoorPximpl02j
set_option maxHeartbeats 8000000
set_option maxRecDepth 100000
namespace Go.Proofs.YtfhllanhldbkkaaGreatDoor.P
open Go.RowKit Go.Proofs.YtfhllanhldbkkaaGreatDoorW.aW Go.Proofs.YtfhllanhldbkkaaGreatDoorW.eQ Go.Proofs.YtfhllanhldbkkaaGreatDoorW.fO
attribute [local go_sem] kV kW mE mF jP jQ kX kY dZ E8 E9 Fa Fb oU oV
set_option linter.unusedVariables false
set_option linter.unusedSimpArgs false

def qP.f (a0:Int):Option (Bool):=if a0>=33 then(some (decide (a0<=126))) else(some false)
theorem qP.calls (a0:Int) (r:Bool) (w:World) (h:qP.f a0=some r) :
  Calls Tryz.prog 109 #[.int .u8 a0] w fun e w'=>e = .returned (.bool r)/\bL w w':=by
 unfold qP.f at h;exact uA
@[reducible,instance] def qP.c:=jM.of 0 Tryz.func109 @qP.calls

def bE.l0 : Nat->ByteArray->Int->Option (Bool)
 |0,_,_=>none
 |k+1,x0,x5=>if x5<(x0.size:Int) then(if 0<=x5 then((qP.f (bt x0 x5)).bind fun aCc=>(if aCc=true then(bE.l0 k x0 (wrap64 (x5+1))) else(some false))) else(none)) else(some true)
def bE.f (k:Nat) (a0:ByteArray)  : Option (Bool):=bE.l0 k a0 0
theorem bE.calls (k:Nat) (a0:ByteArray)  (r:Bool) (w:World) (h:bE.f k a0=some r) :
  Calls Tryz.prog 107 #[.string a0,.func (.func 109) #[] #[]] w fun e w'=>e = .returned (.bool r)/\bL w w':=by
 have H:=ae.mk h;clear h;unfold bE.f at H;go_enter Tryz.func107,Tryz.ntmps107;go_wp2;go_loopg [5] k (fun kq v5 w'=>∃(gH:Int),v5 = .int .i64 gH/\ae (bE.l0 kq a0 gH=some r)/\ae (kq<=k)/\bL w w')
 case atStart=>exact⟨(0),kD,H,⟨Nat.le_refl _⟩,TP⟩
 case round=>
  clear H;obtain⟨gH,rfl,HA,mh,⟨m1,rfl⟩⟩:=hrel;cases gk with
  |zero=>exact absurd HA.out (by simp[bE.l0])
  |succ k1=>
   have H:=HA;clear HA;simp only[bE.l0] at H;exact uW
@[reducible,instance] def bE.c:=jM.of 3 Tryz.func107 @bE.calls

def uh.f  : Option (List ByteArray):=some (([(⟨#[99,111,110,116,101,110,116,45,108,101,110,103,116,104]⟩:af),(⟨#[116,114,97,110,115,102,101,114,45,101,110,99,111,100,105,110,103]⟩:af),(⟨#[116,114,97,105,108,101,114]⟩:af)]:List ByteArray))
theorem uh.calls  (r:List ByteArray) (w:World) (h:uh.f  = some r) :
  Calls Tryz.prog 67 #[] w fun e w'=>∃ KW:Value,e = .returned (KW)/\Kd.R Kd.string 9 w' w.heap.size (fun _=>True) KW r/\Below w.heap.size w w':=by
 have HB:=ae.mk (Below.refl w.heap.size w);have H:=h;clear h;unfold uh.f at H;obtain⟨aCd,abn⟩:∃ y_:List ByteArray,y_=(([(⟨#[99,111,110,116,101,110,116,45,108,101,110,103,116,104]⟩:af),(⟨#[116,114,97,110,115,102,101,114,45,101,110,99,111,100,105,110,103]⟩:af),(⟨#[116,114,97,105,108,101,114]⟩:af)]:List ByteArray)):=⟨_,rfl⟩;replace H:(some aCd)=some r:=by first|(rw[abn];with_reducible exact H)|(have mW:=(aj _ _).symm.trans H;rw[abn];with_reducible exact mW)|(have mW:=(aj _ _).symm.trans H;with_reducible exact mW)|with_reducible exact H|(rw[abn];exact H)|exact H
 have aqx:=ae.mk abn;clear abn;obtain rfl:=gK H;go_enter Tryz.func67,Tryz.ntmps67;go_wp2_with(((with_reducible refine vJ 1 rfl ?_);refine Kd.Xf Kd.string _ 9 ?hg (N:=1) ?hd (xs:=([(⟨#[99,111,110,116,101,110,116,45,108,101,110,103,116,104]⟩:af),(⟨#[116,114,97,110,115,102,101,114,45,101,110,99,111,100,105,110,103]⟩:af),(⟨#[116,114,97,105,108,101,114]⟩:af)]:List ByteArray)) (inner:=[.string (⟨#[99,111,110,116,101,110,116,45,108,101,110,103,116,104]⟩:af),.string (⟨#[116,114,97,110,115,102,101,114,45,101,110,99,111,100,105,110,103]⟩:af),.string (⟨#[116,114,97,105,108,101,114]⟩:af)]) (ok:=fun _=>True) (okp:=fun _=>True) ?hr ?hp (fun _ hk=>hk) trivial (Below.refl _ _) (Nat.le_refl _) (by simp) ?_;(case hd=>rfl);(case hg=>rfl);(case hr=>first|(go_simp;done)|(go_simp;rfl));(case hp=>exact(iB.one (show Kd.M Kd.string _ _ _ (⟨#[99,111,110,116,101,110,116,45,108,101,110,103,116,104]⟩:af) [.string (⟨#[99,111,110,116,101,110,116,45,108,101,110,103,116,104]⟩:af)] from rfl) (iB.one (show Kd.M Kd.string _ _ _ (⟨#[116,114,97,110,115,102,101,114,45,101,110,99,111,100,105,110,103]⟩:af) [.string (⟨#[116,114,97,110,115,102,101,114,45,101,110,99,111,100,105,110,103]⟩:af)] from rfl) (iB.one (show Kd.M Kd.string _ _ _ (⟨#[116,114,97,105,108,101,114]⟩:af) [.string (⟨#[116,114,97,105,108,101,114]⟩:af)] from rfl) (iB.none _ _)))));intro aI3 mo ho2 hb hg_ hnew_;clear hg_ hnew_;(first|rw[<- aqx.out] at ho2|(simp only[Int.reduceToNat] at ho2;rw[<- aqx.out] at ho2));have aGM:=ae.mk (Kd.gZ ho2 (bq dL));replace HB:=iC hb;clear hb ho2));go_ret;exact⟨_,su,wh,dL⟩
@[reducible,instance] def uh.c:=jM.of 0 Tryz.func67 @uh.calls

def rW.f (a0:Int):Option (Bool):=(dB.f a0 200 599).bind fun aCe=>(some aCe)
theorem rW.calls (a0:Int) (r:Bool) (w:World) (h:rW.f a0=some r) :
  Calls Tryz.prog 70 #[.int .i64 a0] w fun e w'=>e = .returned (.bool r)/\bL w w':=by
 unfold rW.f at h;exact uA
@[reducible,instance] def rW.c:=jM.of 0 Tryz.func70 @rW.calls

def rX.f (k:Nat) (a0:ByteArray):Option (Bool):=if(a0.size:Int)<=40 then((bM.f k a0).bind fun aCf=>(some aCf)) else(some false)
theorem rX.calls (k:Nat) (a0:ByteArray) (r:Bool) (w:World) (h:rX.f k a0=some r) :
  Calls Tryz.prog 71 #[.string a0] w fun e w'=>e = .returned (.bool r)/\bL w w':=by
 unfold rX.f at h;exact uA
@[reducible,instance] def rX.c:=jM.of 0 Tryz.func71 @rX.calls

def kL.f (a0:Int):Option (Bool):=if a0=204 then(some true) else(some (a0==304))
theorem kL.calls (a0:Int) (r:Bool) (w:World) (h:kL.f a0=some r) :
  Calls Tryz.prog 72 #[.int .i64 a0] w fun e w'=>e = .returned (.bool r)/\bL w w':=by
 unfold kL.f at h;exact uA
@[reducible,instance] def kL.c:=jM.of 0 Tryz.func72 @kL.calls


-- IMPORT Shelf Derived.Lib.AppendStr Derived.Lib.ItoaNum Derived.Lib.ItoaLen Derived.Shelf.Strings.Builder1
def BU (w:World) (b:Nat) (t:ByteArray):Prop:=Lib.IsBuilder 102 5 b b (Lib.strCells t) w
theorem ZC (s t:ByteArray):Lib.strCells (s++t)=Lib.strCells s++Lib.strCells t:=by
 unfold Lib.strCells
 rw[<- List.map_append]
 congr 1
theorem aqy {w:World} {b:Nat} {t:ByteArray} (h:BU w b t):b<w.heap.size:=by
 rcases h with⟨_,v,h2,_⟩|⟨_,v,h2,_⟩ <;> exact zF h2
theorem PZ {w w':World} {b:Nat} {t:ByteArray} (h:ae (BU w b t)) (hb:Below w.heap.size w w'):ae (BU w' b t):=by
 have key:∀ p,Lib.BuilderAt 102 5 b b p (Lib.strCells t) w->Lib.BuilderAt 102 5 b b p (Lib.strCells t) w':=by
  rintro p ⟨h1,v,h2,h3,h4⟩
  refine⟨h1,v,(hb.block b (zF h2)).trans h2,⟨h3.1,?_⟩,h4⟩
  rcases h3.2 with h5|⟨g,cap,cur,e1,e2,e3,e4⟩
  ·exact .inl h5
  ·exact .inr ⟨g,cap,cur,e1,e2,(hb.block g (zF e3)).trans e3,e4⟩
 exact⟨h.out.elim (fun x=>.inl (key _ x)) (fun x=>.inr (key _ x))⟩
theorem ath {w:World} {b:Nat} (h:w.heap[b]? = some (.cells #[.pointer none,.slice none 0 0] 102 (0,0))):ae (BU w b ⟨#[]⟩):=
 ⟨.inl ⟨Nat.le_refl _,.slice none 0 0,h,⟨rfl,.inl ⟨rfl,rfl⟩⟩,by simp[Value.ownBlock]⟩⟩
theorem P5 {w:World} {b:Nat} {t:ByteArray} (s:ByteArray) (h:ae (BU w b t)) (hl:t.size+s.size<=140737488355328) :
  Calls Tryz.prog 110 #[.pointer (some ⟨b,0,none⟩),.string s] w fun e w'=>e = .returned (.tuple #[.int .i64 s.size,.nilIface])/\ae (BU w' b (t++s))/\Below b w w':=by
 refine(Any.Builder_WriteString ({ Tryz.Tf with }:Lays.n166 Tryz.prog Tryz.GY) Tryz.xD b b (Lib.strCells t) s w h.out (by rw[Lib.strCells_length];exact hl) (Nat.le_of_lt (aqy h.out))).mono ?_
 rintro e w' ⟨rfl,h1,h2⟩
 exact⟨rfl,⟨.inr (by rw[ZC];exact h1)⟩,h2⟩
theorem agE {w:World} {b:Nat} {t:ByteArray} (h:ae (BU w b t)) :
  Calls Tryz.prog 113 #[.pointer (some ⟨b,0,none⟩)] w fun e w'=>e = .returned (.string t)/\Below b w w':=by
 refine(Any.Builder_String_any ({ Tryz.Tf with }:Lays.n169 Tryz.prog Tryz.GY) Tryz.xD b b t.data.toList w h.out (Nat.le_of_lt (aqy h.out))).mono ?_
 rintro e w' ⟨rfl,h2⟩
 exact⟨rfl,h2⟩
theorem fe (s t:ByteArray):(s++t).size=s.size+t.size:=ByteArray.size_append
def Ay (f:j6):ByteArray:=(((f.f0++(⟨#[58,32]⟩:af))++f.f1)++(⟨#[13,10]⟩:af))
def tN (t:ByteArray) (l:List j6):ByteArray:=l.foldl (fun t f=>t++Ay f) t
def firstT (m0 m1:ByteArray) (m2:Int) (m3:ByteArray):ByteArray:=
 if m0.toList=([]:aM) then(((((⟨#[72,84,84,80,47,49,46,49,32]⟩:af)++iQ m2)++(⟨#[32]⟩:af))++m3)++(⟨#[13,10]⟩:af))
 else((((m0++(⟨#[32]⟩:af))++m1)++(⟨#[32,72,84,84,80,47,49,46,49]⟩:af))++(⟨#[13,10]⟩:af))
def JA (m6:ByteArray):ByteArray:=(((⟨#[67,111,110,116,101,110,116,45,76,101,110,103,116,104,58,32]⟩:af)++iQ (m6.size:Int))++(⟨#[13,10]⟩:af))
def oW (m0:ByteArray) (m4:Bool) (m6:ByteArray):Bool:=if m0.toList=([]:aM) then !m4 else m6.toList != ([]:aM)
def Az (m0 m1:ByteArray) (m2:Int) (m3:ByteArray) (m4:Bool) (l:List j6) (m6:ByteArray):ByteArray:=
 let t:=tN ((⟨#[]⟩:af)++firstT m0 m1 m2 m3) l
 (if oW m0 m4 m6=true then t++JA m6 else t)++(⟨#[13,10]⟩:af)
def P6 (m0 m1:ByteArray) (m2:Int) (m3:ByteArray) (l:List j6) (m6:ByteArray):Prop:=
 m0.size<=100000/\m1.size<=100000/\(0<=m2/\m2<=999999999999999)/\m3.size<=100000/\m6.size<=100000/\l.length<=1000/\∀ f∈l,f.f0.size<=100000/\f.f1.size<=100000
instance headFits_dec (m0 m1:ByteArray) (m2:Int) (m3:ByteArray) (l:List j6) (m6:ByteArray):Decidable (P6 m0 m1 m2 m3 l m6):=by unfold P6;exact inferInstance
def iq.f (m0 m1:ByteArray) (m2:Int) (m3:ByteArray) (m4:Bool) (l:List j6) (m6:ByteArray):Option (ByteArray):=
 if P6 m0 m1 m2 m3 l m6 then some (Az m0 m1 m2 m3 m4 l m6) else none
theorem zG (n:Int) (h0:0<=n) (h1:n<=999999999999999):(iQ n).size<=21:=by
 have:=Lib.itoa_length_le n aa aa
 unfold iQ
 simpa [ByteArray.size] using this
theorem Sc (m0 m1:ByteArray) (m2:Int) (m3:ByteArray) (h0:m0.size<=100000) (h1:m1.size<=100000) (h2:0<=m2/\m2<=999999999999999) (h3:m3.size<=100000):(firstT m0 m1 m2 m3).size<=300000:=by
 have hi:=zG m2 h2.1 h2.2
 unfold firstT
 split
 ·simp only[fe]
  show 9+(iQ m2).size+1+m3.size+2<=300000
  omega
 ·simp only[fe]
  show m0.size+1+m1.size+9+2<=300000
  omega
theorem Vw (f:j6) (h0:f.f0.size<=100000) (h1:f.f1.size<=100000):(Ay f).size<=300000:=by
 unfold Ay
 simp only[fe]
 show f.f0.size+2+f.f1.size+2<=300000
 omega
theorem Mi : ∀(l:List j6) (t:ByteArray),(∀ f∈l,f.f0.size<=100000/\f.f1.size<=100000)->(tN t l).size<=t.size+300000*l.length
 |[],t,_=>Nat.le_refl _
 |f::l,t,h=>by
  have h1:=Mi l (t++Ay f) (fun g hg=>h g (List.mem_cons_of_mem _ hg))
  have h2:=Vw f (h f (List.mem_cons_self ..)).1 (h f (List.mem_cons_self ..)).2
  rw[fe] at h1
  show(tN (t++Ay f) l).size<=t.size+300000*(l.length+1)
  omega
theorem abo (l:List j6) (t:ByteArray) (n:Nat) (h:n<l.length):tN t (l.take (n+1))=tN t (l.take n)++Ay (bF l (n:Int)):=by
 have e:bF l (n:Int)=l[n]:=by
  unfold bF
  rw[Int.toNat_natCast,List.getD_eq_getElem?_getD,List.getElem?_eq_getElem h]
  rfl
 unfold tN
 rw[List.take_succ_eq_append_getElem h,List.foldl_append,e]
 rfl
theorem Ti {w w':World} {g b:Nat} {o:Obj} (h:ae (w.heap[g]? = some o)) (hl:ae (g<b)) (hb:Below b w w'):ae (w'.heap[g]? = some o):=⟨(hb.block g hl.out).trans h.out⟩
theorem P7 {w w':World} {b:Nat} {W:World} (h:ae (Below W.heap.size W w)) (hg:ae (W.heap.size<=b)) (hb:Below b w w'):ae (Below W.heap.size W w'):=⟨h.out.trans (hb.mono hg.out)⟩
def aqz : Bool×List (List Nat×List Nat):=(true,[([],[]),([0],[0]),([1],[1]),([2],[2]),([3],[3]),([],[]),([5],[5]),([4,6],[4,6]),([7],[7]),([8,2],[8])])
def awX : List Nat:=[0,1,3,7,15,0,32,127,255,511]
theorem alN : pX .any (opsOf Tryz.f73 4)=aqz:=by kernel_rfl
theorem ajh : jK aqz.2 awX=true:=by kernel_rfl
theorem iq.e0 {p:Prop} (h:p:=by
  go_wp2_with(first|((with_reducible refine lS 111 rfl ?_);refine wC (some 61) rfl rfl Tryz.func111 eB rfl #[.int .i64 (aZ.size:Int)] rfl QG ?_;refine(iw.calls (aZ.size:Int) (iQ (aZ.size:Int)) _ hA9.out (kG HT)).mono ?_;rintro e LG ⟨rfl,hb⟩;refine⟨_,rfl,?_⟩;replace BKm:=jr (g:=gm) hb;replace SY:=PZ SY hb;replace HB:=iC hb;clear hb;have _:=Pd BKm)|((with_reducible refine lS 110 rfl ?_);refine wC (some 64) rfl rfl Tryz.func110 eB rfl #[.pointer (some ⟨gb,0,none⟩),.string (((⟨#[67,111,110,116,101,110,116,45,76,101,110,103,116,104,58,32]⟩:af)++iQ (aZ.size:Int))++(⟨#[13,10]⟩:af))] rfl QG ?_;refine(P5 (((⟨#[67,111,110,116,101,110,116,45,76,101,110,103,116,104,58,32]⟩:af)++iQ (aZ.size:Int))++(⟨#[13,10]⟩:af)) SY hql.out).mono ?_;rintro e M7 ⟨rfl,hu,hb⟩;refine⟨_,rfl,?_⟩;replace BKm:=Ti BKm LM hb;replace HB:=P7 HB GEb hb;replace SY:=hu;clear hu hb)|((with_reducible refine lS 113 rfl ?_);refine wC (some 65) rfl rfl Tryz.func113 eB rfl #[.pointer (some ⟨gb,0,none⟩)] rfl QG ?_;refine(agE SY).mono ?_;rintro e GH ⟨rfl,hb⟩;refine⟨_,rfl,?_⟩;replace HB:=P7 HB GEb hb;clear hb)|fail)
  go_ret
  exact⟨by rw[hh.out];rfl,HB.out⟩):p:=h
theorem iq.calls (az aA:ByteArray) (aC:Int) (bI:ByteArray) (aG:Bool) (wT:Option Addr) (wU:Nat) (fM:List j6) (aZ r:ByteArray) (w:World) (wo:Kd.C tZ w wT fM.length fM) (wu:fM.length<=wU) (h:iq.f az aA aC bI aG fM aZ=some r) (HT0:nN w) :
  Calls Tryz.prog 73 #[.agg #[.string az,.string aA,.int .i64 aC,.string bI,.bool aG,.slice wT fM.length wU,.string aZ]] w fun e w'=>e = .returned (.string r)/\Below w.heap.size w w':=by
 have huM:=Tryz.underlying31;have huF:=Tryz.underlying72;have GL:=ae.mk wo;have GG:=ae.mk wu;have HT:=ae.mk HT0;clear wo wu HT0;unfold iq.f at h;by_cases hF:P6 az aA aC bI fM aZ
 case neg=>rw[if_neg hF] at h;cases h
 rw[if_pos hF] at h;obtain rfl:=gK h;clear h;have HF:=ae.mk hF;clear hF;have HB:=ae.mk (Below.refl w.heap.size w);go_enter Tryz.func73,Tryz.ntmps73;go_upto_if 8 with(first|((with_reducible refine vJ 1 rfl ?_);refine qo #[.string az,.string aA,.int .i64 aC,.string bI,.bool aG,.slice wT fM.length wU,.string aZ] 31 ?_;intro gm hg w1 hbox hb;have BKm:=ae.mk hbox;have GEm:=rE hg;replace HB:=iC hb;clear hb hbox hg;have _:=Pd BKm)|((with_reducible refine vJ 3 rfl ?_);refine qo #[.pointer none,.slice none 0 0] 102 ?_;intro gb hg w2 hbox hb;have GEb:=rE hg;have LTm:=O9 (g:=gm) hg;have SY:=ath hbox;have LM:=ae.mk (by rw[hg];exact(zF BKm.out):gm<gb);replace BKm:=jr (g:=gm) hb;replace HB:=iC hb;clear hb hbox hg;have _:=Pd BKm));(try simp only[Act.put,List.setIfInBounds_toArray,List.set_cons_zero,List.set_cons_succ])
 go_cut [1] (fun v1 wc=>v1 = .pointer (some ⟨gm,0,none⟩)/\ae (wc.heap[gm]? = some (.cells #[.string az,.string aA,.int .i64 aC,.string bI,.bool aG,.slice wT fM.length wU,.string aZ] 31 (0,0)))/\ae (BU wc gb ((⟨#[]⟩:af)++firstT az aA aC bI))/\ae (Below w.heap.size w wc))
 case first=>
  by_cases e0:az.toList=([]:aM)
  ·have hfirst:firstT az aA aC bI=(((((⟨#[72,84,84,80,47,49,46,49,32]⟩:af)++iQ aC)++(⟨#[32]⟩:af))++bI)++(⟨#[13,10]⟩:af)):=if_pos e0;have hne:az.toList.isEmpty=true:=List.isEmpty_iff.mpr e0;have HFI:=ae.mk hfirst;clear hfirst e0;have hi:=zG aC HF.out.2.2.1.1 HF.out.2.2.1.2;have y3:=HF.out.2.2.2.1;have q1:(9223372036854775807<9+(iQ aC).size)=False:=eq_false aa;have q2:(9223372036854775807<9+(iQ aC).size+1)=False:=eq_false aa;have q3:(9223372036854775807<9+(iQ aC).size+1+bI.size)=False:=eq_false aa;have q4:(9223372036854775807<9+(iQ aC).size+1+bI.size+2)=False:=eq_false aa;have ql:(⟨#[]⟩:af).size+(((((⟨#[72,84,84,80,47,49,46,49,32]⟩:af)++iQ aC)++(⟨#[32]⟩:af))++bI)++(⟨#[13,10]⟩:af)).size<=140737488355328:=by
    simp only[fe];show 0+(9+(iQ aC).size+1+bI.size+2)<=140737488355328
    omega
   have A9:iw.f aC=some (iQ aC):=if_pos ⟨by have:=HF.out.2.2.1;omega,by have:=HF.out.2.2.1;omega⟩;have hA9:=ae.mk A9;have hql:=ae.mk ql;clear hi y3 A9 ql;(first|rw[hne]|skip)
   go_wp2;replace BKm:=ae.mk (dh BKm.out);replace HB:=ae.mk (bn HB.out);replace SY:=PZ SY (bn (Below.refl _ _));refine kJ (n:=10) (S:=fun w'=>w'.cell? ⟨gm,2,none⟩=some (.int .i64 aC)/\w'.cell? ⟨gm,3,none⟩=some (.string bI)) (ds:=[]) ⟨(ag BKm.out 2).trans rfl,(ag BKm.out 3).trans rfl⟩ (fun hHeld=>?_);refine dY alN ajh (fun HT_ HW_=>?_);generalize w2.drew=mo at BKm HB SY hHeld ⊢;repeat(first|refine mr ?_ (hy:=Or.inl ⟨by rfl,acW⟩)|refine ek ?_)
   refine bN 5 (some 23) ?_;refine fQ 6 (some 24) (hy:=Or.inl ⟨by rfl,acW⟩) ?_;refine gV (fun K hK=>?_);refine lQ Tryz.func111 eB rfl #[.int .i64 aC] (by rfl) rfl rfl QG ?_;refine(iw.calls aC (iQ aC) _ hA9.out (kG HT)).mono ?_;rintro e mV ⟨rfl,hb⟩;refine⟨_,rfl,?_⟩;replace BKm:=jr (g:=gm) hb;replace HB:=iC hb;replace SY:=PZ SY hb;(try clear hb)
   refine hK.out _ _ ⟨(ag BKm.out 2).trans rfl,(ag BKm.out 3).trans rfl⟩ (fun hHeld=>?_);clear hK K;refine dI ?_;repeat(first|refine ek ?_)
   refine gV (fun K hK=>?_);refine lQ Tryz.func110 eB rfl #[.pointer (some ⟨gb,0,none⟩),.string (((((⟨#[72,84,84,80,47,49,46,49,32]⟩:af)++iQ aC)++(⟨#[32]⟩:af))++bI)++(⟨#[13,10]⟩:af))] (by rfl) rfl rfl QG ?_;refine(P5 (((((⟨#[72,84,84,80,47,49,46,49,32]⟩:af)++iQ aC)++(⟨#[32]⟩:af))++bI)++(⟨#[13,10]⟩:af)) SY hql.out).mono ?_;rintro e tT ⟨rfl,hu,hb⟩;refine⟨_,rfl,?_⟩;replace BKm:=Ti BKm LM hb;replace HB:=P7 HB GEb hb;replace SY:=hu;clear hu hb;refine hK.out _ _ ⟨(ag BKm.out 2).trans rfl,(ag BKm.out 3).trans rfl⟩ (fun hHeld=>?_);clear hK K;refine dI ?_;refine lh (gP HT_.out eB) ?_;try go_wp2
   go_meet
   case rel=>exact⟨rfl,BKm,⟨by rw[HFI.out];exact SY.out⟩,HB⟩
  ·have hfirst:firstT az aA aC bI=((((az++(⟨#[32]⟩:af))++aA)++(⟨#[32,72,84,84,80,47,49,46,49]⟩:af))++(⟨#[13,10]⟩:af)):=if_neg e0;have hne:az.toList.isEmpty=false:=Bool.eq_false_iff.mpr (fun h_=>e0 (List.isEmpty_iff.mp h_));have HFI:=ae.mk hfirst;clear hfirst e0;have y0:=HF.out.1;have y1:=HF.out.2.1;have q1:(9223372036854775807<az.size+1)=False:=eq_false aa;have q2:(9223372036854775807<az.size+1+aA.size)=False:=eq_false aa;have q3:(9223372036854775807<az.size+1+aA.size+9)=False:=eq_false aa;have q4:(9223372036854775807<az.size+1+aA.size+9+2)=False:=eq_false aa;have ql:(⟨#[]⟩:af).size+((((az++(⟨#[32]⟩:af))++aA)++(⟨#[32,72,84,84,80,47,49,46,49]⟩:af))++(⟨#[13,10]⟩:af)).size<=140737488355328:=by
    simp only[fe];show 0+(az.size+1+aA.size+9+2)<=140737488355328
    omega
   have hql:=ae.mk ql;clear y0 y1 ql;(first|rw[hne]|skip)
   go_wp2_with(((with_reducible refine lS 110 rfl ?_);refine wC (some 17) rfl rfl Tryz.func110 eB rfl #[.pointer (some ⟨gb,0,none⟩),.string ((((az++(⟨#[32]⟩:af))++aA)++(⟨#[32,72,84,84,80,47,49,46,49]⟩:af))++(⟨#[13,10]⟩:af))] rfl QG ?_;refine(P5 ((((az++(⟨#[32]⟩:af))++aA)++(⟨#[32,72,84,84,80,47,49,46,49]⟩:af))++(⟨#[13,10]⟩:af)) SY hql.out).mono ?_;rintro e Og ⟨rfl,hu,hb⟩;refine⟨_,rfl,?_⟩;replace BKm:=Ti BKm LM hb;replace HB:=P7 HB GEb hb;replace SY:=hu;clear hb;have _:=Pd BKm));go_meet
   case rel=>exact⟨rfl,BKm,⟨by rw[HFI.out];exact SY.out⟩,HB⟩
 case rest=>
  clear BKm HB SY;obtain⟨rfl,BKm,SY,HB⟩:=hcut;have hb0:tN ((⟨#[]⟩:af)++firstT az aA aC bI) (fM.take 0)=(⟨#[]⟩:af)++firstT az aA aC bI:=by rw[List.take_zero];rfl
  rw[<- hb0] at SY;clear hb0;have _:=Pd BKm;go_wp2;go_loopg [31] fM.length (fun kq v31 w'=>∃ n:Nat,v31 = .int .i64 (n:Int)/\ae (n+kq=fM.length)/\ae (w'.heap[gm]? = some (.cells #[.string az,.string aA,.int .i64 aC,.string bI,.bool aG,.slice wT fM.length wU,.string aZ] 31 (0,0)))/\ae (BU w' gb (tN ((⟨#[]⟩:af)++firstT az aA aC bI) (fM.take n)))/\ae (Below w.heap.size w w'))
  case atStart=>exact⟨0,rfl,⟨by omega⟩,BKm,SY,HB⟩
  case round=>
   clear BKm SY HB;obtain⟨n,rfl,HN,BKm,SY,HB⟩:=hrel;have _:=Pd BKm;cases gk with
   |zero=>
    have hlt:decide ((n:Int)<(fM.length:Int))=false:=aT (by have:=HN.out;omega);have hltN:decide (n<fM.length)=false:=aT (by have:=HN.out;omega);have hn:fM.take n=fM:=List.take_of_length_le (by have:=HN.out;omega);rw[hn] at SY;have lz:=Mi fM ((⟨#[]⟩:af)++firstT az aA aC bI) HF.out.2.2.2.2.2.2;have fz:=Sc az aA aC bI HF.out.1 HF.out.2.1 HF.out.2.2.1 HF.out.2.2.2.1;have n1:=HF.out.2.2.2.2.2.1;have y6:=HF.out.2.2.2.2.1;rw[fe] at lz;obtain⟨tt,ati⟩:∃ tt,tN ((⟨#[]⟩:af)++firstT az aA aC bI) fM=tt:=⟨_,rfl⟩;rw[ati] at SY lz;have htt:=ae.mk ati;have hzt:ae (tt.size<=400000000):=⟨by have e0:(⟨#[]⟩:af).size=0:=rfl;omega⟩;have hi:ae ((iQ (aZ.size:Int)).size<=21):=⟨zG _ aa aa⟩;have hA9:ae (iw.f (aZ.size:Int)=some (iQ (aZ.size:Int))):=⟨if_pos ⟨by omega,by omega⟩⟩
    have hql:ae (tt.size+(((⟨#[67,111,110,116,101,110,116,45,76,101,110,103,116,104,58,32]⟩:af)++iQ (aZ.size:Int))++(⟨#[13,10]⟩:af)).size<=140737488355328):=⟨by
     simp only[fe];show tt.size+(16+(iQ (aZ.size:Int)).size+2)<=140737488355328
     have:=hzt.out;have:=hi.out
     omega⟩
    have q1:(9223372036854775807<16+(iQ (aZ.size:Int)).size)=False:=eq_false (by have:=hi.out;omega);have q2:(9223372036854775807<16+(iQ (aZ.size:Int)).size+2)=False:=eq_false (by have:=hi.out;omega);clear hn lz fz n1 y6 ati;by_cases e0:az.toList=([]:aM)
    ·have hne:az.toList.isEmpty=true:=List.isEmpty_iff.mpr e0;have E0:=ae.mk e0;clear e0;cases aG with
     |true=>
      have hh:ae (Az az aA aC bI true fM aZ=tt++(⟨#[13,10]⟩:af)):=⟨by unfold Az;rw[htt.out];simp only;rw[if_neg (show ¬ oW _ _ _=true from(by unfold oW;rw[if_pos E0.out];decide))]⟩;have q5:(9223372036854775807<tt.size+2)=False:=eq_false (by have:=hzt.out;omega);exact iq.e0
     |false=>
      have hh:ae (Az az aA aC bI false fM aZ=(tt++(((⟨#[67,111,110,116,101,110,116,45,76,101,110,103,116,104,58,32]⟩:af)++iQ (aZ.size:Int))++(⟨#[13,10]⟩:af)))++(⟨#[13,10]⟩:af)):=⟨by unfold Az;rw[htt.out];simp only;rw[if_pos (show oW _ _ _=true from(by unfold oW;rw[if_pos E0.out];rfl))];rfl⟩;have q5:(9223372036854775807<tt.size+(16+(iQ (aZ.size:Int)).size+2)+2)=False:=eq_false (by have:=hzt.out;have:=hi.out;omega);exact iq.e0
    ·have hne:az.toList.isEmpty=false:=Bool.eq_false_iff.mpr (fun h_=>e0 (List.isEmpty_iff.mp h_));have E0:=ae.mk e0;clear e0;by_cases e6:aZ.toList=([]:aM)
     ·have hn6:aZ.toList.isEmpty=true:=List.isEmpty_iff.mpr e6;have E6:=ae.mk e6;clear e6;have hh:ae (Az az aA aC bI aG fM aZ=tt++(⟨#[13,10]⟩:af)):=⟨by unfold Az;rw[htt.out];simp only;rw[if_neg (show ¬ oW _ _ _=true from(by unfold oW;rw[if_neg E0.out,E6.out];decide))]⟩;have q5:(9223372036854775807<tt.size+2)=False:=eq_false (by have:=hzt.out;omega);exact iq.e0
     ·have hn6:aZ.toList.isEmpty=false:=Bool.eq_false_iff.mpr (fun h_=>e6 (List.isEmpty_iff.mp h_));have E6:=ae.mk e6;clear e6;have hh:ae (Az az aA aC bI aG fM aZ=(tt++(((⟨#[67,111,110,116,101,110,116,45,76,101,110,103,116,104,58,32]⟩:af)++iQ (aZ.size:Int))++(⟨#[13,10]⟩:af)))++(⟨#[13,10]⟩:af)):=⟨by unfold Az;rw[htt.out];simp only;rw[if_pos (show oW _ _ _=true from(by unfold oW;rw[if_neg E0.out];exact bne_iff_ne.mpr E6.out))];rfl⟩;have q5:(9223372036854775807<tt.size+(16+(iQ (aZ.size:Int)).size+2)+2)=False:=eq_false (by have:=hzt.out;have:=hi.out;omega);exact iq.e0
   |succ k1=>
    have hn:n<fM.length:=by have:=HN.out;omega
    have hlt:decide ((n:Int)<(fM.length:Int))=true:=aQ aa;have ll:=abo fM ((⟨#[]⟩:af)++firstT az aA aC bI) n hn;have lz:=Mi (fM.take n) ((⟨#[]⟩:af)++firstT az aA aC bI) (fun f hf=>HF.out.2.2.2.2.2.2 f (List.mem_of_mem_take hf));have fz:=Sc az aA aC bI HF.out.1 HF.out.2.1 HF.out.2.2.1 HF.out.2.2.2.1;have mem:bF fM (n:Int)∈fM:=by
     have e:bF fM (n:Int)=fM[n]:=by
      unfold bF;rw[Int.toNat_natCast,List.getD_eq_getElem?_getD,List.getElem?_eq_getElem hn];rfl
     rw[e];exact List.getElem_mem hn
    have gz:=HF.out.2.2.2.2.2.2 _ mem;have gl:=Vw _ gz.1 gz.2;have n1:=HF.out.2.2.2.2.2.1;rw[fe,List.length_take] at lz
    have hql:ae ((tN ((⟨#[]⟩:af)++firstT az aA aC bI) (fM.take n)).size+(((((bF fM (n:Int)).f0++(⟨#[58,32]⟩:af))++(bF fM (n:Int)).f1))++(⟨#[13,10]⟩:af)).size<=140737488355328):=⟨by
     show _+(Ay (bF fM (n:Int))).size<=_
     have e0:(⟨#[]⟩:af).size=0:=rfl
     omega⟩
    have q1:(9223372036854775807<(bF fM (n:Int)).f0.size+2+(bF fM (n:Int)).f1.size+2)=False:=eq_false aa;have q2:(9223372036854775807<((((bF fM (n:Int)).f0++(⟨#[58,32]⟩:af))++(bF fM (n:Int)).f1)).size+2)=False:=eq_false (by simp only[fe];show ¬ (9223372036854775807<(bF fM (n:Int)).f0.size+2+(bF fM (n:Int)).f1.size+2);omega)
    have A6:ae (qO.f (bF fM (n:Int)).f0 (bF fM (n:Int)).f1=some ((((bF fM (n:Int)).f0++(⟨#[58,32]⟩:af))++(bF fM (n:Int)).f1))):=⟨by
     unfold qO.f
     rw[if_pos aa,if_pos (by rw[fe];show(bF fM (n:Int)).f0.size+2+(bF fM (n:Int)).f1.size<=_;omega)]⟩
    have LL:=ae.mk ll;have hw:ae (wrap64 ((n:Int)+1)=((n+1:Nat):Int)):=⟨by have:=HN.out;unfold wrap64;omega⟩;clear ll lz fz mem gz gl n1;have atj:0<=(n:Int):=by omega
    have atl:(n:Int)<(fM.length:Int):=by omega
    obtain⟨aGN,aCg,Tj,Tk⟩:=D5 GL.out (n:Int) atj atl;cases aCg
    replace Tj:=(HB.out.cell (World.block_lt_of_cell? w _ Tj)).trans Tj;replace Tk:=(HB.out.cell (World.block_lt_of_cell? w _ Tk)).trans Tk;simp only[Int.toNat_natCast] at Tj Tk;replace atj:=eq_true atj;replace atl:=eq_true atl;clear hn;go_wp2_with(first|((with_reducible refine vJ 5 rfl ?_);refine qo #[.string (⟨#[]⟩:af),.string (⟨#[]⟩:af)] 72 ?_;intro gf hg agp hbox hb;have BKf:=ae.mk (hbox);have LTf:=O9 (g:=gm) hg;replace BKm:=jr (g:=gm) hb;have HBf:=ae.mk hb;have GEr:=ae.mk (Nat.le_of_eq hg.symm);have GEf:=rE hg;replace HB:=iC hb;clear hb hbox hg;have _:=SF BKf;have _:=ali BKf)|((with_reducible refine lS 112 rfl ?_);refine wC (some 36) rfl rfl Tryz.func112 eB rfl #[.agg #[.string (bF fM (n:Int)).f0,.string (bF fM (n:Int)).f1]] rfl QG ?_;(with_reducible refine(qO.calls (bF fM (n:Int)).f0 (bF fM (n:Int)).f1 (((bF fM (n:Int)).f0++(⟨#[58,32]⟩:af))++(bF fM (n:Int)).f1) _ A6.out).mono ?_);rintro e SS ⟨rfl,hb⟩;refine⟨_,rfl,?_⟩;replace BKm:=jr (g:=gm) hb;replace HBf:=ae.mk (Cs (by repeat(first|exact HBf.out|refine kH ?_ GEr.out)) hb);replace HB:=iC hb;clear hb)|((with_reducible refine lS 110 rfl ?_);refine wC (some 38) rfl rfl Tryz.func110 eB rfl #[.pointer (some ⟨gb,0,none⟩),.string ((((bF fM (n:Int)).f0++(⟨#[58,32]⟩:af))++(bF fM (n:Int)).f1)++(⟨#[13,10]⟩:af))] rfl QG ?_;refine(P5 ((((bF fM (n:Int)).f0++(⟨#[58,32]⟩:af))++(bF fM (n:Int)).f1)++(⟨#[13,10]⟩:af)) (PZ SY HBf.out) hql.out).mono ?_;rintro e alq ⟨rfl,hu,hb⟩;refine⟨_,rfl,?_⟩;replace BKm:=Ti BKm LM hb;replace HB:=P7 HB GEb hb;have BU1:=hu;clear hu hb));go_roundg k1
    case measure=>omega
    case rel=>exact⟨n+1,by first|rfl|(rw[hw.out]),⟨by have:=HN.out;omega⟩,BKm,⟨by rw[LL.out];exact BU1.out⟩,HB⟩
@[reducible,instance] def iq.c:=jM.of 0 Tryz.func73 @iq.calls

def rY.f (k:Nat) (a0:ByteArray):Option (Bool):=(pz.f k a0).bind fun aCh=>(if aCh=true then(some (decide ((a0.size:Int)<=20))) else(some false))
theorem rY.calls (k:Nat) (a0:ByteArray) (r:Bool) (w:World) (h:rY.f k a0=some r) :
  Calls Tryz.prog 68 #[.string a0] w fun e w'=>e = .returned (.bool r)/\bL w w':=by
 unfold rY.f at h;exact uA
@[reducible,instance] def rY.c:=jM.of 0 Tryz.func68 @rY.calls


def rZ.f (k:Nat) (a0:ByteArray):Option (Bool):=(dB.f (a0.size:Int) 1 200).bind fun aCi=>(if aCi=true then((bE.f k a0).bind fun aCj=>(some aCj)) else(some false))
theorem rZ.calls (k:Nat) (a0:ByteArray) (r:Bool) (w:World) (h:rZ.f k a0=some r) :
  Calls Tryz.prog 69 #[.string a0] w fun e w'=>e = .returned (.bool r)/\bL w w':=by
 unfold rZ.f at h;exact uA
@[reducible,instance] def rZ.c:=jM.of 0 Tryz.func69 @rZ.calls


mutual
def dA.j0 : Nat->Bool->ByteArray->ByteArray->Int->ByteArray->Bool->List (j6)->ByteArray->Option (Bool)
 |0,_,_,_,_,_,_,_,_=>none
 |k+1,x20,EL,EM,BL,EN,EO,G5,G6=>if x20=true then(some false) else((uh.f).bind fun abp=>(dA.l0 k abp (abp.length:Int) 0 EL EM BL EN EO G5 G6))
def dA.l0 : Nat->List ByteArray->Int->Int->ByteArray->ByteArray->Int->ByteArray->Bool->List (j6)->ByteArray->Option (Bool)
 |0,_,_,_,_,_,_,_,_,_,_=>none
 |k+1,x21,x22,x23,EL,EM,BL,EN,EO,G5,G6=>if x23<x22 then(if 0<=x23 then(if x23<(x21.length:Int) then((kR.f k G5 (ed ByteArray.empty x21 x23)).bind fun aCk=>(if aCk=true then(some false) else(dA.l0 k x21 x22 (wrap64 (x23+1)) EL EM BL EN EO G5 G6))) else(none)) else(none)) else(if EL.toList=([]:aM) then(if EM.toList=([]:aM) then((rW.f BL).bind fun aCl=>(if aCl=true then((rX.f k EN).bind fun TZ=>(if TZ=true then(if EO=true then(if G6.toList=([]:aM) then((kL.f BL).bind fun aCm=>(if aCm=true then((iq.f EL EM BL EN EO G5 G6).bind fun aCn=>(some (decide ((aCn.size:Int)<=1500)))) else((iq.f EL EM BL EN EO G5 G6).bind fun aCo=>(some (decide ((aCo.size:Int)<=1500)))))) else(some false)) else((kL.f BL).bind fun aCp=>(if aCp=true then(some false) else((iq.f EL EM BL EN EO G5 G6).bind fun aCq=>(some (decide ((aCq.size:Int)<=1500))))))) else(some false))) else(some false))) else(some false)) else((rY.f k EL).bind fun aCr=>(if aCr=true then((rZ.f k EM).bind fun aCs=>(if aCs=true then(if BL=0 then(if EN.toList=([]:aM) then(if EO=true then(some false) else((iq.f EL EM BL EN EO G5 G6).bind fun aCt=>(some (decide ((aCt.size:Int)<=1500))))) else(some false)) else(some false)) else(some false))) else(some false))))
end
def dA.f (k:Nat) (az:ByteArray) (aA:ByteArray) (aC:Int) (bI:ByteArray) (aG:Bool) (fM:List (j6)) (aZ:ByteArray):Option (Bool):=(fB.f k fM).bind fun aCu=>(if aCu=true then(if(fM.length:Int)>=20 then(dA.j0 k true az aA aC bI aG fM aZ) else(dA.j0 k (decide ((aZ.size:Int)>600)) az aA aC bI aG fM aZ)) else(dA.j0 k true az aA aC bI aG fM aZ))
theorem dA.calls (k:Nat) (az aA:ByteArray) (aC:Int) (bI:ByteArray) (aG:Bool) (wT:Option Addr) (wU:Nat) (fM:List (j6)) (aZ:ByteArray) (r:Bool) (w:World) (wo:Kd.C tZ w wT fM.length fM) (wu:fM.length<=wU) (h:dA.f k az aA aC bI aG fM aZ=some r) (HT0:nN w) :
  Calls Tryz.prog 39 #[.agg #[.string az,.string aA,.int .i64 aC,.string bI,.bool aG,.slice wT fM.length wU,.string aZ]] w fun e w'=>e = .returned (.bool r)/\Below w.heap.size w w':=by
 have HT:=ae.mk HT0;clear HT0;have WV:=Tryz.underlying31;have RQ:=ae.mk wo;have RS:=ae.mk wu;clear wo wu;have HB:=ae.mk (Below.refl w.heap.size w);have H:=h;clear h;unfold dA.f at H;have vv:=ae.mk H;clear H;go_enter Tryz.func39,Tryz.ntmps39;go_upto_region 1 with(first|((with_reducible refine vJ 1 rfl ?_);refine Iz #[.string az,.string aA,.int .i64 aC,.string bI,.bool aG,.slice wT fM.length wU,.string aZ] 31 ?_;intro aji hg w3 hbox hb;have Ba:=ae.mk (hbox);have aGO:=rE hg;replace HB:=iC hb;clear hb hbox hg));(try simp only[Act.put,List.setIfInBounds_toArray,List.set_cons_zero,List.set_cons_succ])
 go_cut [20] (fun v20 wc=>∃(kq:Nat) (ajj:Bool),v20 = .bool ajj/\ae (dA.j0 kq ajj az aA aC bI aG fM aZ=some r)/\ae (kq<=k)/\ae (wc.heap[aji]? = some (.cells #[.string az,.string aA,.int .i64 aC,.string bI,.bool aG,(.slice wT fM.length wU),.string aZ] 31 (0,0)))/\ae (Below w.heap.size w wc))
 case first=>
  have H:=vv;clear vv;exact uW
 case rest=>
  clear vv;obtain⟨kq,ajj,rfl,HA,Ch,Ba,HB⟩:=hcut;cases kq with
  |zero=>exact absurd HA.out (by simp[dA.j0])
  |succ vC=>
   have H:=HA.out;clear HA;simp only[dA.j0] at H;replace H:=gB H;rcases H with⟨rfl,H⟩|⟨rfl,H⟩
   ·replace H:=ae.mk H;exact uW
   ·replace H:=gD H;obtain⟨abp,A16,H⟩:=H;replace H:=ae.mk H;go_wp2_with(first|((with_reducible refine lS 67 rfl ?_);refine WK 21 rfl Tryz.func67 (uh.calls  abp _ A16.out) ?_;rintro e w17 ⟨aI4,rfl,ho0,hb⟩;refine⟨_,rfl,?_⟩;have Ra:=ae.mk (Kd.gZ ho0 (bq dL));replace Ba:=jr (g:=aji) hb;replace HB:=iC hb;clear hb;(try clear ho0);obtain⟨asH,asI,asJ⟩:=Kd.dE Ra.out;subst asJ));go_loopg [23] vC (fun kq v23 w'=>∃(Vx:Int),v23 = .int .i64 Vx/\ae (dA.l0 kq abp (abp.length:Int) Vx az aA aC bI aG fM aZ=some r)/\ae (kq<=vC)/\ae (Kd.R Kd.string 9 w' w.heap.size (fun _=>True) (.slice asH abp.length asI) abp)/\ae (w'.heap[aji]? = some (.cells #[.string az,.string aA,.int .i64 aC,.string bI,.bool aG,(.slice wT fM.length wU),.string aZ] 31 (0,0)))/\ae (Below w.heap.size w w'))
    case atStart=>exact⟨(0),kD,H,⟨Nat.le_refl _⟩,⟨wh⟩,⟨yz⟩,⟨dL⟩⟩
    case round=>
     clear H;obtain⟨Vx,rfl,HA,Cv,Rb,Ba,HB⟩:=hrel;cases gk with
     |zero=>exact absurd HA.out (by simp[dA.l0])
     |succ k2=>
      have H:=HA;clear HA;simp only[dA.l0] at H;exact uW
@[reducible,instance] def dA.c:=jM.of 0 Tryz.func39 @dA.calls


def nY.f (a0:ByteArray):Option (ByteArray×Int×ByteArray×ByteArray×Bool):=(strings_Cut.f a0 (⟨#[63]⟩:af)).bind fun ajk=>(some ((⟨#[]⟩:af),0,ajk.1,ajk.2.1,ajk.2.2))
theorem nY.calls (a0 r1:ByteArray) (r2:Int) (r3 r4:ByteArray) (r5:Bool) (w:World) (h:nY.f a0=some (r1,r2,r3,r4,r5)) (HT0:nN w) :
  Calls Tryz.prog 150 #[.string a0] w fun e w'=>e = .returned (.agg #[.string r1,.int .i64 r2,.string r3,.string r4,.bool r5])/\Below w.heap.size w w':=by
 have HT:=ae.mk HT0;clear HT0;have Ro:=Tryz.underlying92;unfold nY.f at h;exact uA
@[reducible,instance] def nY.c:=jM.of 0 Tryz.func150 @nY.calls

def nR.f (a0:Int):Option (Bool):=(qE.f a0).bind fun aCv=>(if aCv=true then(some true) else((pF.f a0).bind fun aCw=>(if aCw=true then(some true) else((gF.f a0).bind fun aCx=>(if aCx=true then(some true) else(if a0=45 then(some true) else(if a0=46 then(some true) else(if a0=95 then(some true) else(some (a0==126))))))))))
theorem nR.calls (a0:Int) (r:Bool) (w:World) (h:nR.f a0=some r) :
  Calls Tryz.prog 220 #[.int .u8 a0] w fun e w'=>e = .returned (.bool r)/\bL w w':=by
 unfold nR.f at h;exact uA
@[reducible,instance] def nR.c:=jM.of 0 Tryz.func220 @nR.calls

end Go.Proofs.YtfhllanhldbkkaaGreatDoor.P
