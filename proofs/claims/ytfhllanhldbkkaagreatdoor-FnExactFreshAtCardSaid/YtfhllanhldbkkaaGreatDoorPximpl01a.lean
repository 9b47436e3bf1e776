import Derived.Lib.AtoiAll
import Derived.Lib.AtoiErrMem
import Derived.Test.YtfhllanhldbkkaaGreatDoorPxliba
set_option maxHeartbeats 8000000
set_option maxRecDepth 100000
namespace Go.Proofs.YtfhllanhldbkkaaGreatDoor.P
open Go.RowKit Go.Proofs.YtfhllanhldbkkaaGreatDoorW.aW Go.Proofs.YtfhllanhldbkkaaGreatDoorW.eQ Go.Proofs.YtfhllanhldbkkaaGreatDoorW.fO
attribute [local go_sem] kV kW mE mF jP jQ kX kY dZ E8 E9 Fa Fb oU oV
set_option linter.unusedVariables false
set_option linter.unusedSimpArgs false

def pF.f (a0:Int):Option (Bool):=if a0>=65 then(some (decide (a0<=90))) else(some false)
theorem pF.calls (a0:Int) (r:Bool) (w:World) (h:pF.f a0=some r) :
  Calls Tryz.prog 130 #[.int .u8 a0] w fun e w'=>e = .returned (.bool r)/\bL w w':=by
 unfold pF.f at h;exact uA
@[reducible,instance] def pF.c:=jM.of 0 Tryz.func130 @pF.calls

theorem aaU (c:Int):pF.f c=some (decide (65<=c/\c<=90)):=by
 unfold pF.f
 by_cases h:c>=65
 ·rw[if_pos h];congr 1;simp[h]
 ·rw[if_neg h];congr 1;simp;omega
def jw.f (a0:ByteArray):Option (ByteArray):=if a0.size<=9223372036854775807 then some (ig a0) else none
theorem jw.calls (a0 r:ByteArray) (w:World) (h:jw.f a0=some r) :
  Calls Tryz.prog 89 #[.string a0] w fun e w'=>e = .returned (.string r)/\Below w.heap.size w w':=by
 unfold jw.f at h;by_cases hs:a0.size<=9223372036854775807
 case neg=>rw[if_neg hs] at h;cases h
 rw[if_pos hs] at h;obtain rfl:=gK h;clear h;have kb:=fun W=>RD (P:=Tryz.prog) 9 100 5 Tryz.underlying9 Tryz.underlying100 Tryz.underlying5 a0 W;have aaV:DY (Lib.bytesWorld w 5 a0) w.heap.size 5 (Cg a0 0):=by rw[Tz];exact DY.new w 5 a0
 have hbel0:Below w.heap.size w (Lib.bytesWorld w 5 a0):=RF (Below.refl _ _) (Nat.le_refl _) 5 a0;go_enter Tryz.func89,Tryz.ntmps89;go_wp2;clear kb;go_loopw [10] (fun i wr=>∃ k:Nat,k<=a0.size/\i = .int .i64 k/\DY wr w.heap.size 5 (Cg a0 k)/\Below w.heap.size w wr) (fun i _=>a0.size-(intOf i).toNat)
 case atStart=>exact⟨0,Nat.zero_le _,rfl,aaV,hbel0⟩
 case round=>
  obtain⟨k,hk,rfl,hrow,hbel⟩:=hrel;clear aaV hbel0;by_cases hlt:k<a0.size
  ·have hcell:=hrow.cell k (by rw[rC];exact hlt);rw[TA a0 k hlt] at hcell;have hfree:=hrow.free k (by rw[rC];exact hlt);have hr:=eT a0 (k:Int);have hl:=aaU (bt a0 k);have Hrow:=ae.mk hrow;have Hbel:=ae.mk hbel;clear hrow hbel;by_cases hup:65<=bt a0 (k:Int)/\bt a0 (k:Int)<=90
   ·rw[aQ hup] at hl;go_wp2_with(go_at_call 130;refine(pF.calls _ _ _ hl).mono ?_;rintro e w' ⟨rfl,⟨nd,rfl⟩⟩);have hlow:low (bt a0 (k:Int))=bt a0 (k:Int)+32:=by unfold low;rw[if_pos hup]
    exact⟨⟨k+1,by omega,by go_num,by rw[<- NG a0 k hlt,hlow];exact(Hrow.out.drewN nd).set k (by rw[rC];exact hlt) _,(EB Hbel.out nd).setCell (Nat.le_refl _) _⟩,by simp[intOf];omega⟩
   ·rw[aT hup] at hl;go_wp2_with(go_at_call 130;refine(pF.calls _ _ _ hl).mono ?_;rintro e w' ⟨rfl,⟨nd,rfl⟩⟩);have hlow:low (bt a0 (k:Int))=bt a0 (k:Int):=by unfold low;rw[if_neg hup]
    exact⟨⟨k+1,by omega,by go_num,by rw[<- acN a0 k hlt hlow];exact Hrow.out.drewN nd,EB Hbel.out nd⟩,by simp[intOf];omega⟩
  ·obtain rfl:k=a0.size:=by omega
   have kc:=fun c=>DY.str (P:=Tryz.prog) (src:=100) (dst:=9) hrow Tryz.underlying100 Tryz.underlying5 Tryz.underlying9 a0.size c (rC a0 _);rw[Xb] at kc;have Hbel:=ae.mk hbel;clear hrow hbel;go_wp2;go_ret;exact⟨rfl,Hbel.out⟩
@[reducible,instance] def jw.c:=jM.of 0 Tryz.func89 @jw.calls

def dB.f (a0:Int) (a1:Int) (a2:Int):Option (Bool):=if a1<=a0 then(some (decide (a0<=a2))) else(some false)
theorem dB.calls (a0 a1 a2:Int) (r:Bool) (w:World) (h:dB.f a0 a1 a2=some r) :
  Calls Tryz.prog 65 #[.int .i64 a0,.int .i64 a1,.int .i64 a2] w fun e w'=>e = .returned (.bool r)/\bL w w':=by
 unfold dB.f at h;exact uA
@[reducible,instance] def dB.c:=jM.of 0 Tryz.func65 @dB.calls

def uL.f (a0:Int):Option (ByteArray):=(dB.f a0 0 999999999999999).bind fun aBc=>(if aBc=true then((iw.f a0).bind fun aBd=>(some aBd)) else(some (⟨#[]⟩:af)))
theorem uL.calls (a0:Int) (r:ByteArray) (w:World) (h:uL.f a0=some r) (HT0:nN w) :
  Calls Tryz.prog 193 #[.int .i64 a0] w fun e w'=>e = .returned (.string r)/\Below w.heap.size w w':=by
 have HT:=ae.mk HT0;clear HT0;unfold uL.f at h;exact uA
@[reducible,instance] def uL.c:=jM.of 0 Tryz.func193 @uL.calls

-- IMPORT Shelf Derived.Lib.AtoiAll Derived.Lib.AtoiErrMem
def nX (s:ByteArray):Int×Bool:=match Lib.atoiAll s.data.toList with
 |.ok v=>if 0<=v/\v<=999999999999999/\(iQ v).toList=s.toList then(v,true) else(0,false)
 |_=>(0,false)
def nA.f (a0:ByteArray):Option (Int×Bool):=if a0.size<=281474976710656 then some (nX a0) else none
theorem WW (a0:ByteArray) (hs:a0.size<=281474976710656) (v:Int) (h:Lib.atoiAll a0.data.toList = .ok v) (w:World) :
  Calls Tryz.prog 192 #[.string a0] w fun e w'=>e = .returned (.tuple #[.int .i64 v,.nilIface])/\Below w.heap.size w w':=by
 refine(Tryz.strconv_Atoi_ok a0 aa v h w).mono ?_
 rintro e w' ⟨rfl,rfl|⟨t,rfl⟩⟩
 ·exact⟨rfl,Below.refl _ _⟩
 ·exact⟨rfl,Lib.bytesWorld_below w _ t⟩
theorem Va (a0:ByteArray) (hs:a0.size<=281474976710656) (h:∀ v,Lib.atoiAll a0.data.toList≠.ok v) (w:World) (HT0:nN w) :
  Calls Tryz.prog 192 #[.string a0] w fun e w'=>∃ n T N,e = .returned (.tuple #[.int .i64 n,.iface T (.pointer (some ⟨N,0,none⟩))])/\Below w.heap.size w w':=by
 obtain⟨_,_,⟨t1,p1,h1⟩,t2,p2,h2⟩:=HT0
 rcases hA:Lib.atoiAll a0.data.toList with v|_|_
 ·exact absurd hA (h v)
 ·refine(Tryz.strconv_Atoi_syntax a0 hs ⟨h,fun e=>by rw[hA] at e;cases e⟩ _ w h1 (.inr ⟨t1,p1,rfl⟩)).mono ?_
  rintro e w' ⟨N,rfl,_,_,hb⟩
  exact⟨_,_,N,rfl,hb⟩
 ·refine(Tryz.strconv_Atoi_range a0 hs hA _ w h2 (.inr ⟨t2,p2,rfl⟩)).mono ?_
  rintro e w' ⟨N,rfl,_,_,hb⟩
  exact⟨_,_,N,rfl,hb⟩
theorem nA.e0 {p:Prop} (h:p:=by
  go_enter Tryz.func151,Tryz.ntmps151
  go_wp2_with(first|(with_reducible refine lS 192 rfl ?_);refine wC (some 8) rfl rfl Tryz.func192 eB rfl #[.string a0] rfl QG ?_;refine(Va a0 HS.out HBAD.out _ (kG HT)).mono ?_;rintro e tT ⟨n,T,N,rfl,hb⟩;refine⟨_,rfl,?_⟩;replace HB:=iC hb;clear hb|((with_reducible refine lS 192 rfl ?_);refine wC (some 8) rfl rfl Tryz.func192 eB rfl #[.string a0] rfl QG ?_;refine(WW a0 HS.out v HV.out _).mono ?_;rintro e mo ⟨rfl,hb⟩;refine⟨_,rfl,?_⟩;replace HB:=iC hb;clear hb)|(go_at_call 65;(with_reducible refine(dB.calls v 0 999999999999999 false _ A3.out).mono ?_);rintro e w' ⟨rfl,⟨nd,rfl⟩⟩)|(go_at_call 65;(with_reducible refine(dB.calls v 0 999999999999999 true _ A3.out).mono ?_);rintro e w' ⟨rfl,⟨nd,rfl⟩⟩)|(go_at_call 193;(with_reducible refine(uL.calls v (iQ v) _ A5.out (kG HT)).mono ?_);rintro e mV ⟨rfl,hb⟩;replace HB:=iC hb;clear hb))
  go_ret2
  exact⟨rfl,az4⟩):p:=h
theorem nA.calls (a0:ByteArray) (r1:Int) (r2:Bool) (w:World) (h:nA.f a0=some (r1,r2)) (HT0:nN w) :
  Calls Tryz.prog 151 #[.string a0] w fun e w'=>e = .returned (.tuple #[.int .i64 r1,.bool r2])/\Below w.heap.size w w':=by
 unfold nA.f at h;by_cases hs:a0.size<=281474976710656
 case neg=>rw[if_neg hs] at h;cases h
 rw[if_pos hs] at h;have HS:=ae.mk hs;clear hs;have huE:=Tryz.underlying104;have HB:=ae.mk (Below.refl w.heap.size w);have HT:=ae.mk HT0;clear HT0;by_cases hok:∃ v,Lib.atoiAll a0.data.toList = .ok v
 ·obtain⟨v,hv⟩:=hok;have HV:=ae.mk hv;by_cases hr:0<=v/\v<=999999999999999
  ·have A3:ae (dB.f v 0 999999999999999=some true):=⟨by unfold dB.f;rw[if_pos hr.1,aQ hr.2]⟩;have A5:ae (uL.f v=some (iQ v)):=⟨by unfold uL.f;rw[A3.out,aj,if_pos rfl];unfold iw.f;rw[if_pos ⟨by omega,by omega⟩];rfl⟩;by_cases he:(iQ v).toList=a0.toList
   ·have hd:nX a0=(v,true):=by unfold nX;rw[hv];exact if_pos ⟨hr.1,hr.2,he⟩
    rw[hd] at h;obtain⟨h1,h2⟩:=Prod.mk.inj (gK h);subst h1;subst h2;clear h;have xV:((iQ v).toList==a0.toList)=true:=beq_iff_eq.mpr he;have M8:((iQ v).toList != a0.toList)=false:=bne_eq_false_iff_eq.mpr he;clear he hr hv hd;exact nA.e0
   ·have hd:nX a0=(0,false):=by unfold nX;rw[hv];exact if_neg (fun x=>he x.2.2)
    rw[hd] at h;obtain⟨h1,h2⟩:=Prod.mk.inj (gK h);subst h1;subst h2;clear h;have xV:((iQ v).toList==a0.toList)=false:=beq_eq_false_iff_ne.mpr he;have M8:((iQ v).toList != a0.toList)=true:=bne_iff_ne.mpr he;clear he hr hv hd;exact nA.e0
  ·have A3:ae (dB.f v 0 999999999999999=some false):=⟨by
    unfold dB.f;by_cases h0:0<=v
    ·rw[if_pos h0,aT (fun x=>hr ⟨h0,x⟩)]
    ·rw[if_neg h0]⟩
   have hd:nX a0=(0,false):=by unfold nX;rw[hv];exact if_neg (fun x=>hr ⟨x.1,x.2.1⟩)
   rw[hd] at h;obtain⟨h1,h2⟩:=Prod.mk.inj (gK h);subst h1;subst h2;clear h;clear hr hv hd;exact nA.e0
 ·have hbad:∀ v,Lib.atoiAll a0.data.toList≠.ok v:=fun v e=>hok ⟨v,e⟩;have hd:nX a0=(0,false):=by
   unfold nX;rcases hA:Lib.atoiAll a0.data.toList with v|_|_
   ·exact absurd hA (hbad v)
   ·rfl
   ·rfl
  rw[hd] at h;cases h
  have HBAD:=ae.mk hbad;clear hbad hd hok;exact nA.e0
@[reducible,instance] def nA.c:=jM.of 0 Tryz.func151 @nA.calls

def gF.f (a0:Int):Option (Bool):=if a0>=48 then(some (decide (a0<=57))) else(some false)
theorem gF.calls (a0:Int) (r:Bool) (w:World) (h:gF.f a0=some r) :
  Calls Tryz.prog 166 #[.int .u8 a0] w fun e w'=>e = .returned (.bool r)/\bL w w':=by
 unfold gF.f at h;exact uA
@[reducible,instance] def gF.c:=jM.of 0 Tryz.func166 @gF.calls


def eH.j0 : Nat->Int->Bool->Option (Int)
 |0,_,_=>none
 |k+1,x0,x9=>if x9=true then(some (((x0-97)%256)+10)) else(if x0>=65 then(if x0<=70 then(some (((x0-65)%256)+10)) else(some (-1))) else(some (-1)))
def eH.f (k:Nat) (a0:Int):Option (Int):=(gF.f a0).bind fun aBe=>(if aBe=true then(some ((a0-48)%256)) else(if a0>=97 then(eH.j0 k a0 (decide (a0<=102))) else(eH.j0 k a0 false)))
theorem eH.Vb : ∀ k,(∀ y0 y1,MR (eH.j0 k y0 y1) (eH.j0 (k+1) y0 y1))
 |0=>fun _ _ r h=>by simp[eH.j0] at h
 |k+1=>by
  have ih0:=eH.Vb k
  ·intro y0 y1
   unfold eH.j0
   exact uO
theorem eH.mono : ∀ a0 k,MR (eH.f k a0) (eH.f (k+1) a0):=by
 intro a0 k
 have ih0:=eH.Vb k
 unfold eH.f
 exact uO
theorem eH.calls (k:Nat) (a0 r:Int) (w:World) (h:eH.f k a0=some r) :
  Calls Tryz.prog 219 #[.int .u8 a0] w fun e w'=>e = .returned (.int .i64 r)/\bL w w':=by
 have H:=ae.mk h;clear h;unfold eH.f at H;rcases D6 H with⟨A2,H⟩|⟨A2,H⟩
 ·exact uE
 ·have HC4:=H;clear H;go_enter Tryz.func219,Tryz.ntmps219;go_upto_region 3 with(first|((with_reducible refine lS 166 rfl ?_);refine MW 5 rfl Tryz.func166 (gF.calls a0 false _ A2.out) fun nd=>?_));(try simp only[Act.put,List.setIfInBounds_toArray,List.set_cons_zero,List.set_cons_succ])
  go_cut [9] (fun v9 wc=>∃(kq:Nat) (as1:Bool),v9 = .bool as1/\ae (eH.j0 kq a0 as1=some r)/\ae (kq<=k)/\bL w wc)
  case first=>
   have H:=HC4;clear HC4;exact uW
  case rest=>
   clear HC4;obtain⟨kq,as1,rfl,HA,HJ3,⟨mc3,rfl⟩⟩:=hcut;cases kq with
   |zero=>exact absurd HA.out (by simp[eH.j0])
   |succ kj3=>
    have H:=HA;clear HA;simp only[eH.j0] at H;exact uW
@[reducible,instance] def eH.c:=jM.of 0 Tryz.func219 @eH.calls

def qE.f (a0:Int):Option (Bool):=if a0>=97 then(some (decide (a0<=122))) else(some false)
theorem qE.calls (a0:Int) (r:Bool) (w:World) (h:qE.f a0=some r) :
  Calls Tryz.prog 199 #[.int .u8 a0] w fun e w'=>e = .returned (.bool r)/\bL w w':=by
 unfold qE.f at h;exact uA
@[reducible,instance] def qE.c:=jM.of 0 Tryz.func199 @qE.calls

def kI.f (a0:Int):Option (Bool):=(qE.f a0).bind fun aBf=>(if aBf=true then(some true) else((pF.f a0).bind fun aBg=>(if aBg=true then(some true) else((gF.f a0).bind fun aBh=>(if aBh=true then(some true) else(if a0=96 then(some true) else((strings_IndexByte.f (⟨#[33,35,36,37,38,39,42,43,45,46,94,95,124,126]⟩:af) a0).bind fun aBi=>(some (decide (aBi>=0))))))))))
theorem kI.calls (a0:Int) (r:Bool) (w:World) (h:kI.f a0=some r) :
  Calls Tryz.prog 156 #[.int .u8 a0] w fun e w'=>e = .returned (.bool r)/\bL w w':=by
 unfold kI.f at h;exact uA
@[reducible,instance] def kI.c:=jM.of 0 Tryz.func156 @kI.calls

def bS.l0 : Nat->ByteArray->Int->Option (Bool)
 |0,_,_=>none
 |k+1,x0,x5=>if x5<(x0.size:Int) then(if 0<=x5 then((kI.f (bt x0 x5)).bind fun aBj=>(if aBj=true then(bS.l0 k x0 (wrap64 (x5+1))) else(some false))) else(none)) else(some true)
def bS.f (k:Nat) (a0:ByteArray)  : Option (Bool):=bS.l0 k a0 0
theorem bS.calls (k:Nat) (a0:ByteArray)  (r:Bool) (w:World) (h:bS.f k a0=some r) :
  Calls Tryz.prog 107 #[.string a0,.func (.func 156) #[] #[]] w fun e w'=>e = .returned (.bool r)/\bL w w':=by
 have H:=ae.mk h;clear h;unfold bS.f at H;go_enter Tryz.func107,Tryz.ntmps107;go_wp2;go_loopg [5] k (fun kq v5 w'=>∃(gH:Int),v5 = .int .i64 gH/\ae (bS.l0 kq a0 gH=some r)/\ae (kq<=k)/\bL w w')
 case atStart=>exact⟨(0),kD,H,⟨Nat.le_refl _⟩,TP⟩
 case round=>
  clear H;obtain⟨gH,rfl,HA,mh,⟨m1,rfl⟩⟩:=hrel;cases gk with
  |zero=>exact absurd HA.out (by simp[bS.l0])
  |succ k1=>
   have H:=HA;clear HA;simp only[bS.l0] at H;exact uW
@[reducible,instance] def bS.c:=jM.of 0 Tryz.func107 @bS.calls


def pz.f (k:Nat) (a0:ByteArray):Option (Bool):=(dB.f (a0.size:Int) 1 4000).bind fun aBk=>(if aBk=true then((bS.f k a0).bind fun aBl=>(some aBl)) else(some false))
theorem pz.calls (k:Nat) (a0:ByteArray) (r:Bool) (w:World) (h:pz.f k a0=some r) :
  Calls Tryz.prog 106 #[.string a0] w fun e w'=>e = .returned (.bool r)/\bL w w':=by
 unfold pz.f at h;exact uA
@[reducible,instance] def pz.c:=jM.of 0 Tryz.func106 @pz.calls

def lD.f (a0:Int):Option (Bool):=if a0=9 then(some true) else(if a0>=32 then(some (a0 != 127)) else(some false))
theorem lD.calls (a0:Int) (r:Bool) (w:World) (h:lD.f a0=some r) :
  Calls Tryz.prog 108 #[.int .u8 a0] w fun e w'=>e = .returned (.bool r)/\bL w w':=by
 unfold lD.f at h;exact uA
@[reducible,instance] def lD.c:=jM.of 0 Tryz.func108 @lD.calls

def bM.l0 : Nat->ByteArray->Int->Option (Bool)
 |0,_,_=>none
 |k+1,x0,x5=>if x5<(x0.size:Int) then(if 0<=x5 then((lD.f (bt x0 x5)).bind fun aBm=>(if aBm=true then(bM.l0 k x0 (wrap64 (x5+1))) else(some false))) else(none)) else(some true)
def bM.f (k:Nat) (a0:ByteArray)  : Option (Bool):=bM.l0 k a0 0
theorem bM.calls (k:Nat) (a0:ByteArray)  (r:Bool) (w:World) (h:bM.f k a0=some r) :
  Calls Tryz.prog 107 #[.string a0,.func (.func 108) #[] #[]] w fun e w'=>e = .returned (.bool r)/\bL w w':=by
 have H:=ae.mk h;clear h;unfold bM.f at H;go_enter Tryz.func107,Tryz.ntmps107;go_wp2;go_loopg [5] k (fun kq v5 w'=>∃(gH:Int),v5 = .int .i64 gH/\ae (bM.l0 kq a0 gH=some r)/\ae (kq<=k)/\bL w w')
 case atStart=>exact⟨(0),kD,H,⟨Nat.le_refl _⟩,TP⟩
 case round=>
  clear H;obtain⟨gH,rfl,HA,mh,⟨m1,rfl⟩⟩:=hrel;cases gk with
  |zero=>exact absurd HA.out (by simp[bM.l0])
  |succ k1=>
   have H:=HA;clear HA;simp only[bM.l0] at H;exact uW
@[reducible,instance] def bM.c:=jM.of 1 Tryz.func107 @bM.calls

def pG.f (a0:Int):Option (Bool):=if a0=32 then(some true) else(some (a0==9))
theorem pG.calls (a0:Int) (r:Bool) (w:World) (h:pG.f a0=some r) :
  Calls Tryz.prog 129 #[.int .u8 a0] w fun e w'=>e = .returned (.bool r)/\bL w w':=by
 unfold pG.f at h;exact uA
@[reducible,instance] def pG.c:=jM.of 0 Tryz.func129 @pG.calls


mutual
def dK.j1 : Nat->ByteArray->Option (ByteArray)
 |0,_=>none
 |k+1,x0=>dK.l1 k x0
def dK.l1 : Nat->ByteArray->Option (ByteArray)
 |0,_=>none
 |k+1,x0=>if x0.toList=([]:aM) then(some x0) else(if 0<=(wrap64 ((x0.size:Int)-1)) then(if(wrap64 ((x0.size:Int)-1))<(x0.size:Int) then((pG.f (bt x0 (wrap64 ((x0.size:Int)-1)))).bind fun aBn=>(if aBn=true then(if(wrap64 ((x0.size:Int)-1))<=(x0.size:Int) then(dK.l1 k (x0.extract 0 ((wrap64 ((x0.size:Int)-1)):Int).toNat)) else(none)) else(some x0))) else(none)) else(none))
def dK.l0 : Nat->ByteArray->Option (ByteArray)
 |0,_=>none
 |k+1,x0=>if x0.toList=([]:aM) then(dK.j1 k x0) else(if 0<(x0.size:Int) then((pG.f (bt x0 0)).bind fun aBo=>(if aBo=true then(if 1<=(x0.size:Int) then(dK.l0 k (x0.extract 1 x0.size)) else(none)) else(dK.j1 k x0))) else(none))
end
def dK.f (k:Nat) (a0:ByteArray):Option (ByteArray):=dK.l0 k a0
theorem dK.calls (k:Nat) (a0 r:ByteArray) (w:World) (h:dK.f k a0=some r) :
  Calls Tryz.prog 87 #[.string a0] w fun e w'=>e = .returned (.string r)/\bL w w':=by
 have H:=ae.mk h;clear h;unfold dK.f at H;have vv:=H;clear H;go_enter Tryz.func87,Tryz.ntmps87;go_upto_block 0 with(fail);go_cut [0] (fun v0 wc=>∃(kq:Nat) (SV:ByteArray),v0 = .string SV/\ae (dK.j1 kq SV=some r)/\ae (kq<=k)/\bL w wc)
 case first=>
  have H:=vv;clear vv;go_wp2;go_loopg [0] k (fun kq v0 w'=>∃(SV:ByteArray),v0 = .string SV/\ae (dK.l0 kq SV=some r)/\ae (kq<=k)/\bL w w')
  case atStart=>exact⟨(a0),kD,H,⟨Nat.le_refl _⟩,TP⟩
  case round=>
   clear H;obtain⟨SV,rfl,HA,mh,⟨m1,rfl⟩⟩:=hrel;cases gk with
   |zero=>exact absurd HA.out (by simp[dK.l0])
   |succ k1=>
    have H:=HA;clear HA;simp only[dK.l0] at H;exact uW
 case rest=>
  clear vv;obtain⟨kq,SV,rfl,HA,Ch,⟨mc1,rfl⟩⟩:=hcut;cases kq with
  |zero=>exact absurd HA.out (by simp[dK.j1])
  |succ vC=>
   have H:=HA;clear HA;simp only[dK.j1] at H;go_wp2;go_loopg [0] vC (fun kq v0 w'=>∃(as2:ByteArray),v0 = .string as2/\ae (dK.l1 kq as2=some r)/\ae (kq<=vC)/\bL w w')
   case atStart=>exact⟨(SV),kD,H,⟨Nat.le_refl _⟩,TP⟩
   case round=>
    clear H;obtain⟨as2,rfl,HA,Cv,⟨m2,rfl⟩⟩:=hrel;cases gk with
    |zero=>exact absurd HA.out (by simp[dK.l1])
    |succ k2=>
     have H:=HA;clear HA;simp only[dK.l1] at H;exact uW
@[reducible,instance] def dK.c:=jM.of 0 Tryz.func87 @dK.calls

def mY.f (a0:ByteArray) (a1:ByteArray):Option (Bool):=(jw.f a0).bind fun aBp=>((jw.f a1).bind fun aBq=>(some (aBp.toList==aBq.toList)))
theorem mY.calls (a0 a1:ByteArray) (r:Bool) (w:World) (h:mY.f a0 a1=some r) :
  Calls Tryz.prog 131 #[.string a0,.string a1] w fun e w'=>e = .returned (.bool r)/\Below w.heap.size w w':=by
 unfold mY.f at h;exact uA
@[reducible,instance] def mY.c:=jM.of 0 Tryz.func131 @mY.calls


def dw.l0 : Nat->ByteArray->Int->Option (Bool)
 |0,_,_=>none
 |k+1,x0,x5=>if x5<(x0.size:Int) then(if 0<=x5 then((gF.f (bt x0 x5)).bind fun awk=>(if awk=true then(dw.l0 k x0 (wrap64 (x5+1))) else(some false))) else(none)) else(some true)
def dw.f (k:Nat) (a0:ByteArray)  : Option (Bool):=dw.l0 k a0 0
theorem dw.calls (k:Nat) (a0:ByteArray)  (r:Bool) (w:World) (h:dw.f k a0=some r) :
  Calls Tryz.prog 107 #[.string a0,.func (.func 166) #[] #[]] w fun e w'=>e = .returned (.bool r)/\bL w w':=by
 have H:=ae.mk h;clear h;unfold dw.f at H;go_enter Tryz.func107,Tryz.ntmps107;go_wp2;go_loopg [5] k (fun kq v5 w'=>∃(gH:Int),v5 = .int .i64 gH/\ae (dw.l0 kq a0 gH=some r)/\ae (kq<=k)/\bL w w')
 case atStart=>exact⟨(0),kD,H,⟨Nat.le_refl _⟩,TP⟩
 case round=>
  clear H;obtain⟨gH,rfl,HA,mh,⟨m1,rfl⟩⟩:=hrel;cases gk with
  |zero=>exact absurd HA.out (by simp[dw.l0])
  |succ k1=>
   have H:=HA;clear HA;simp only[dw.l0] at H;exact uW
@[reducible,instance] def dw.c:=jM.of 2 Tryz.func107 @dw.calls


mutual
def dx.j0 : Nat->ByteArray->Bool->Option (ByteArray×Bool)
 |0,_,_=>none
 |k+1,x0,x22=>if x22=true then(some ((⟨#[]⟩:af),false)) else(if 1<=(wrap64 ((x0.size:Int)-1)) then(if(wrap64 ((x0.size:Int)-1))<=(x0.size:Int) then(dx.l0 k (x0.extract 1 ((wrap64 ((x0.size:Int)-1)):Int).toNat) ([]:List Int) 0) else(none)) else(none))
def dx.l0 : Nat->ByteArray->List Int->Int->Option (ByteArray×Bool)
 |0,_,_,_=>none
 |k+1,x4,x5,x6=>if x6<(x4.size:Int) then(if 0<=x6 then(if(bt x4 x6)=34 then(some ((⟨#[]⟩:af),false)) else(if(bt x4 x6)=92 then(if(wrap64 (x6+1))=(x4.size:Int) then(some ((⟨#[]⟩:af),false)) else(if 0<=(wrap64 (x6+1)) then(if(wrap64 (x6+1))<(x4.size:Int) then((lD.f (bt x4 (wrap64 (x6+1)))).bind fun awl=>(if awl=true then(if x5.length<140737488355328 then(dx.l0 k x4 (x5 ++ [bt x4 (wrap64 (x6+1))]) (wrap64 ((wrap64 (x6+1))+1))) else(none)) else(some ((⟨#[]⟩:af),false)))) else(none)) else(none))) else(if x6=(x4.size:Int) then(some ((⟨#[]⟩:af),false)) else((lD.f (bt x4 x6)).bind fun awm=>(if awm=true then(if x5.length<140737488355328 then(dx.l0 k x4 (x5 ++ [bt x4 x6]) (wrap64 (x6+1))) else(none)) else(some ((⟨#[]⟩:af),false))))))) else(none)) else(if(x5.length:Int)>4000 then(some ((⟨#[]⟩:af),false)) else(some (strOfNums x5,true)))
end
def dx.f (k:Nat) (a0:ByteArray):Option (ByteArray×Bool):=if(a0.size:Int)<2 then(dx.j0 k a0 true) else(if 0<(a0.size:Int) then(if(bt a0 0)=34 then(if 0<=(wrap64 ((a0.size:Int)-1)) then(if(wrap64 ((a0.size:Int)-1))<(a0.size:Int) then(dx.j0 k a0 ((bt a0 (wrap64 ((a0.size:Int)-1))) != 34)) else(none)) else(none)) else(dx.j0 k a0 true)) else(none))
theorem dx.calls (k:Nat) (a0 r1:ByteArray) (r2:Bool) (w:World) (h:dx.f k a0=some (r1,r2)) :
  Calls Tryz.prog 88 #[.string a0] w fun e w'=>e = .returned (.tuple #[.string r1,.bool r2])/\Below w.heap.size w w':=by
 have HB:=ae.mk (Below.refl w.heap.size w);have H:=h;clear h;unfold dx.f at H;have vv:=ae.mk H;clear H;go_enter Tryz.func88,Tryz.ntmps88;go_upto_region 1 with(fail);go_cut [22] (fun v22 wc=>∃(kq:Nat) (aiE:Bool),v22 = .bool aiE/\ae (dx.j0 kq a0 aiE=some (r1,r2))/\ae (kq<=k)/\ae (Below w.heap.size w wc))
 case first=>
  have H:=vv.out;clear vv;replace H:=gI H;rcases H with⟨c3,nS,-,H⟩|⟨c3,nS,-,H⟩
  ·have GI:decide (a0.size<2)=true:=aQ aa;clear c3;(first|rw[nS]|(simp only[jJ,lY];rw[nS])|skip)
   replace H:=ae.mk H;go_wp2;go_meet
   case rel=>exact⟨_,(true),kD,H,⟨Ld⟩,⟨dL⟩⟩
  ·have GI:decide (a0.size<2)=false:=aT aa;clear c3;(first|rw[nS]|(simp only[jJ,lY];rw[nS])|skip)
   replace H:=gN H;obtain⟨c4,yE,-,H⟩:=H;have Kh:decide (0<a0.size)=true:=aQ aa;clear c4;replace H:=gI H;rcases H with⟨c6,-,-,H⟩|⟨c6,-,-,H⟩
   ·obtain⟨xV,M8⟩:=Cu c6;clear c6;obtain⟨ji7,WX⟩:∃ j_:Int,(wrap64 ((a0.size:Int)-1))=j_:=⟨_,rfl⟩;(first|rw[WX] at H|simp only[WX] at H ⊢)
    have awn:(IntKind.i64.wrap ((a0.size:Int)-1))=ji7:=(jJ _).trans WX;replace H:=gN H;obtain⟨-,zS,-,H⟩:=H;replace H:=gN H;obtain⟨-,LH,-,H⟩:=H;replace H:=ae.mk H;have p5:0<=(0:Int):=aa;have q5:0<a0.size:=(by have:(0:Int)<(a0.size:Int):=aX gq;omega);have hx5:∀ h:0<a0.size,((a0[0]'h).toNat:Int)=bt a0 0:=dZ a0 0;clear p5;have qi5:(0<(a0.size:Int))=True:=eq_true (aX gq);replace q5:=eq_true q5;have p10:0<=((ji7):Int):=aX gq;have q10:(ji7)<(a0.size:Int):=aX gq;have aBr:=dZ a0 (ji7);replace p10:=eq_true p10;replace q10:=eq_true q10;go_wp2;go_meet
    case rel=>exact⟨_,(((bt a0 (ji7)) != 34)),(by first|rfl|(simp;done)|(simp only[<- WX] <;> (first|rfl|simp))|(simp[*];done)),H,⟨Ld⟩,⟨dL⟩⟩
   ·obtain⟨xV,M8⟩:=Di c6;replace H:=ae.mk H;have p5:0<=(0:Int):=aa;have q5:0<a0.size:=(by have:(0:Int)<(a0.size:Int):=aX gq;omega);have hx5:∀ h:0<a0.size,((a0[0]'h).toNat:Int)=bt a0 0:=dZ a0 0;clear p5;have qi5:(0<(a0.size:Int))=True:=eq_true (aX gq);replace q5:=eq_true q5;go_wp2;go_meet
    case rel=>exact⟨_,(true),kD,H,⟨Ld⟩,⟨dL⟩⟩
 case rest=>
  clear vv;obtain⟨kq,aiE,rfl,HA,Ch,HB⟩:=hcut;cases kq with
  |zero=>exact absurd HA.out (by simp[dx.j0])
  |succ vC=>
   have H:=HA.out;clear HA;simp only[dx.j0] at H;replace H:=gB H;rcases H with⟨rfl,H⟩|⟨rfl,H⟩
   ·simp only[Option.some.injEq,Prod.mk.injEq] at H;obtain⟨rfl,rfl⟩:=H;go_wp2;go_ret2;exact⟨su,dL⟩
   ·replace H:=gI H;rcases H with⟨-,Nk,Ab,H⟩|⟨c12,-,-,H⟩
    ·replace H:=gN H;obtain⟨-,GX,zi,H⟩:=H;replace H:=ae.mk H;go_wp2;generalize(a0.extract 1 ((wrap64 ((a0.size:Int)-1)):Int).toNat)=sG at H ⊢;go_loopg [5,6] vC (fun kq v5 v6 w'=>∃(pE:List Int) (ib:Int),v6 = .int .i64 ib/\ae (dx.l0 kq sG pE ib=some (r1,r2))/\ae (kq<=vC)/\ae (Kd.R (Kd.int .u8) 5 w' w.heap.size (fun _=>True) v5 pE)/\ae (Below w.heap.size w w'))
     case atStart=>exact⟨(([]:List Int)),(0),kD,H,⟨Nat.le_refl _⟩,⟨Pe⟩,⟨dL⟩⟩
     case round=>
      clear H;try clear c12
      try clear Ab
      try clear Nk
      try clear zi
      try clear GX
      obtain⟨pE,ib,rfl,HA,Cv,wE,HB⟩:=hrel;cases gk with
      |zero=>exact absurd HA.out (by simp[dx.l0])
      |succ k2=>
       have H:=HA.out;clear HA;simp only[dx.l0] at H;replace H:=gI H;rcases H with⟨-,FV,-,H⟩|⟨-,FV,-,H⟩
       ·replace H:=gN H;obtain⟨-,Cj,-,H⟩:=H;replace H:=gI H;rcases H with⟨c17,-,-,H⟩|⟨c17,-,-,H⟩
        ·obtain⟨BG,I6⟩:=Cu c17;clear c17;simp only[Option.some.injEq,Prod.mk.injEq] at H;obtain⟨rfl,rfl⟩:=H;have p16:0<=(ib:Int):=aX gq;have q16:ib<(sG.size:Int):=aX gq;have hx16:=dZ sG ib;replace p16:=eq_true p16;replace q16:=eq_true q16;go_wp2;go_ret2;exact⟨su,dL⟩
        ·obtain⟨BG,I6⟩:=Di c17;replace H:=gI H;rcases H with⟨c19,-,-,H⟩|⟨c19,-,-,H⟩
         ·obtain⟨KY,Py⟩:=Cu c19;clear c19;replace H:=gI H;rcases H with⟨c20,-,-,H⟩|⟨c20,-,-,H⟩
          ·obtain⟨KZ,Nn⟩:=Cu c20;clear c20;simp only[Option.some.injEq,Prod.mk.injEq] at H;obtain⟨rfl,rfl⟩:=H;have p16:0<=(ib:Int):=aX gq;have q16:ib<(sG.size:Int):=aX gq;have hx16:=dZ sG ib;replace p16:=eq_true p16;replace q16:=eq_true q16;have p18:0<=(ib:Int):=aX gq;have q18:ib<(sG.size:Int):=aX gq;have aiF:=dZ sG ib;replace p18:=eq_true p18;replace q18:=eq_true q18;go_wp2;go_ret2;exact⟨su,dL⟩
          ·obtain⟨KZ,Nn⟩:=Di c20;obtain⟨Me,Vd⟩:∃ j_:Int,(wrap64 (ib+1))=j_:=⟨_,rfl⟩;(first|rw[Vd] at H|simp only[Vd] at H ⊢)
           (try rw[Vd] at KZ)
           (try rw[Vd] at Nn)
           have aBs:(IntKind.i64.wrap (ib+1))=Me:=(jJ _).trans Vd;replace H:=gN H;obtain⟨-,RU,-,H⟩:=H;replace H:=gN H;obtain⟨-,XX,-,H⟩:=H;replace H:=WU H;rcases H with⟨A25,H⟩|⟨A25,H⟩
           ·replace H:=gN H;obtain⟨c28,-,-,H⟩:=H;have awo:=ae.mk c28;clear c28;obtain⟨aqi,Ve⟩:∃ y_:List Int,y_=(pE ++ [bt sG (Me)]):=⟨_,rfl⟩;replace H:(dx.l0 k2 sG aqi (wrap64 ((Me)+1)))=some (r1,r2):=by first|(rw[Ve];with_reducible exact H)|(have mW:=(aj _ _).symm.trans H;rw[Ve];with_reducible exact mW)|(have mW:=(aj _ _).symm.trans H;with_reducible exact mW)|with_reducible exact H|(rw[Ve];exact H)|exact H
            have as3:=ae.mk Ve;clear Ve;replace H:=ae.mk H;have p16:0<=(ib:Int):=aX gq;have q16:ib<(sG.size:Int):=aX gq;have hx16:=dZ sG ib;replace p16:=eq_true p16;replace q16:=eq_true q16;have p18:0<=(ib:Int):=aX gq;have q18:ib<(sG.size:Int):=aX gq;have aiF:=dZ sG ib;replace p18:=eq_true p18;replace q18:=eq_true q18;have p24:0<=((Me):Int):=aX gq;have q24:(Me)<(sG.size:Int):=aX gq;have hx24:=dZ sG (Me);replace p24:=eq_true p24;replace q24:=eq_true q24;go_wp2_with(first|(go_at_call 108;(with_reducible refine(lD.calls (bt sG (Me)) true _ A25.out).mono ?_);rintro e w' ⟨rfl,⟨nd,rfl⟩⟩;have p27:0<=((Me):Int):=aX gq;have q27:(Me)<(sG.size:Int):=aX gq;have hx27:=dZ sG (Me);replace p27:=eq_true p27;replace q27:=eq_true q27)|((with_reducible refine iF (b:=.append) (xs:=#[.tmp 55,.tmp 59]) rfl ?_);(try(refine mH (by rfl) ?_;dsimp only));at_builtin;refine Kd.mG (Kd.int .u8) (w0:=w) w.heap.size rfl (.tmp 55) (.tmp 59) 100 5 (.int .u8 0) 1 rfl Tryz.underlying100 info5 rfl av aa u5 pE (bt sG (Me)) [.int .u8 (bt sG (Me))] (fun _=>True) (fun _=>False) rfl rfl ?aP (fun _ hk=>hk.elim) ?aF ?aO ?aB ?aS ?aL ?_;(case aP=>exact rfl);(case aB=>exact dL);(case aF=>exact(fun _ _=>trivial));(case aO=>exact SK);(case aS=>exact(bq dL));(case aL=>have:=awo.out;omega);intro aGq w29 ho hb hg hat;rw[<- as3.out] at ho;have qb:=ae.mk (hb);have qU:=ae.mk (ho);clear HB;clear wE;have HB:=qb;have aBt:=qU;clear qb qU;clear ho hb hg hat));go_roundg k2
            case measure=>have:=Ch.out;have:=Cv.out;omega
            case rel=>exact⟨(aqi),(wrap64 ((Me)+1)),(by first|rfl|(simp;done)|(simp only[<- Vd] <;> (first|rfl|simp))|(simp[*];done)),H,⟨aaj⟩,⟨wh⟩,⟨dL⟩⟩
           ·simp only[Option.some.injEq,Prod.mk.injEq] at H;obtain⟨rfl,rfl⟩:=H;have p16:0<=(ib:Int):=aX gq;have q16:ib<(sG.size:Int):=aX gq;have hx16:=dZ sG ib;replace p16:=eq_true p16;replace q16:=eq_true q16;have p18:0<=(ib:Int):=aX gq;have q18:ib<(sG.size:Int):=aX gq;have aiF:=dZ sG ib;replace p18:=eq_true p18;replace q18:=eq_true q18;have p24:0<=((Me):Int):=aX gq;have q24:(Me)<(sG.size:Int):=aX gq;have hx24:=dZ sG (Me);replace p24:=eq_true p24;replace q24:=eq_true q24;go_wp2_with(first|(go_at_call 108;(with_reducible refine(lD.calls (bt sG (Me)) false _ A25.out).mono ?_);rintro e w' ⟨rfl,⟨nd,rfl⟩⟩));go_ret2;exact⟨by first|rfl|(simp[iN,iO] <;> rfl)|(simp only[<- Vd];first|rfl|(simp[iN,iO] <;> rfl))|(simp[*,iN,iO] <;> rfl),dL⟩
         ·obtain⟨KY,Py⟩:=Di c19;replace H:=gI H;rcases H with⟨Z0,-,-,H⟩|⟨Z0,-,-,H⟩
          ·obtain⟨RY,Vf⟩:=Cu Z0;clear Z0;simp only[Option.some.injEq,Prod.mk.injEq] at H;obtain⟨rfl,rfl⟩:=H;have p16:0<=(ib:Int):=aX gq;have q16:ib<(sG.size:Int):=aX gq;have hx16:=dZ sG ib;replace p16:=eq_true p16;replace q16:=eq_true q16;have p18:0<=(ib:Int):=aX gq;have q18:ib<(sG.size:Int):=aX gq;have aiF:=dZ sG ib;replace p18:=eq_true p18;replace q18:=eq_true q18;go_wp2;go_ret2;exact⟨su,dL⟩
          ·obtain⟨RY,Vf⟩:=Di Z0;replace H:=WU H;rcases H with⟨A32,H⟩|⟨A32,H⟩
           ·replace H:=gN H;obtain⟨c35,-,-,H⟩:=H;have aiG:=ae.mk c35;clear c35;obtain⟨aqj,Vg⟩:∃ y_:List Int,y_=(pE ++ [bt sG ib]):=⟨_,rfl⟩;replace H:(dx.l0 k2 sG aqj (wrap64 (ib+1)))=some (r1,r2):=by first|(rw[Vg];with_reducible exact H)|(have mW:=(aj _ _).symm.trans H;rw[Vg];with_reducible exact mW)|(have mW:=(aj _ _).symm.trans H;with_reducible exact mW)|with_reducible exact H|(rw[Vg];exact H)|exact H
            have as4:=ae.mk Vg;clear Vg;replace H:=ae.mk H;have p16:0<=(ib:Int):=aX gq;have q16:ib<(sG.size:Int):=aX gq;have hx16:=dZ sG ib;replace p16:=eq_true p16;replace q16:=eq_true q16;have p18:0<=(ib:Int):=aX gq;have q18:ib<(sG.size:Int):=aX gq;have aiF:=dZ sG ib;replace p18:=eq_true p18;replace q18:=eq_true q18;have p31:0<=(ib:Int):=aX gq;have q31:ib<(sG.size:Int):=aX gq;have hx31:=dZ sG ib;replace p31:=eq_true p31;replace q31:=eq_true q31;go_wp2_with(first|(go_at_call 108;(with_reducible refine(lD.calls (bt sG ib) true _ A32.out).mono ?_);rintro e w' ⟨rfl,⟨nd,rfl⟩⟩;have p34:0<=(ib:Int):=aX gq;have q34:ib<(sG.size:Int):=aX gq;have hx34:=dZ sG ib;replace p34:=eq_true p34;replace q34:=eq_true q34)|((with_reducible refine iF (b:=.append) (xs:=#[.tmp 55,.tmp 59]) rfl ?_);(try(refine mH (by rfl) ?_;dsimp only));at_builtin;refine Kd.mG (Kd.int .u8) (w0:=w) w.heap.size rfl (.tmp 55) (.tmp 59) 100 5 (.int .u8 0) 1 rfl Tryz.underlying100 info5 rfl av aa u5 pE (bt sG ib) [.int .u8 (bt sG ib)] (fun _=>True) (fun _=>False) rfl rfl ?aP (fun _ hk=>hk.elim) ?aF ?aO ?aB ?aS ?aL ?_;(case aP=>exact rfl);(case aB=>exact dL);(case aF=>exact(fun _ _=>trivial));(case aO=>exact SK);(case aS=>exact(bq dL));(case aL=>have:=aiG.out;omega);intro aGr w36 ho hb hg hat;rw[<- as4.out] at ho;have qb:=ae.mk (hb);have qU:=ae.mk (ho);clear HB;clear wE;have HB:=qb;have aBu:=qU;clear qb qU;clear ho hb hg hat));go_roundg k2
            case measure=>have:=Ch.out;have:=Cv.out;omega
            case rel=>exact⟨(aqj),(wrap64 (ib+1)),kD,H,⟨aaj⟩,⟨wh⟩,⟨dL⟩⟩
           ·simp only[Option.some.injEq,Prod.mk.injEq] at H;obtain⟨rfl,rfl⟩:=H;have p16:0<=(ib:Int):=aX gq;have q16:ib<(sG.size:Int):=aX gq;have hx16:=dZ sG ib;replace p16:=eq_true p16;replace q16:=eq_true q16;have p18:0<=(ib:Int):=aX gq;have q18:ib<(sG.size:Int):=aX gq;have aiF:=dZ sG ib;replace p18:=eq_true p18;replace q18:=eq_true q18;have p31:0<=(ib:Int):=aX gq;have q31:ib<(sG.size:Int):=aX gq;have hx31:=dZ sG ib;replace p31:=eq_true p31;replace q31:=eq_true q31;go_wp2_with(first|(go_at_call 108;(with_reducible refine(lD.calls (bt sG ib) false _ A32.out).mono ?_);rintro e w' ⟨rfl,⟨nd,rfl⟩⟩));go_ret2;exact⟨su,dL⟩
       ·replace H:=gI H;rcases H with⟨c37,-,-,H⟩|⟨c37,-,-,H⟩
        ·have aeU:decide (4000<(pE.length:Int))=true:=aQ c37;have aiH:decide (4000<pE.length)=true:=aQ aa;clear c37;simp only[Option.some.injEq,Prod.mk.injEq] at H;obtain⟨rfl,rfl⟩:=H;obtain⟨Km,Kn,aaW⟩:=Kd.dE wE.out;subst aaW;go_wp2;go_ret2;exact⟨su,dL⟩
        ·have aeU:decide (4000<(pE.length:Int))=false:=aT c37;have aiH:decide (4000<pE.length)=false:=aT aa;clear c37;simp only[Option.some.injEq,Prod.mk.injEq] at H;obtain⟨rfl,rfl⟩:=H;obtain⟨Ko,Kq,aaX⟩:=Kd.dE wE.out;subst aaX;have awp:=xH (P:=Tryz.prog) Tryz.underlying100 Tryz.underlying5 Tryz.underlying9 (Kd.Ao wE.out);go_wp2;go_ret2;exact⟨su,dL⟩
    ·exact absurd H (by simp)
@[reducible,instance] def dx.c:=jM.of 0 Tryz.func88 @dx.calls


theorem PK (k:Nat) (el t:ByteArray) (B:Nat) (v:Value) (xs:List ByteArray) (w w0:World) (base:Nat) (ht:dK.f k el=some t)
  (hbox:w.heap[B]? = some (.cells #[v] 76 (0,0))) (hR:Kd.R Kd.string 9 w base (fun k_=>k_≠B) v xs) (hbel:Below base w0 w) (hbase:base<=B) (hlen:xs.length<8796093022208) :
  Calls Tryz.prog 168 #[.string el,.pointer (some ⟨B,0,none⟩)] w fun e w'=>∃ v',e = .returned (.tuple #[])/\w'.heap[B]? = some (.cells #[v'] 76 (0,0))/\
   Kd.R Kd.string 9 w' base (fun k_=>k_≠B) v' (zD xs t)/\Below base w0 w':=by
 obtain⟨A0,c0,rfl⟩:=dE hR
 have hBlt:=zF hbox
 have A:=ae.mk ht
 have Hbox:=ae.mk hbox
 have HR:=ae.mk hR
 have HB:=ae.mk hbel
 clear ht hR hbel
 by_cases he:t.toList=([]:aM)
 ·have c1:(t.toList==([]:aM))=true:=beq_iff_eq.mpr he
  have c2:(t.toList != ([]:aM))=false:=bne_eq_false_iff_eq.mpr he
  rw[show zD xs t=xs from if_pos he]
  clear he hbox
  go_enter Tryz.func168,Tryz.ntmps168
  go_wp2_with(go_at_call 87;refine(dK.calls k el t _ A.out).mono ?_;rintro e w' ⟨rfl,⟨nd,rfl⟩⟩)
  first|go_end0|((try simp only[Exit.inBlock,Exit.then]);refine bodyPost_ret (results_none rfl _ _ _) rfl ?_)
  exact⟨_,rfl,Hbox.out,by(with_reducible repeat(first|apply Kd.bR|apply Kd.bP|apply Kd.bV));exact HR.out,dL⟩
 ·have c1:(t.toList==([]:aM))=false:=beq_eq_false_iff_ne.mpr he
  have c2:(t.toList != ([]:aM))=true:=bne_iff_ne.mpr he
  rw[show zD xs t=xs ++ [t] from if_neg he]
  clear he
  have hcell:w.cell? ⟨B,0,none⟩=some (.slice A0 xs.length c0):=by rw[cell_of_row w B 0 _ _ _ hbox];rfl
  clear hbox
  go_enter Tryz.func168,Tryz.ntmps168
  go_wp2_with(first|(go_at_call 87;refine(dK.calls k el t _ A.out).mono ?_;rintro e w' ⟨rfl,⟨nd,rfl⟩⟩)|((with_reducible refine iF (b:=.append) (xs:=#[.tmp 7,.tmp 9]) rfl ?_);(try(refine mH (by rfl) ?_;dsimp only));at_builtin;refine Kd.mG Kd.string (w0:=w0) base rfl (.tmp 7) (.tmp 9) 76 9 (.string ⟨#[]⟩) 16 rfl Tryz.underlying76 Iy rfl av aa (.slice A0 xs.length c0) xs t [.string t] (fun k_=>k_≠B) (fun _=>False) rfl rfl ?aP (fun _ hk=>hk.elim) ?aF ?aO ?aB ?aS ?aL ?_;(case aP=>exact rfl);(case aF=>intro k_ hk e_;subst e_;simp at hk;omega);(case aO=>exact(by(with_reducible repeat(first|apply Kd.bR|apply Kd.bP|apply Kd.bV));exact HR.out));(case aB=>exact dL);(case aS=>simp;omega);(case aL=>omega);intro v1 w1 ho hb hg hat;obtain⟨⟨A1_,c1_,rfl⟩,hb1,hcell1,aBv⟩:=af4 Hbox.out HR.out nd hg ho;have Hb1:=ae.mk hb1;have Ho:=ae.mk ho;have Hb:=ae.mk hb;clear hb1 ho hb hg hat))
  first|go_end0|((try simp only[Exit.inBlock,Exit.then]);refine bodyPost_ret (results_none rfl _ _ _) rfl ?_)
  have Ho2:=Ho.out
  rw[List.length_append,List.length_singleton] at Ho2
  exact⟨_,rfl,SB Hb1.out,Kd.agZ (p:=⟨B,0,none⟩) Ho2 (fun _ hk=>hk) _,Hb.out.setCell hbase _⟩


def eG.l0 : Nat->ByteArray->List ByteArray->Int->Bool->Int->Option (List ByteArray)
 |0,_,_,_,_,_=>none
 |k+1,x0,out,x5,x6,x7=>
  if x7<(x0.size:Int) then(if 0<=x7 then(
   if bt x0 x7=34 then eG.l0 k x0 out x5 (!x6) (wrap64 (x7+1))
   else if x6=true/\bt x0 x7=92 then eG.l0 k x0 out x5 x6 (wrap64 (wrap64 (x7+1)+1))
   else if x6=false/\bt x0 x7=44 then(if 0<=x5 then(if x5<=x7 then(if out.length<8796093022208 then(dK.f k (x0.extract (x5:Int).toNat (x7:Int).toNat)).bind fun t=>eG.l0 k x0 (zD out t) (wrap64 (x7+1)) x6 (wrap64 (x7+1)) else none) else none) else none)
   else eG.l0 k x0 out x5 x6 (wrap64 (x7+1))) else none)
  else(if 0<=x5 then(if x5<=(x0.size:Int) then(if out.length<8796093022208 then(dK.f k (x0.extract (x5:Int).toNat x0.size)).bind fun t=>some (zD out t) else none) else none) else none)
def eG.f (k:Nat) (a0:ByteArray):Option (List ByteArray):=if(a0.size:Int)>4000 then some [] else eG.l0 k a0 [] 0 false 0
theorem eG.e0 {p:Prop} (h:p:=by
  have H':=ae.mk H
  clear H d2 c4 c3'
  go_wp2
  go_roundg k1
  case measure=>have:=mh.out;omega
  case rel=>exact⟨out,x5,true,_,vb,rfl,rfl,rfl,H',⟨by have:=mh.out;omega⟩,Hbox,HR,HB⟩):p:=h
theorem eG.calls (k:Nat) (a0:ByteArray) (r:List ByteArray) (w:World) (h:eG.f k a0=some r) :
  Calls Tryz.prog 126 #[.string a0] w fun e w'=>∃ KW:Value,e = .returned (KW)/\Kd.R Kd.string 9 w' w.heap.size (fun _=>True) KW r/\Below w.heap.size w w':=by
 have H:=h;clear h;unfold eG.f at H;replace H:=gI H;rcases H with⟨c2,-,-,H⟩|⟨c2,-,-,H⟩
 ·have xU:decide (4000<(a0.size:Int))=true:=aQ c2;have EG:decide (4000<a0.size)=true:=aQ aa;clear c2;obtain rfl:=gK H;go_enter Tryz.func126,Tryz.ntmps126;go_wp2;go_ret;exact⟨_,rfl,Kd.O0 _ _ _ _ _,Below.refl _ _⟩
 ·have xU:decide (4000<(a0.size:Int))=false:=aT c2;have EG:decide (4000<a0.size)=false:=aT aa;have hsz:a0.size<=4000:=by omega
  clear c2;have H':=ae.mk H;clear H;go_enter Tryz.func126,Tryz.ntmps126;go_wp2;go_loopg [5,6,7] k (fun kq v5 v6 v7 w'=>∃(out:List ByteArray) (x5:Int) (x6:Bool) (x7:Int) (vb:Value),v5 = .int .i64 x5/\v6 = .bool x6/\v7 = .int .i64 x7/\ae (eG.l0 kq a0 out x5 x6 x7=some r)/\ae (kq<=k)/\ae (w'.heap[w.heap.size]? = some (.cells #[vb] 76 (0,0)))/\ae (Kd.R Kd.string 9 w' w.heap.size (fun k_=>k_≠w.heap.size) vb out)/\ae (Below w.heap.size w w'))
  case atStart=>exact⟨[],0,false,0,_,rfl,rfl,rfl,H',⟨Nat.le_refl _⟩,⟨Jw w _⟩,⟨Kd.O0 _ _ _ _ _⟩,⟨(Below.refl _ _).alloc (Nat.le_refl _) _⟩⟩
  case round=>
   clear H' xU EG;obtain⟨out,x5,x6,x7,vb,rfl,rfl,rfl,HA,mh,Hbox,HR,HB⟩:=hrel;cases gk with
   |zero=>exact absurd HA.out (by simp[eG.l0])
   |succ k1=>
    have H:=HA.out;clear HA;simp only[eG.l0] at H;replace H:=gI H;rcases H with⟨c3,nS,-,H⟩|⟨-,nS,-,H⟩
    ·by_cases c4:0<=x7
     case neg=>rw[if_neg c4] at H;cases H
     rw[if_pos c4] at H;have p5:=eq_true c4;have q5:=eq_true c3;have hx5:=dZ a0 x7;have c3':x7<=(a0.size:Int):=by omega
     clear c3;by_cases d1:bt a0 x7=34
     ·rw[if_pos d1] at H;have aBw:(bt a0 x7==34)=true:=beq_iff_eq.mpr d1;have H':=ae.mk H;clear H d1 c4 c3';go_wp2;go_roundg k1
      case measure=>have:=mh.out;omega
      case rel=>exact⟨out,x5,!x6,_,vb,rfl,rfl,rfl,H',⟨by have:=mh.out;omega⟩,Hbox,HR,HB⟩
     ·rw[if_neg d1] at H;have aBw:(bt a0 x7==34)=false:=beq_eq_false_iff_ne.mpr d1;clear d1;cases x6 with
      |true=>
       by_cases d2:bt a0 x7=92
       ·rw[if_pos ⟨rfl,d2⟩] at H;have aBx:(bt a0 x7==92)=true:=beq_iff_eq.mpr d2;exact eG.e0
       ·rw[if_neg (fun z=>d2 z.2),if_neg (fun z=>by cases z.1)] at H;have aBx:(bt a0 x7==92)=false:=beq_eq_false_iff_ne.mpr d2;exact eG.e0
      |false=>
       rw[if_neg (fun z=>by cases z.1)] at H;by_cases d3:bt a0 x7=44
       ·rw[if_pos ⟨rfl,d3⟩] at H;have aBy:(bt a0 x7==44)=true:=beq_iff_eq.mpr d3;by_cases e1:0<=x5
        case neg=>rw[if_neg e1] at H;cases H
        rw[if_pos e1] at H;by_cases e2:x5<=x7
        case neg=>rw[if_neg e2] at H;cases H
        rw[if_pos e2] at H;by_cases e3:out.length<8796093022208
        case neg=>rw[if_neg e3] at H;cases H
        rw[if_pos e3] at H;obtain⟨t,A0,H⟩:=Option.bind_eq_some_iff.mp H;have A:=ae.mk A0;clear A0;have H':=ae.mk H;have HL:=ae.mk e3;have s1:=eq_true e1;have s1b:decide (0<=x5)=true:=aQ e1;have s2:=eq_true e2;have s2b:decide (x5<=x7)=true:=aQ e2;have s3:=eq_true c3';have s3b:decide (x7<=(a0.size:Int))=true:=aQ c3';clear H d3 c4 c3' e1 e2 e3;go_wp2_with(go_at_call 168;refine(PK k1 (a0.extract (x5:Int).toNat (x7:Int).toNat) t w.heap.size vb out _ w w.heap.size A.out Hbox.out HR.out HB.out (Nat.le_refl _) HL.out).mono ?_;rintro e w' ⟨v',rfl,hb',hr',hl'⟩;have Hb2:=ae.mk hb';have Hr2:=ae.mk hr';have Hl2:=ae.mk hl';clear hb' hr' hl');go_roundg k1
        case measure=>have:=mh.out;omega
        case rel=>exact⟨zD out t,_,false,_,v',rfl,rfl,rfl,H',⟨by have:=mh.out;omega⟩,Hb2,Hr2,Hl2⟩
       ·rw[if_neg (fun z=>d3 z.2)] at H;have aBy:(bt a0 x7==44)=false:=beq_eq_false_iff_ne.mpr d3;have H':=ae.mk H;clear H d3 c4 c3';go_wp2;go_roundg k1
        case measure=>have:=mh.out;omega
        case rel=>exact⟨out,x5,false,_,vb,rfl,rfl,rfl,H',⟨by have:=mh.out;omega⟩,Hbox,HR,HB⟩
    ·by_cases e1:0<=x5
     case neg=>rw[if_neg e1] at H;cases H
     rw[if_pos e1] at H;by_cases e2:x5<=(a0.size:Int)
     case neg=>rw[if_neg e2] at H;cases H
     rw[if_pos e2] at H;by_cases e3:out.length<8796093022208
     case neg=>rw[if_neg e3] at H;cases H
     rw[if_pos e3] at H;obtain⟨t,A0,H⟩:=Option.bind_eq_some_iff.mp H;have A:=ae.mk A0;clear A0;obtain rfl:=gK H;have HL:=ae.mk e3;have s1:=eq_true e1;have s1b:decide (0<=x5)=true:=aQ e1;have s2:=eq_true e2;have s2b:decide (x5<=(a0.size:Int))=true:=aQ e2;clear H e1 e2 e3;go_wp2_with(fail);refine(PK k1 (a0.extract (x5:Int).toNat a0.size) t w.heap.size vb out _ w w.heap.size A.out Hbox.out HR.out HB.out (Nat.le_refl _) HL.out).mono ?_;rintro e w' ⟨v',rfl,hb',hr',hl'⟩;obtain⟨A1,c1,rfl⟩:=dE hr';have hcell:w'.cell? ⟨w.heap.size,0,none⟩=some (.slice A1 (zD out t).length c1):=by rw[cell_of_row w' w.heap.size 0 _ _ _ hb'];rfl
     have Hb2:=ae.mk hb';have Hr2:=ae.mk hr';have Hl2:=ae.mk hl';clear hb' hr' hl';go_wp2;go_ret;exact⟨_,rfl,Kd.iR Hr2.out (fun _ _=>trivial),Hl2.out⟩
@[reducible,instance] def eG.c:=jM.of 0 Tryz.func126 @eG.calls

end Go.Proofs.YtfhllanhldbkkaaGreatDoor.P
