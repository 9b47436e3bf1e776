import Derived.Lib.AtoiAll
import Derived.Lib.AtoiErrMem
import Derived.Test.YtfhllanhldbkkaaGreatDoorPxliba
namespace Go.Proofs.YtfhllanhldbkkaaGreatDoor.P
set_option maxHeartbeats 8000000
set_option maxRecDepth 100000
open Go.RowKit Go.Proofs.YtfhllanhldbkkaaGreatDoorW.bf Go.Proofs.YtfhllanhldbkkaaGreatDoorW.iK Go.Proofs.YtfhllanhldbkkaaGreatDoorW.kG
attribute [local go_sem] rE rF uF uG pE pF rG rH   -- for this text's walks alone
set_option linter.unusedVariables false
set_option linter.unusedSimpArgs false

def lg.f (a0:Int):Option (Bool):=if a0>=65 then(some (decide (a0<=90))) else(some false)
theorem lg.calls (a0:Int) (r:Bool) (w:World) (h:lg.f a0=some r) :
  Calls Tryz.prog 130 #[.int .u8 a0] w fun e w'=>e = .returned (.bool r)/\bH w w':=by
 have H:=aa.mk h;clear h;unfold lg.f at H;rcases jw H with⟨-,jc,-,H⟩|⟨-,jc,-,H⟩
 ·obtain rfl:=aI H.out;go_enter Tryz.func130,Tryz.ntmps130;go_wp2;go_ret;exact⟨bR,iL⟩
 ·obtain rfl:=aI H.out;go_enter Tryz.func130,Tryz.ntmps130;go_wp2;go_ret;exact⟨bR,iL⟩

theorem Xf (c:Int):lg.f c=some (decide (65<=c/\c<=90)):=by
 unfold lg.f
 by_cases h:c>=65
 ·rw[if_pos h];congr 1;simp[h]
 ·rw[if_neg h];congr 1;simp;omega
def jF.f (a0:ByteArray):Option (ByteArray):=if a0.size<=9223372036854775807 then some (lG a0) else none
theorem jF.calls (a0 r:ByteArray) (w:World) (h:jF.f a0=some r) :
  Calls Tryz.prog 89 #[.string a0] w fun e w'=>e = .returned (.string r)/\Below w.heap.size w w':=by
 unfold jF.f at h;by_cases hs:a0.size<=9223372036854775807
 case neg=>rw[if_neg hs] at h;cases h
 rw[if_pos hs] at h;obtain rfl:=aI h;clear h;have kb:=fun W=>KJ (P:=Tryz.prog) 9 100 5 Tryz.underlying9 Tryz.underlying100 Tryz.underlying5 a0 W;have Xg:xX (Lib.bytesWorld w 5 a0) w.heap.size 5 (wU a0 0):=by rw[Nv];exact xX.new w 5 a0
 have hbel0:Below w.heap.size w (Lib.bytesWorld w 5 a0):=KL (Below.refl _ _) (Nat.le_refl _) 5 a0;go_enter Tryz.func89,Tryz.ntmps89;go_wp2;clear kb;go_loopw [10] (fun i wr=>∃ k:Nat,k<=a0.size/\i = .int .i64 k/\xX wr w.heap.size 5 (wU a0 k)/\Below w.heap.size w wr) (fun i _=>a0.size-(intOf i).toNat)
 case atStart=>exact⟨0,Nat.zero_le _,rfl,Xg,hbel0⟩
 case round=>
  obtain⟨k,hk,rfl,hrow,hbel⟩:=hrel;clear Xg hbel0;by_cases hlt:k<a0.size
  ·have hcell:=hrow.cell k (by rw[nT];exact hlt);rw[Nw a0 k hlt] at hcell;have hfree:=hrow.free k (by rw[nT];exact hlt);have hr:=je a0 (k:Int);have hl:=Xf (bt a0 k);have Hrow:=aa.mk hrow;have Hbel:=aa.mk hbel;clear hrow hbel;by_cases hup:65<=bt a0 (k:Int)/\bt a0 (k:Int)<=90
   ·rw[bK hup] at hl;go_wp2_with(go_at_call 130;refine(lg.calls _ _ _ hl).mono ?_;rintro e w' ⟨rfl,⟨nd,rfl⟩⟩);have hlow:low (bt a0 (k:Int))=bt a0 (k:Int)+32:=by unfold low;rw[if_pos hup]
    exact⟨⟨k+1,by omega,by go_num,by rw[<- Gi a0 k hlt,hlow];exact(Hrow.out.drewN nd).set k (by rw[nT];exact hlt) _,(yL Hbel.out nd).setCell (Nat.le_refl _) _⟩,by simp[intOf];omega⟩
   ·rw[bQ hup] at hl;go_wp2_with(go_at_call 130;refine(lg.calls _ _ _ hl).mono ?_;rintro e w' ⟨rfl,⟨nd,rfl⟩⟩);have hlow:low (bt a0 (k:Int))=bt a0 (k:Int):=by unfold low;rw[if_neg hup]
    exact⟨⟨k+1,by omega,by go_num,by rw[<- Y3 a0 k hlt hlow];exact Hrow.out.drewN nd,yL Hbel.out nd⟩,by simp[intOf];omega⟩
  ·obtain rfl:k=a0.size:=by omega
   have kc:=fun c=>xX.str (P:=Tryz.prog) (src:=100) (dst:=9) hrow Tryz.underlying100 Tryz.underlying5 Tryz.underlying9 a0.size c (nT a0 _);rw[Q8] at kc;have Hbel:=aa.mk hbel;clear hrow hbel;go_wp2;go_ret;exact⟨rfl,Hbel.out⟩

def bG.f (a0:Int) (a1:Int) (a2:Int):Option (Bool):=if a1<=a0 then(some (decide (a0<=a2))) else(some false)
theorem bG.calls (a0 a1 a2:Int) (r:Bool) (w:World) (h:bG.f a0 a1 a2=some r) :
  Calls Tryz.prog 65 #[.int .i64 a0,.int .i64 a1,.int .i64 a2] w fun e w'=>e = .returned (.bool r)/\bH w w':=by
 have H:=aa.mk h;clear h;unfold bG.f at H;rcases jw H with⟨-,jr,-,H⟩|⟨-,jr,-,H⟩
 ·obtain rfl:=aI H.out;go_enter Tryz.func65,Tryz.ntmps65;go_wp2;go_ret;exact⟨bR,iL⟩
 ·obtain rfl:=aI H.out;go_enter Tryz.func65,Tryz.ntmps65;go_wp2;go_ret;exact⟨bR,iL⟩

def nW.f (a0:Int):Option (ByteArray):=(bG.f a0 0 999999999999999).bind fun azi=>(if azi=true then((fT.f a0).bind fun aqH=>(some aqH)) else(some (⟨#[]⟩:af)))
theorem nW.e0 {p:Prop} (h:p:=by
  obtain rfl:=aI H.out
  go_enter Tryz.func193,Tryz.ntmps193
  go_wp2_with(first|((with_reducible refine cZ 65 rfl ?_);refine mM 4 rfl Tryz.func65 (bG.calls a0 0 999999999999999 false _ A2.out) fun nd=>?_)|((with_reducible refine cZ 65 rfl ?_);refine mM 4 rfl Tryz.func65 (bG.calls a0 0 999999999999999 true _ A2.out) fun nd=>?_)|((with_reducible refine cZ 111 rfl ?_);refine iW 7 rfl Tryz.func111 (fT.calls a0 aqH _ A4.out (dV HT)) fun gG hb HB=>?_;clear hb))
  go_ret
  exact⟨jv,aX⟩):p:=h
theorem nW.calls (a0:Int) (r:ByteArray) (w:World) (h:nW.f a0=some r) (HT0:mX w) :
  Calls Tryz.prog 193 #[.int .i64 a0] w fun e w'=>e = .returned (.string r)/\Below w.heap.size w w':=by
 have HT:=aa.mk HT0;clear HT0;have HB:=aa.mk (Below.refl w.heap.size w);have H:=aa.mk h;clear h;unfold nW.f at H;rcases lu H with⟨A2,H⟩|⟨A2,H⟩
 ·obtain⟨aqH,A4,H⟩:=nP H;exact nW.e0
 ·exact nW.e0

-- IMPORT Shelf Derived.Lib.AtoiAll Derived.Lib.AtoiErrMem
def rY (s:ByteArray):Int×Bool:=match Lib.atoiAll s.data.toList with
 |.ok v=>if 0<=v/\v<=999999999999999/\(jg v).toList=s.toList then(v,true) else(0,false)
 |_=>(0,false)
def lS.f (a0:ByteArray):Option (Int×Bool):=if a0.size<=281474976710656 then some (rY a0) else none
theorem QS (a0:ByteArray) (hs:a0.size<=281474976710656) (v:Int) (h:Lib.atoiAll a0.data.toList = .ok v) (w:World) :
  Calls Tryz.prog 192 #[.string a0] w fun e w'=>e = .returned (.tuple #[.int .i64 v,.nilIface])/\Below w.heap.size w w':=by
 refine(Tryz.strconv_Atoi_ok a0 ae v h w).mono ?_
 rintro e w' ⟨rfl,rfl|⟨t,rfl⟩⟩
 ·exact⟨rfl,Below.refl _ _⟩
 ·exact⟨rfl,Lib.bytesWorld_below w _ t⟩
theorem OG (a0:ByteArray) (hs:a0.size<=281474976710656) (h:∀ v,Lib.atoiAll a0.data.toList≠.ok v) (w:World) (HT0:mX w) :
  Calls Tryz.prog 192 #[.string a0] w fun e w'=>∃ n T N,e = .returned (.tuple #[.int .i64 n,.iface T (.pointer (some ⟨N,0,none⟩))])/\Below w.heap.size w w':=by
 obtain⟨_,_,⟨t1,p1,h1⟩,t2,p2,h2⟩:=HT0
 rcases hA:Lib.atoiAll a0.data.toList with v|_|_
 ·exact absurd hA (h v)
 ·refine(Tryz.strconv_Atoi_syntax a0 hs ⟨h,fun e=>by rw[hA] at e;cases e⟩ _ w h1 (.inr ⟨t1,p1,rfl⟩)).mono ?_
  rintro e w' ⟨N,rfl,_,_,hb⟩
  exact⟨_,_,N,rfl,hb⟩
 ·refine(Tryz.strconv_Atoi_range a0 hs hA _ w h2 (.inr ⟨t2,p2,rfl⟩)).mono ?_
  rintro e w' ⟨N,rfl,_,_,hb⟩
  exact⟨_,_,N,rfl,hb⟩
theorem lS.e0 {p:Prop} (h:p:=by
  go_enter Tryz.func151,Tryz.ntmps151
  go_wp2_with(first|(with_reducible refine cZ 192 rfl ?_);refine nU (some 8) rfl rfl Tryz.func192 dK rfl #[.string a0] rfl JX ?_;refine(OG a0 HS.out HBAD.out _ (dV HT)).mono ?_;rintro e mP ⟨n,T,N,rfl,hb⟩;refine⟨_,rfl,?_⟩;replace HB:=fw hb;clear hb|((with_reducible refine cZ 192 rfl ?_);refine nU (some 8) rfl rfl Tryz.func192 dK rfl #[.string a0] rfl JX ?_;refine(QS a0 HS.out v HV.out _).mono ?_;rintro e gG ⟨rfl,hb⟩;refine⟨_,rfl,?_⟩;replace HB:=fw hb;clear hb)|(go_at_call 65;(with_reducible refine(bG.calls v 0 999999999999999 false _ A3.out).mono ?_);rintro e w' ⟨rfl,⟨nd,rfl⟩⟩)|(go_at_call 65;(with_reducible refine(bG.calls v 0 999999999999999 true _ A3.out).mono ?_);rintro e w' ⟨rfl,⟨nd,rfl⟩⟩)|(go_at_call 193;(with_reducible refine(nW.calls v (jg v) _ A5.out (dV HT)).mono ?_);rintro e jH ⟨rfl,hb⟩;replace HB:=fw hb;clear hb))
  go_ret2
  exact⟨rfl,axI⟩):p:=h
theorem lS.calls (a0:ByteArray) (r1:Int) (r2:Bool) (w:World) (h:lS.f a0=some (r1,r2)) (HT0:mX w) :
  Calls Tryz.prog 151 #[.string a0] w fun e w'=>e = .returned (.tuple #[.int .i64 r1,.bool r2])/\Below w.heap.size w w':=by
 unfold lS.f at h;by_cases hs:a0.size<=281474976710656
 case neg=>rw[if_neg hs] at h;cases h
 rw[if_pos hs] at h;have HS:=aa.mk hs;clear hs;have huE:=Tryz.underlying104;have HB:=aa.mk (Below.refl w.heap.size w);have HT:=aa.mk HT0;clear HT0;by_cases hok:∃ v,Lib.atoiAll a0.data.toList = .ok v
 ·obtain⟨v,hv⟩:=hok;have HV:=aa.mk hv;by_cases hr:0<=v/\v<=999999999999999
  ·have A3:aa (bG.f v 0 999999999999999=some true):=⟨by unfold bG.f;rw[if_pos hr.1,bK hr.2]⟩;have A5:aa (nW.f v=some (jg v)):=⟨by unfold nW.f;rw[A3.out,ax,if_pos rfl];unfold fT.f;rw[if_pos ⟨by omega,by omega⟩];rfl⟩;by_cases he:(jg v).toList=a0.toList
   ·have hd:rY a0=(v,true):=by unfold rY;rw[hv];exact if_pos ⟨hr.1,hr.2,he⟩
    rw[hd] at h;obtain⟨h1,h2⟩:=Prod.mk.inj (aI h);subst h1;subst h2;clear h;have jy:((jg v).toList==a0.toList)=true:=beq_iff_eq.mpr he;have pq:((jg v).toList != a0.toList)=false:=bne_eq_false_iff_eq.mpr he;clear he hr hv hd;exact lS.e0
   ·have hd:rY a0=(0,false):=by unfold rY;rw[hv];exact if_neg (fun x=>he x.2.2)
    rw[hd] at h;obtain⟨h1,h2⟩:=Prod.mk.inj (aI h);subst h1;subst h2;clear h;have jy:((jg v).toList==a0.toList)=false:=beq_eq_false_iff_ne.mpr he;have pq:((jg v).toList != a0.toList)=true:=bne_iff_ne.mpr he;clear he hr hv hd;exact lS.e0
  ·have A3:aa (bG.f v 0 999999999999999=some false):=⟨by
    unfold bG.f;by_cases h0:0<=v
    ·rw[if_pos h0,bQ (fun x=>hr ⟨h0,x⟩)]
    ·rw[if_neg h0]⟩
   have hd:rY a0=(0,false):=by unfold rY;rw[hv];exact if_neg (fun x=>hr ⟨x.1,x.2.1⟩)
   rw[hd] at h;obtain⟨h1,h2⟩:=Prod.mk.inj (aI h);subst h1;subst h2;clear h;clear hr hv hd;exact lS.e0
 ·have hbad:∀ v,Lib.atoiAll a0.data.toList≠.ok v:=fun v e=>hok ⟨v,e⟩;have hd:rY a0=(0,false):=by
   unfold rY;rcases hA:Lib.atoiAll a0.data.toList with v|_|_
   ·exact absurd hA (hbad v)
   ·rfl
   ·rfl
  rw[hd] at h;cases h
  have HBAD:=aa.mk hbad;clear hbad hd hok;exact lS.e0

def eH.f (a0:Int):Option (Bool):=if a0>=48 then(some (decide (a0<=57))) else(some false)
theorem eH.calls (a0:Int) (r:Bool) (w:World) (h:eH.f a0=some r) :
  Calls Tryz.prog 166 #[.int .u8 a0] w fun e w'=>e = .returned (.bool r)/\bH w w':=by
 have H:=aa.mk h;clear h;unfold eH.f at H;rcases jw H with⟨-,jc,-,H⟩|⟨-,jc,-,H⟩
 ·obtain rfl:=aI H.out;go_enter Tryz.func166,Tryz.ntmps166;go_wp2;go_ret;exact⟨bR,iL⟩
 ·obtain rfl:=aI H.out;go_enter Tryz.func166,Tryz.ntmps166;go_wp2;go_ret;exact⟨bR,iL⟩


def eT.j0 : Nat->Int->Bool->Option (Int)
 |0,_,_=>none
 |k+1,x0,x9=>if x9=true then(some (((x0-97)%256)+10)) else(if x0>=65 then(if x0<=70 then(some (((x0-65)%256)+10)) else(some (-1))) else(some (-1)))
def eT.f (k:Nat) (a0:Int):Option (Int):=(eH.f a0).bind fun azj=>(if azj=true then(some ((a0-48)%256)) else(if a0>=97 then(eT.j0 k a0 (decide (a0<=102))) else(eT.j0 k a0 false)))
theorem eT.OH : ∀ k,(∀ y0 y1,xC (eT.j0 k y0 y1) (eT.j0 (k+1) y0 y1))
 |0=>fun _ _ r h=>by simp[eT.j0] at h
 |k+1=>by
  have ih0:=eT.OH k
  ·intro y0 y1
   unfold eT.j0
   repeat' first|(with_reducible first|exact ih0 ..|exact xC.refl ..|exact xC.none ..|refine xC.ite ?_ ?_|refine xC.bind ?_ (fun _=>?_))|exact ih0 ..
theorem eT.mono : ∀ a0 k,xC (eT.f k a0) (eT.f (k+1) a0):=by
 intro a0 k
 have ih0:=eT.OH k
 unfold eT.f
 repeat' first|(with_reducible first|exact ih0 ..|exact xC.refl ..|exact xC.none ..|refine xC.ite ?_ ?_|refine xC.bind ?_ (fun _=>?_))|exact ih0 ..
theorem eT.calls (k:Nat) (a0 r:Int) (w:World) (h:eT.f k a0=some r) :
  Calls Tryz.prog 219 #[.int .u8 a0] w fun e w'=>e = .returned (.int .i64 r)/\bH w w':=by
 have H:=h;clear h;unfold eT.f at H;replace H:=xE H;rcases H with⟨A2,H⟩|⟨A2,H⟩
 ·obtain rfl:=aI H;go_enter Tryz.func219,Tryz.ntmps219;go_wp2_with(((with_reducible refine cZ 166 rfl ?_);refine mM 5 rfl Tryz.func166 (eH.calls a0 true _ A2.out) fun nd=>?_));go_ret;exact⟨bR,iL⟩
 ·have HC4:=aa.mk H;clear H;go_enter Tryz.func219,Tryz.ntmps219;go_upto_region 3 with(first|((with_reducible refine cZ 166 rfl ?_);refine mM 5 rfl Tryz.func166 (eH.calls a0 false _ A2.out) fun nd=>?_));(try simp only[Act.put,List.setIfInBounds_toArray,List.set_cons_zero,List.set_cons_succ])
  go_cut [9] (fun v9 wc=>∃(kq:Nat) (aqI:Bool),v9 = .bool aqI/\aa (eT.j0 kq a0 aqI=some r)/\aa (kq<=k)/\bH w wc)
  case first=>
   have H:=HC4.out;clear HC4;replace H:=gI H;rcases H with⟨-,jV,-,H⟩|⟨-,jV,-,H⟩
   ·(first|rw[jV]|(simp only[dU,fK];rw[jV])|skip)
    replace H:=aa.mk H;go_wp2;go_meet
    case rel=>exact⟨_,(decide (a0<=102)),bR,H,⟨tT⟩,iL⟩
   ·(first|rw[jV]|(simp only[dU,fK];rw[jV])|skip)
    replace H:=aa.mk H;go_wp2;go_meet
    case rel=>exact⟨_,(false),bR,H,⟨tT⟩,iL⟩
  case rest=>
   clear HC4;obtain⟨kq,aqI,rfl,HA,HJ3,⟨mc3,rfl⟩⟩:=hcut;cases kq with
   |zero=>exact absurd HA.out (by simp[eT.j0])
   |succ kj3=>
    have H:=HA.out;clear HA;simp only[eT.j0] at H;replace H:=gB H;rcases H with⟨rfl,H⟩|⟨rfl,H⟩
    ·obtain rfl:=aI H;go_wp2;go_ret;exact⟨bR,iL⟩
    ·replace H:=gI H;rcases H with⟨-,nR,-,H⟩|⟨-,nR,-,H⟩
     ·replace H:=gI H;rcases H with⟨-,mU,-,H⟩|⟨-,mU,-,H⟩
      ·obtain rfl:=aI H;go_wp2;go_ret;exact⟨bR,iL⟩
      ·obtain rfl:=aI H;go_wp2;go_ret;exact⟨bR,iL⟩
     ·obtain rfl:=aI H;go_wp2;go_ret;exact⟨bR,iL⟩

def kZ.f (a0:Int):Option (Bool):=if a0>=97 then(some (decide (a0<=122))) else(some false)
theorem kZ.calls (a0:Int) (r:Bool) (w:World) (h:kZ.f a0=some r) :
  Calls Tryz.prog 199 #[.int .u8 a0] w fun e w'=>e = .returned (.bool r)/\bH w w':=by
 have H:=aa.mk h;clear h;unfold kZ.f at H;rcases jw H with⟨-,jc,-,H⟩|⟨-,jc,-,H⟩
 ·obtain rfl:=aI H.out;go_enter Tryz.func199,Tryz.ntmps199;go_wp2;go_ret;exact⟨bR,iL⟩
 ·obtain rfl:=aI H.out;go_enter Tryz.func199,Tryz.ntmps199;go_wp2;go_ret;exact⟨bR,iL⟩

def gQ.f (a0:Int):Option (Bool):=(kZ.f a0).bind fun azk=>(if azk=true then(some true) else((lg.f a0).bind fun azl=>(if azl=true then(some true) else((eH.f a0).bind fun azm=>(if azm=true then(some true) else(if a0=96 then(some true) else((strings_IndexByte.f (⟨#[33,35,36,37,38,39,42,43,45,46,94,95,124,126]⟩:af) a0).bind fun aqJ=>(some (decide (aqJ>=0))))))))))
theorem gQ.e0 {p:Prop} (h:p:=by
  obtain rfl:=aI H.out
  go_enter Tryz.func156,Tryz.ntmps156
  go_wp2_with(first|((with_reducible refine cZ 199 rfl ?_);refine mM 4 rfl Tryz.func199 (kZ.calls a0 false _ A2.out) fun nd=>?_)|(go_at_call 130;(with_reducible refine(lg.calls a0 false _ A4.out).mono ?_);rintro e w' ⟨rfl,⟨nd,rfl⟩⟩)|(go_at_call 166;(with_reducible refine(eH.calls a0 false _ A6.out).mono ?_);rintro e w' ⟨rfl,⟨nd,rfl⟩⟩)|(go_at_call 134;(with_reducible refine(strings_IndexByte.calls (⟨#[33,35,36,37,38,39,42,43,45,46,94,95,124,126]⟩:af) a0 aqJ _ A9.out).mono ?_);rintro e w' ⟨rfl,⟨nd,rfl⟩⟩)|(go_at_call 166;(with_reducible refine(eH.calls a0 true _ A6.out).mono ?_);rintro e w' ⟨rfl,⟨nd,rfl⟩⟩)|(go_at_call 130;(with_reducible refine(lg.calls a0 true _ A4.out).mono ?_);rintro e w' ⟨rfl,⟨nd,rfl⟩⟩)|((with_reducible refine cZ 199 rfl ?_);refine mM 4 rfl Tryz.func199 (kZ.calls a0 true _ A2.out) fun nd=>?_))
  go_ret
  exact⟨bR,iL⟩):p:=h
theorem gQ.calls (a0:Int) (r:Bool) (w:World) (h:gQ.f a0=some r) :
  Calls Tryz.prog 156 #[.int .u8 a0] w fun e w'=>e = .returned (.bool r)/\bH w w':=by
 have H:=aa.mk h;clear h;unfold gQ.f at H;rcases lu H with⟨A2,H⟩|⟨A2,H⟩
 ·exact gQ.e0
 ·rcases lu H with⟨A4,H⟩|⟨A4,H⟩
  ·exact gQ.e0
  ·rcases lu H with⟨A6,H⟩|⟨A6,H⟩
   ·exact gQ.e0
   ·rcases jw H with⟨c8,-,-,H⟩|⟨c8,-,-,H⟩
    ·obtain⟨mU,za⟩:=kT c8;clear c8;exact gQ.e0
    ·obtain⟨mU,za⟩:=kU c8;obtain⟨aqJ,A9,H⟩:=nP H;exact gQ.e0

def bT.l0 : Nat->ByteArray->Int->Option (Bool)
 |0,_,_=>none
 |k+1,x0,x5=>if x5<(x0.size:Int) then(if 0<=x5 then((gQ.f (bt x0 x5)).bind fun azn=>(if azn=true then(bT.l0 k x0 (wrap64 (x5+1))) else(some false))) else(none)) else(some true)
def bT.f (k:Nat) (a0:ByteArray)  : Option (Bool):=bT.l0 k a0 0
theorem bT.calls (k:Nat) (a0:ByteArray)  (r:Bool) (w:World) (h:bT.f k a0=some r) :
  Calls Tryz.prog 107 #[.string a0,.func (.func 156) #[] #[]] w fun e w'=>e = .returned (.bool r)/\bH w w':=by
 have H:=aa.mk h;clear h;unfold bT.f at H;go_enter Tryz.func107,Tryz.ntmps107;go_wp2;go_loopg [5] k (fun kq v5 w'=>∃(bu:Int),v5 = .int .i64 bu/\aa (bT.l0 kq a0 bu=some r)/\aa (kq<=k)/\bH w w')
 case atStart=>exact⟨(0),bR,H,⟨Nat.le_refl _⟩,iL⟩
 case round=>
  clear H;obtain⟨bu,rfl,HA,ig,⟨m1,rfl⟩⟩:=hrel;cases gk with
  |zero=>exact absurd HA.out (by simp[bT.l0])
  |succ k1=>
   have H:=HA;clear HA;simp only[bT.l0] at H;rcases jw H with⟨-,cB,-,H⟩|⟨-,cB,-,H⟩
   ·obtain⟨-,jr,-,H⟩:=nZ H;rcases lu H with⟨A6,H⟩|⟨A6,H⟩
    ·have p5:0<=(bu:Int):=ay bM;have q5:bu<(a0.size:Int):=ay bM;have hx5:=bO a0 bu;replace p5:=eq_true p5;replace q5:=eq_true q5;go_wp2_with((go_at_call 156;(with_reducible refine(gQ.calls (bt a0 bu) true _ A6.out).mono ?_);rintro e w' ⟨rfl,⟨nd,rfl⟩⟩));go_roundg k1
     case measure=>have:=ig.out;omega
     case rel=>exact⟨(wrap64 (bu+1)),bR,H,⟨by have:=ig.out;omega⟩,iL⟩
    ·obtain rfl:=aI H.out;have p5:0<=(bu:Int):=ay bM;have q5:bu<(a0.size:Int):=ay bM;have hx5:=bO a0 bu;replace p5:=eq_true p5;replace q5:=eq_true q5;go_wp2_with((go_at_call 156;(with_reducible refine(gQ.calls (bt a0 bu) false _ A6.out).mono ?_);rintro e w' ⟨rfl,⟨nd,rfl⟩⟩));go_ret;exact⟨bR,iL⟩
   ·obtain rfl:=aI H.out;go_wp2;go_ret;exact⟨bR,iL⟩


def lU.f (k:Nat) (a0:ByteArray):Option (Bool):=(bG.f (a0.size:Int) 1 4000).bind fun azo=>(if azo=true then((bT.f k a0).bind fun aqK=>(some aqK)) else(some false))
theorem lU.e0 {p:Prop} (h:p:=by
  obtain rfl:=aI H.out
  go_enter Tryz.func106,Tryz.ntmps106
  go_wp2_with(first|((with_reducible refine cZ 65 rfl ?_);refine mM 5 rfl Tryz.func65 (bG.calls (a0.size:Int) 1 4000 false _ A2.out) fun nd=>?_)|((with_reducible refine cZ 65 rfl ?_);refine mM 5 rfl Tryz.func65 (bG.calls (a0.size:Int) 1 4000 true _ A2.out) fun nd=>?_)|(go_at_call 107;(with_reducible refine(bT.calls k a0  aqK _ A4.out).mono ?_);rintro e w' ⟨rfl,⟨nd,rfl⟩⟩))
  go_ret
  exact⟨bR,iL⟩):p:=h
theorem lU.calls (k:Nat) (a0:ByteArray) (r:Bool) (w:World) (h:lU.f k a0=some r) :
  Calls Tryz.prog 106 #[.string a0] w fun e w'=>e = .returned (.bool r)/\bH w w':=by
 have H:=aa.mk h;clear h;unfold lU.f at H;rcases lu H with⟨A2,H⟩|⟨A2,H⟩
 ·obtain⟨aqK,A4,H⟩:=nP H;exact lU.e0
 ·exact lU.e0

def kC.f (a0:Int):Option (Bool):=if a0=9 then(some true) else(if a0>=32 then(some (a0 != 127)) else(some false))
theorem kC.calls (a0:Int) (r:Bool) (w:World) (h:kC.f a0=some r) :
  Calls Tryz.prog 108 #[.int .u8 a0] w fun e w'=>e = .returned (.bool r)/\bH w w':=by
 have H:=aa.mk h;clear h;unfold kC.f at H;rcases jw H with⟨c2,-,-,H⟩|⟨c2,-,-,H⟩
 ·obtain⟨jc,nD⟩:=kT c2;clear c2;obtain rfl:=aI H.out;go_enter Tryz.func108,Tryz.ntmps108;go_wp2;go_ret;exact⟨bR,iL⟩
 ·obtain⟨jc,nD⟩:=kU c2;rcases jw H with⟨-,cB,-,H⟩|⟨-,cB,-,H⟩
  ·obtain rfl:=aI H.out;go_enter Tryz.func108,Tryz.ntmps108;go_wp2;go_ret;exact⟨bR,iL⟩
  ·obtain rfl:=aI H.out;go_enter Tryz.func108,Tryz.ntmps108;go_wp2;go_ret;exact⟨bR,iL⟩

def bS.l0 : Nat->ByteArray->Int->Option (Bool)
 |0,_,_=>none
 |k+1,x0,x5=>if x5<(x0.size:Int) then(if 0<=x5 then((kC.f (bt x0 x5)).bind fun azp=>(if azp=true then(bS.l0 k x0 (wrap64 (x5+1))) else(some false))) else(none)) else(some true)
def bS.f (k:Nat) (a0:ByteArray)  : Option (Bool):=bS.l0 k a0 0
theorem bS.calls (k:Nat) (a0:ByteArray)  (r:Bool) (w:World) (h:bS.f k a0=some r) :
  Calls Tryz.prog 107 #[.string a0,.func (.func 108) #[] #[]] w fun e w'=>e = .returned (.bool r)/\bH w w':=by
 have H:=aa.mk h;clear h;unfold bS.f at H;go_enter Tryz.func107,Tryz.ntmps107;go_wp2;go_loopg [5] k (fun kq v5 w'=>∃(bu:Int),v5 = .int .i64 bu/\aa (bS.l0 kq a0 bu=some r)/\aa (kq<=k)/\bH w w')
 case atStart=>exact⟨(0),bR,H,⟨Nat.le_refl _⟩,iL⟩
 case round=>
  clear H;obtain⟨bu,rfl,HA,ig,⟨m1,rfl⟩⟩:=hrel;cases gk with
  |zero=>exact absurd HA.out (by simp[bS.l0])
  |succ k1=>
   have H:=HA;clear HA;simp only[bS.l0] at H;rcases jw H with⟨-,cB,-,H⟩|⟨-,cB,-,H⟩
   ·obtain⟨-,jr,-,H⟩:=nZ H;rcases lu H with⟨A6,H⟩|⟨A6,H⟩
    ·have p5:0<=(bu:Int):=ay bM;have q5:bu<(a0.size:Int):=ay bM;have hx5:=bO a0 bu;replace p5:=eq_true p5;replace q5:=eq_true q5;go_wp2_with((go_at_call 108;(with_reducible refine(kC.calls (bt a0 bu) true _ A6.out).mono ?_);rintro e w' ⟨rfl,⟨nd,rfl⟩⟩));go_roundg k1
     case measure=>have:=ig.out;omega
     case rel=>exact⟨(wrap64 (bu+1)),bR,H,⟨by have:=ig.out;omega⟩,iL⟩
    ·obtain rfl:=aI H.out;have p5:0<=(bu:Int):=ay bM;have q5:bu<(a0.size:Int):=ay bM;have hx5:=bO a0 bu;replace p5:=eq_true p5;replace q5:=eq_true q5;go_wp2_with((go_at_call 108;(with_reducible refine(kC.calls (bt a0 bu) false _ A6.out).mono ?_);rintro e w' ⟨rfl,⟨nd,rfl⟩⟩));go_ret;exact⟨bR,iL⟩
   ·obtain rfl:=aI H.out;go_wp2;go_ret;exact⟨bR,iL⟩

def mr.f (a0:Int):Option (Bool):=if a0=32 then(some true) else(some (a0==9))
theorem mr.calls (a0:Int) (r:Bool) (w:World) (h:mr.f a0=some r) :
  Calls Tryz.prog 129 #[.int .u8 a0] w fun e w'=>e = .returned (.bool r)/\bH w w':=by
 have H:=aa.mk h;clear h;unfold mr.f at H;rcases jw H with⟨c2,-,-,H⟩|⟨c2,-,-,H⟩
 ·obtain⟨jc,nD⟩:=kT c2;clear c2;obtain rfl:=aI H.out;go_enter Tryz.func129,Tryz.ntmps129;go_wp2;go_ret;exact⟨bR,iL⟩
 ·obtain⟨jc,nD⟩:=kU c2;obtain rfl:=aI H.out;go_enter Tryz.func129,Tryz.ntmps129;go_wp2;go_ret;exact⟨bR,iL⟩


mutual
def ek.j1 : Nat->ByteArray->Option (ByteArray)
 |0,_=>none
 |k+1,x0=>ek.l1 k x0
def ek.l1 : Nat->ByteArray->Option (ByteArray)
 |0,_=>none
 |k+1,x0=>if x0.toList=([]:aQ) then(some x0) else(if 0<=(wrap64 ((x0.size:Int)-1)) then(if(wrap64 ((x0.size:Int)-1))<(x0.size:Int) then((mr.f (bt x0 (wrap64 ((x0.size:Int)-1)))).bind fun azq=>(if azq=true then(if(wrap64 ((x0.size:Int)-1))<=(x0.size:Int) then(ek.l1 k (x0.extract 0 ((wrap64 ((x0.size:Int)-1)):Int).toNat)) else(none)) else(some x0))) else(none)) else(none))
def ek.l0 : Nat->ByteArray->Option (ByteArray)
 |0,_=>none
 |k+1,x0=>if x0.toList=([]:aQ) then(ek.j1 k x0) else(if 0<(x0.size:Int) then((mr.f (bt x0 0)).bind fun azr=>(if azr=true then(if 1<=(x0.size:Int) then(ek.l0 k (x0.extract 1 x0.size)) else(none)) else(ek.j1 k x0))) else(none))
end
def ek.f (k:Nat) (a0:ByteArray):Option (ByteArray):=ek.l0 k a0
theorem ek.calls (k:Nat) (a0 r:ByteArray) (w:World) (h:ek.f k a0=some r) :
  Calls Tryz.prog 87 #[.string a0] w fun e w'=>e = .returned (.string r)/\bH w w':=by
 have H:=aa.mk h;clear h;unfold ek.f at H;have qz:=H;clear H;go_enter Tryz.func87,Tryz.ntmps87;go_upto_block 0 with(fail);go_cut [0] (fun v0 wc=>∃(kq:Nat) (qU:ByteArray),v0 = .string qU/\aa (ek.j1 kq qU=some r)/\aa (kq<=k)/\bH w wc)
 case first=>
  have H:=qz;clear qz;go_wp2;go_loopg [0] k (fun kq v0 w'=>∃(qU:ByteArray),v0 = .string qU/\aa (ek.l0 kq qU=some r)/\aa (kq<=k)/\bH w w')
  case atStart=>exact⟨(a0),bR,H,⟨Nat.le_refl _⟩,iL⟩
  case round=>
   clear H;obtain⟨qU,rfl,HA,ig,⟨m1,rfl⟩⟩:=hrel;cases gk with
   |zero=>exact absurd HA.out (by simp[ek.l0])
   |succ k1=>
    have H:=HA;clear HA;simp only[ek.l0] at H;rcases jw H with⟨c3,-,-,H⟩|⟨c3,-,-,H⟩
    ·have cB:(qU.toList==([]:aQ))=true:=beq_iff_eq.mpr c3;have ZM:qU.toList.isEmpty=true:=List.isEmpty_iff.mpr c3;have nE:(qU.toList != ([]:aQ))=false:=bne_eq_false_iff_eq.mpr c3;clear c3;(first|rw[cB]|rw[ZM]|(simp only[dU,fK];rw[cB])|skip)
     go_wp2;go_meet
     case rel=>exact⟨_,(qU),bR,H,⟨Md⟩,iL⟩
    ·have cB:(qU.toList==([]:aQ))=false:=beq_eq_false_iff_ne.mpr c3;have ZM:qU.toList.isEmpty=false:=Bool.eq_false_iff.mpr (fun h_=>c3 (List.isEmpty_iff.mp h_));have nE:(qU.toList != ([]:aQ))=true:=bne_iff_ne.mpr c3;(first|rw[cB]|rw[ZM]|(simp only[dU,fK];rw[cB])|skip)
     obtain⟨c4,jr,-,H⟩:=nZ H;have qy:decide (0<qU.size)=true:=bK ae;clear c4;rcases lu H with⟨A6,H⟩|⟨A6,H⟩
     ·obtain⟨-,za,mU,H⟩:=nZ H;have p5:0<=(0:Int):=ae;have q5:0<qU.size:=(by have:(0:Int)<(qU.size:Int):=ay bM;omega);have hx5:∀ h:0<qU.size,((qU[0]'h).toNat:Int)=bt qU 0:=bO qU 0;clear p5;have qi5:(0<(qU.size:Int))=True:=eq_true (ay bM);replace q5:=eq_true q5;go_wp2_with((go_at_call 129;(with_reducible refine(mr.calls (bt qU 0) true _ A6.out).mono ?_);rintro e w' ⟨rfl,⟨nd,rfl⟩⟩));go_roundg k1
      case measure=>have:=ig.out;omega
      case rel=>exact⟨(qU.extract 1 qU.size),bR,H,⟨by have:=ig.out;omega⟩,iL⟩
     ·have p5:0<=(0:Int):=ae;have q5:0<qU.size:=(by have:(0:Int)<(qU.size:Int):=ay bM;omega);have hx5:∀ h:0<qU.size,((qU[0]'h).toNat:Int)=bt qU 0:=bO qU 0;clear p5;have qi5:(0<(qU.size:Int))=True:=eq_true (ay bM);replace q5:=eq_true q5;go_wp2_with((go_at_call 129;(with_reducible refine(mr.calls (bt qU 0) false _ A6.out).mono ?_);rintro e w' ⟨rfl,⟨nd,rfl⟩⟩));go_meet
      case rel=>exact⟨_,(qU),bR,H,⟨Md⟩,iL⟩
 case rest=>
  clear qz;obtain⟨kq,qU,rfl,HA,tC,⟨mc1,rfl⟩⟩:=hcut;cases kq with
  |zero=>exact absurd HA.out (by simp[ek.j1])
  |succ oz=>
   have H:=HA;clear HA;simp only[ek.j1] at H;go_wp2;go_loopg [0] oz (fun kq v0 w'=>∃(MH:ByteArray),v0 = .string MH/\aa (ek.l1 kq MH=some r)/\aa (kq<=oz)/\bH w w')
   case atStart=>exact⟨(qU),bR,H,⟨Nat.le_refl _⟩,iL⟩
   case round=>
    clear H;obtain⟨MH,rfl,HA,tO,⟨m2,rfl⟩⟩:=hrel;cases gk with
    |zero=>exact absurd HA.out (by simp[ek.l1])
    |succ k2=>
     have H:=HA;clear HA;simp only[ek.l1] at H;rcases jw H with⟨c9,-,-,H⟩|⟨c9,-,-,H⟩
     ·obtain⟨pg,xy⟩:=kT c9;clear c9;obtain rfl:=aI H.out;go_wp2;go_ret;exact⟨bR,iL⟩
     ·obtain⟨pg,xy⟩:=kU c9;obtain⟨OI,Xh⟩:∃ j_:Int,(wrap64 ((MH.size:Int)-1))=j_:=⟨_,rfl⟩;(first|rw[Xh] at H|simp only[Xh] at H ⊢)
      have azs:(IntKind.i64.wrap ((MH.size:Int)-1))=OI:=(dU _).trans Xh;rcases jw H with⟨-,oV,-,H⟩|⟨c11,-,-,H⟩
      ·obtain⟨-,nS,-,H⟩:=nZ H;rcases lu H with⟨A14,H⟩|⟨A14,H⟩
       ·have sS:=eq_true (ay bM:0<=(OI));obtain⟨-,Az,sP,H⟩:=nZ H;have p13:0<=((OI):Int):=ay bM;have q13:(OI)<(MH.size:Int):=ay bM;have azt:=bO MH (OI);replace p13:=eq_true p13;replace q13:=eq_true q13;go_wp2_with((go_at_call 129;(with_reducible refine(mr.calls (bt MH (OI)) true _ A14.out).mono ?_);rintro e w' ⟨rfl,⟨nd,rfl⟩⟩));go_roundg k2
        case measure=>have:=tC.out;have:=tO.out;omega
        case rel=>exact⟨(MH.extract 0 ((OI):Int).toNat),(by first|rfl|(simp;done)|(simp only[<- Xh] <;> (first|rfl|simp))|(simp[*];done)),H,⟨Fj⟩,iL⟩
       ·obtain rfl:=aI H.out;have p13:0<=((OI):Int):=ay bM;have q13:(OI)<(MH.size:Int):=ay bM;have azt:=bO MH (OI);replace p13:=eq_true p13;replace q13:=eq_true q13;go_wp2_with((go_at_call 129;(with_reducible refine(mr.calls (bt MH (OI)) false _ A14.out).mono ?_);rintro e w' ⟨rfl,⟨nd,rfl⟩⟩));go_ret;exact⟨by first|rfl|(simp;done)|(simp only[<- Xh] <;> (first|rfl|simp))|(simp[*];done),iL⟩
      ·exact absurd H.out (by simp)

def om.f (a0:ByteArray) (a1:ByteArray):Option (Bool):=(jF.f a0).bind fun aqL=>((jF.f a1).bind fun aqM=>(some (aqL.toList==aqM.toList)))
theorem om.calls (a0 a1:ByteArray) (r:Bool) (w:World) (h:om.f a0 a1=some r) :
  Calls Tryz.prog 131 #[.string a0,.string a1] w fun e w'=>e = .returned (.bool r)/\Below w.heap.size w w':=by
 have HB:=aa.mk (Below.refl w.heap.size w);have H:=aa.mk h;clear h;unfold om.f at H;obtain⟨aqL,A3,H⟩:=nP H;obtain⟨aqM,A4,H⟩:=nP H;obtain rfl:=aI H.out;go_enter Tryz.func131,Tryz.ntmps131;go_wp2_with(first|((with_reducible refine cZ 89 rfl ?_);refine iW 6 rfl Tryz.func89 (jF.calls a0 aqL _ A3.out) fun w5 hb HB=>?_;clear hb)|((with_reducible refine cZ 89 rfl ?_);refine iW 8 rfl Tryz.func89 (jF.calls a1 aqM _ A4.out) fun w6 hb HB=>?_;clear hb));go_ret;exact⟨jv,aX⟩


def dM.l0 : Nat->ByteArray->Int->Option (Bool)
 |0,_,_=>none
 |k+1,x0,x5=>if x5<(x0.size:Int) then(if 0<=x5 then((eH.f (bt x0 x5)).bind fun auy=>(if auy=true then(dM.l0 k x0 (wrap64 (x5+1))) else(some false))) else(none)) else(some true)
def dM.f (k:Nat) (a0:ByteArray)  : Option (Bool):=dM.l0 k a0 0
theorem dM.calls (k:Nat) (a0:ByteArray)  (r:Bool) (w:World) (h:dM.f k a0=some r) :
  Calls Tryz.prog 107 #[.string a0,.func (.func 166) #[] #[]] w fun e w'=>e = .returned (.bool r)/\bH w w':=by
 have H:=aa.mk h;clear h;unfold dM.f at H;go_enter Tryz.func107,Tryz.ntmps107;go_wp2;go_loopg [5] k (fun kq v5 w'=>∃(bu:Int),v5 = .int .i64 bu/\aa (dM.l0 kq a0 bu=some r)/\aa (kq<=k)/\bH w w')
 case atStart=>exact⟨(0),bR,H,⟨Nat.le_refl _⟩,iL⟩
 case round=>
  clear H;obtain⟨bu,rfl,HA,ig,⟨m1,rfl⟩⟩:=hrel;cases gk with
  |zero=>exact absurd HA.out (by simp[dM.l0])
  |succ k1=>
   have H:=HA;clear HA;simp only[dM.l0] at H;rcases jw H with⟨-,cB,-,H⟩|⟨-,cB,-,H⟩
   ·obtain⟨-,jr,-,H⟩:=nZ H;rcases lu H with⟨A6,H⟩|⟨A6,H⟩
    ·have p5:0<=(bu:Int):=ay bM;have q5:bu<(a0.size:Int):=ay bM;have hx5:=bO a0 bu;replace p5:=eq_true p5;replace q5:=eq_true q5;go_wp2_with((go_at_call 166;(with_reducible refine(eH.calls (bt a0 bu) true _ A6.out).mono ?_);rintro e w' ⟨rfl,⟨nd,rfl⟩⟩));go_roundg k1
     case measure=>have:=ig.out;omega
     case rel=>exact⟨(wrap64 (bu+1)),bR,H,⟨by have:=ig.out;omega⟩,iL⟩
    ·obtain rfl:=aI H.out;have p5:0<=(bu:Int):=ay bM;have q5:bu<(a0.size:Int):=ay bM;have hx5:=bO a0 bu;replace p5:=eq_true p5;replace q5:=eq_true q5;go_wp2_with((go_at_call 166;(with_reducible refine(eH.calls (bt a0 bu) false _ A6.out).mono ?_);rintro e w' ⟨rfl,⟨nd,rfl⟩⟩));go_ret;exact⟨bR,iL⟩
   ·obtain rfl:=aI H.out;go_wp2;go_ret;exact⟨bR,iL⟩


mutual
def dX.j0 : Nat->ByteArray->Bool->Option (ByteArray×Bool)
 |0,_,_=>none
 |k+1,x0,x22=>if x22=true then(some ((⟨#[]⟩:af),false)) else(if 1<=(wrap64 ((x0.size:Int)-1)) then(if(wrap64 ((x0.size:Int)-1))<=(x0.size:Int) then(dX.l0 k (x0.extract 1 ((wrap64 ((x0.size:Int)-1)):Int).toNat) ([]:List Int) 0) else(none)) else(none))
def dX.l0 : Nat->ByteArray->List Int->Int->Option (ByteArray×Bool)
 |0,_,_,_=>none
 |k+1,x4,x5,x6=>if x6<(x4.size:Int) then(if 0<=x6 then(if(bt x4 x6)=34 then(some ((⟨#[]⟩:af),false)) else(if(bt x4 x6)=92 then(if(wrap64 (x6+1))=(x4.size:Int) then(some ((⟨#[]⟩:af),false)) else(if 0<=(wrap64 (x6+1)) then(if(wrap64 (x6+1))<(x4.size:Int) then((kC.f (bt x4 (wrap64 (x6+1)))).bind fun auz=>(if auz=true then(if x5.length<140737488355328 then(dX.l0 k x4 (x5 ++ [bt x4 (wrap64 (x6+1))]) (wrap64 ((wrap64 (x6+1))+1))) else(none)) else(some ((⟨#[]⟩:af),false)))) else(none)) else(none))) else(if x6=(x4.size:Int) then(some ((⟨#[]⟩:af),false)) else((kC.f (bt x4 x6)).bind fun auA=>(if auA=true then(if x5.length<140737488355328 then(dX.l0 k x4 (x5 ++ [bt x4 x6]) (wrap64 (x6+1))) else(none)) else(some ((⟨#[]⟩:af),false))))))) else(none)) else(if(x5.length:Int)>4000 then(some ((⟨#[]⟩:af),false)) else(some (strOfNums x5,true)))
end
def dX.f (k:Nat) (a0:ByteArray):Option (ByteArray×Bool):=if(a0.size:Int)<2 then(dX.j0 k a0 true) else(if 0<(a0.size:Int) then(if(bt a0 0)=34 then(if 0<=(wrap64 ((a0.size:Int)-1)) then(if(wrap64 ((a0.size:Int)-1))<(a0.size:Int) then(dX.j0 k a0 ((bt a0 (wrap64 ((a0.size:Int)-1))) != 34)) else(none)) else(none)) else(dX.j0 k a0 true)) else(none))
theorem dX.calls (k:Nat) (a0 r1:ByteArray) (r2:Bool) (w:World) (h:dX.f k a0=some (r1,r2)) :
  Calls Tryz.prog 88 #[.string a0] w fun e w'=>e = .returned (.tuple #[.string r1,.bool r2])/\Below w.heap.size w w':=by
 have HB:=aa.mk (Below.refl w.heap.size w);have H:=h;clear h;unfold dX.f at H;have qz:=aa.mk H;clear H;go_enter Tryz.func88,Tryz.ntmps88;go_upto_region 1 with(fail);go_cut [22] (fun v22 wc=>∃(kq:Nat) (agW:Bool),v22 = .bool agW/\aa (dX.j0 kq a0 agW=some (r1,r2))/\aa (kq<=k)/\aa (Below w.heap.size w wc))
 case first=>
  have H:=qz.out;clear qz;replace H:=gI H;rcases H with⟨c3,cB,-,H⟩|⟨c3,cB,-,H⟩
  ·have nE:decide (a0.size<2)=true:=bK ae;clear c3;(first|rw[cB]|(simp only[dU,fK];rw[cB])|skip)
   replace H:=aa.mk H;go_wp2;go_meet
   case rel=>exact⟨_,(true),bR,H,⟨tT⟩,⟨aX⟩⟩
  ·have nE:decide (a0.size<2)=false:=bQ ae;clear c3;(first|rw[cB]|(simp only[dU,fK];rw[cB])|skip)
   replace H:=gN H;obtain⟨c4,jr,-,H⟩:=H;have qy:decide (0<a0.size)=true:=bK ae;clear c4;replace H:=gI H;rcases H with⟨c6,-,-,H⟩|⟨c6,-,-,H⟩
   ·obtain⟨jy,pq⟩:=kT c6;clear c6;obtain⟨ji7,Eg⟩:∃ j_:Int,(wrap64 ((a0.size:Int)-1))=j_:=⟨_,rfl⟩;(first|rw[Eg] at H|simp only[Eg] at H ⊢)
    have aow:(IntKind.i64.wrap ((a0.size:Int)-1))=ji7:=(dU _).trans Eg;replace H:=gN H;obtain⟨-,mU,-,H⟩:=H;replace H:=gN H;obtain⟨-,pg,-,H⟩:=H;replace H:=aa.mk H;have p5:0<=(0:Int):=ae;have q5:0<a0.size:=(by have:(0:Int)<(a0.size:Int):=ay bM;omega);have hx5:∀ h:0<a0.size,((a0[0]'h).toNat:Int)=bt a0 0:=bO a0 0;clear p5;have qi5:(0<(a0.size:Int))=True:=eq_true (ay bM);replace q5:=eq_true q5;have p10:0<=((ji7):Int):=ay bM;have q10:(ji7)<(a0.size:Int):=ay bM;have auB:=bO a0 (ji7);replace p10:=eq_true p10;replace q10:=eq_true q10;go_wp2;go_meet
    case rel=>exact⟨_,(((bt a0 (ji7)) != 34)),(by first|rfl|(simp;done)|(simp only[<- Eg] <;> (first|rfl|simp))|(simp[*];done)),H,⟨tT⟩,⟨aX⟩⟩
   ·obtain⟨jy,pq⟩:=kU c6;replace H:=aa.mk H;have p5:0<=(0:Int):=ae;have q5:0<a0.size:=(by have:(0:Int)<(a0.size:Int):=ay bM;omega);have hx5:∀ h:0<a0.size,((a0[0]'h).toNat:Int)=bt a0 0:=bO a0 0;clear p5;have qi5:(0<(a0.size:Int))=True:=eq_true (ay bM);replace q5:=eq_true q5;go_wp2;go_meet
    case rel=>exact⟨_,(true),bR,H,⟨tT⟩,⟨aX⟩⟩
 case rest=>
  clear qz;obtain⟨kq,agW,rfl,HA,tC,HB⟩:=hcut;cases kq with
  |zero=>exact absurd HA.out (by simp[dX.j0])
  |succ oz=>
   have H:=HA.out;clear HA;simp only[dX.j0] at H;replace H:=gB H;rcases H with⟨rfl,H⟩|⟨rfl,H⟩
   ·simp only[Option.some.injEq,Prod.mk.injEq] at H;obtain⟨rfl,rfl⟩:=H;go_wp2;go_ret2;exact⟨jv,aX⟩
   ·replace H:=gI H;rcases H with⟨-,yH,nS,H⟩|⟨c12,-,-,H⟩
    ·replace H:=gN H;obtain⟨-,wo,qG,H⟩:=H;replace H:=aa.mk H;go_wp2;generalize(a0.extract 1 ((wrap64 ((a0.size:Int)-1)):Int).toNat)=oC at H ⊢;go_loopg [5,6] oz (fun kq v5 v6 w'=>∃(iU:List Int) (fA:Int),v6 = .int .i64 fA/\aa (dX.l0 kq oC iU fA=some (r1,r2))/\aa (kq<=oz)/\aa (Kd.R (Kd.int .u8) 5 w' w.heap.size (fun _=>True) v5 iU)/\aa (Below w.heap.size w w'))
     case atStart=>exact⟨(([]:List Int)),(0),bR,H,⟨Nat.le_refl _⟩,⟨Hz⟩,⟨aX⟩⟩
     case round=>
      clear H;try clear c12
      try clear nS
      try clear yH
      try clear qG
      try clear wo
      obtain⟨iU,fA,rfl,HA,tO,ow,HB⟩:=hrel;cases gk with
      |zero=>exact absurd HA.out (by simp[dX.l0])
      |succ k2=>
       have H:=HA.out;clear HA;simp only[dX.l0] at H;replace H:=gI H;rcases H with⟨-,wu,-,H⟩|⟨-,wu,-,H⟩
       ·replace H:=gN H;obtain⟨-,sQ,-,H⟩:=H;replace H:=gI H;rcases H with⟨c17,-,-,H⟩|⟨c17,-,-,H⟩
        ·obtain⟨sP,Az⟩:=kT c17;clear c17;simp only[Option.some.injEq,Prod.mk.injEq] at H;obtain⟨rfl,rfl⟩:=H;have p16:0<=(fA:Int):=ay bM;have q16:fA<(oC.size:Int):=ay bM;have hx16:=bO oC fA;replace p16:=eq_true p16;replace q16:=eq_true q16;go_wp2;go_ret2;exact⟨jv,aX⟩
        ·obtain⟨sP,Az⟩:=kU c17;replace H:=gI H;rcases H with⟨c19,-,-,H⟩|⟨c19,-,-,H⟩
         ·obtain⟨yG,Eh⟩:=kT c19;clear c19;replace H:=gI H;rcases H with⟨c20,-,-,H⟩|⟨c20,-,-,H⟩
          ·obtain⟨uu,Dl⟩:=kT c20;clear c20;simp only[Option.some.injEq,Prod.mk.injEq] at H;obtain⟨rfl,rfl⟩:=H;have p16:0<=(fA:Int):=ay bM;have q16:fA<(oC.size:Int):=ay bM;have hx16:=bO oC fA;replace p16:=eq_true p16;replace q16:=eq_true q16;have Xi:0<=(fA:Int):=ay bM;have Xj:fA<(oC.size:Int):=ay bM;have agX:=bO oC fA;replace Xi:=eq_true Xi;replace Xj:=eq_true Xj;go_wp2;go_ret2;exact⟨jv,aX⟩
          ·obtain⟨uu,Dl⟩:=kU c20;obtain⟨Ei,OJ⟩:∃ j_:Int,(wrap64 (fA+1))=j_:=⟨_,rfl⟩;(first|rw[OJ] at H|simp only[OJ] at H ⊢)
           (try rw[OJ] at uu)
           (try rw[OJ] at Dl)
           have azu:(IntKind.i64.wrap (fA+1))=Ei:=(dU _).trans OJ;replace H:=gN H;obtain⟨-,Lg,-,H⟩:=H;replace H:=gN H;obtain⟨-,Le,-,H⟩:=H;replace H:=xE H;rcases H with⟨UD,H⟩|⟨UD,H⟩
           ·replace H:=gN H;obtain⟨c28,-,-,H⟩:=H;have auC:=aa.mk c28;clear c28;obtain⟨aox,OL⟩:∃ y_:List Int,y_=(iU ++ [bt oC (Ei)]):=⟨_,rfl⟩;replace H:(dX.l0 k2 oC aox (wrap64 ((Ei)+1)))=some (r1,r2):=by first|(rw[OL];with_reducible exact H)|(have kP:=(ax _ _).symm.trans H;rw[OL];with_reducible exact kP)|(have kP:=(ax _ _).symm.trans H;with_reducible exact kP)|with_reducible exact H|(rw[OL];exact H)|exact H
            have aqN:=aa.mk OL;clear OL;replace H:=aa.mk H;have p16:0<=(fA:Int):=ay bM;have q16:fA<(oC.size:Int):=ay bM;have hx16:=bO oC fA;replace p16:=eq_true p16;replace q16:=eq_true q16;have Xi:0<=(fA:Int):=ay bM;have Xj:fA<(oC.size:Int):=ay bM;have agX:=bO oC fA;replace Xi:=eq_true Xi;replace Xj:=eq_true Xj;have p24:0<=((Ei):Int):=ay bM;have q24:(Ei)<(oC.size:Int):=ay bM;have hx24:=bO oC (Ei);replace p24:=eq_true p24;replace q24:=eq_true q24;go_wp2_with(first|(go_at_call 108;(with_reducible refine(kC.calls (bt oC (Ei)) true _ UD.out).mono ?_);rintro e w' ⟨rfl,⟨nd,rfl⟩⟩;have p27:0<=((Ei):Int):=ay bM;have q27:(Ei)<(oC.size:Int):=ay bM;have hx27:=bO oC (Ei);replace p27:=eq_true p27;replace q27:=eq_true q27)|((with_reducible refine fO (b:=.append) (xs:=#[.tmp 55,.tmp 59]) rfl ?_);(try(refine kK (by rfl) ?_;dsimp only));at_builtin;refine Kd.kJ (Kd.int .u8) (w0:=w) w.heap.size rfl (.tmp 55) (.tmp 59) 100 5 (.int .u8 0) 1 rfl Tryz.underlying100 info5 rfl aA ae u5 iU (bt oC (Ei)) [.int .u8 (bt oC (Ei))] (fun _=>True) (fun _=>False) rfl rfl ?aP (fun _ hk=>hk.elim) ?aF ?aO ?aB ?aS ?aL ?_;(case aP=>exact rfl);(case aB=>exact aX);(case aF=>exact(fun _ _=>trivial));(case aO=>exact Mc);(case aS=>exact(aN aX));(case aL=>have:=auC.out;omega);intro aC3 w29 ho hb hg hat;rw[<- aqN.out] at ho;have kR:=aa.mk (hb);have lF:=aa.mk (ho);clear HB;clear ow;have HB:=kR;have azv:=lF;clear kR lF;clear ho hb hg hat));go_roundg k2
            case measure=>have:=tC.out;have:=tO.out;omega
            case rel=>exact⟨(aox),(wrap64 ((Ei)+1)),(by first|rfl|(simp;done)|(simp only[<- OJ] <;> (first|rfl|simp))|(simp[*];done)),H,⟨Fj⟩,⟨qE⟩,⟨aX⟩⟩
           ·simp only[Option.some.injEq,Prod.mk.injEq] at H;obtain⟨rfl,rfl⟩:=H;have p16:0<=(fA:Int):=ay bM;have q16:fA<(oC.size:Int):=ay bM;have hx16:=bO oC fA;replace p16:=eq_true p16;replace q16:=eq_true q16;have Xi:0<=(fA:Int):=ay bM;have Xj:fA<(oC.size:Int):=ay bM;have agX:=bO oC fA;replace Xi:=eq_true Xi;replace Xj:=eq_true Xj;have p24:0<=((Ei):Int):=ay bM;have q24:(Ei)<(oC.size:Int):=ay bM;have hx24:=bO oC (Ei);replace p24:=eq_true p24;replace q24:=eq_true q24;go_wp2_with(first|(go_at_call 108;(with_reducible refine(kC.calls (bt oC (Ei)) false _ UD.out).mono ?_);rintro e w' ⟨rfl,⟨nd,rfl⟩⟩));go_ret2;exact⟨by first|rfl|(simp[dP,dQ] <;> rfl)|(simp only[<- OJ];first|rfl|(simp[dP,dQ] <;> rfl))|(simp[*,dP,dQ] <;> rfl),aX⟩
         ·obtain⟨yG,Eh⟩:=kU c19;replace H:=gI H;rcases H with⟨QT,-,-,H⟩|⟨QT,-,-,H⟩
          ·obtain⟨IY,Lh⟩:=kT QT;clear QT;simp only[Option.some.injEq,Prod.mk.injEq] at H;obtain⟨rfl,rfl⟩:=H;have p16:0<=(fA:Int):=ay bM;have q16:fA<(oC.size:Int):=ay bM;have hx16:=bO oC fA;replace p16:=eq_true p16;replace q16:=eq_true q16;have Xi:0<=(fA:Int):=ay bM;have Xj:fA<(oC.size:Int):=ay bM;have agX:=bO oC fA;replace Xi:=eq_true Xi;replace Xj:=eq_true Xj;go_wp2;go_ret2;exact⟨jv,aX⟩
          ·obtain⟨IY,Lh⟩:=kU QT;replace H:=xE H;rcases H with⟨A32,H⟩|⟨A32,H⟩
           ·replace H:=gN H;obtain⟨c35,-,-,H⟩:=H;have agY:=aa.mk c35;clear c35;obtain⟨aoy,OM⟩:∃ y_:List Int,y_=(iU ++ [bt oC fA]):=⟨_,rfl⟩;replace H:(dX.l0 k2 oC aoy (wrap64 (fA+1)))=some (r1,r2):=by first|(rw[OM];with_reducible exact H)|(have kP:=(ax _ _).symm.trans H;rw[OM];with_reducible exact kP)|(have kP:=(ax _ _).symm.trans H;with_reducible exact kP)|with_reducible exact H|(rw[OM];exact H)|exact H
            have aqO:=aa.mk OM;clear OM;replace H:=aa.mk H;have p16:0<=(fA:Int):=ay bM;have q16:fA<(oC.size:Int):=ay bM;have hx16:=bO oC fA;replace p16:=eq_true p16;replace q16:=eq_true q16;have Xi:0<=(fA:Int):=ay bM;have Xj:fA<(oC.size:Int):=ay bM;have agX:=bO oC fA;replace Xi:=eq_true Xi;replace Xj:=eq_true Xj;have p31:0<=(fA:Int):=ay bM;have q31:fA<(oC.size:Int):=ay bM;have hx31:=bO oC fA;replace p31:=eq_true p31;replace q31:=eq_true q31;go_wp2_with(first|(go_at_call 108;(with_reducible refine(kC.calls (bt oC fA) true _ A32.out).mono ?_);rintro e w' ⟨rfl,⟨nd,rfl⟩⟩;have p34:0<=(fA:Int):=ay bM;have q34:fA<(oC.size:Int):=ay bM;have hx34:=bO oC fA;replace p34:=eq_true p34;replace q34:=eq_true q34)|((with_reducible refine fO (b:=.append) (xs:=#[.tmp 55,.tmp 59]) rfl ?_);(try(refine kK (by rfl) ?_;dsimp only));at_builtin;refine Kd.kJ (Kd.int .u8) (w0:=w) w.heap.size rfl (.tmp 55) (.tmp 59) 100 5 (.int .u8 0) 1 rfl Tryz.underlying100 info5 rfl aA ae u5 iU (bt oC fA) [.int .u8 (bt oC fA)] (fun _=>True) (fun _=>False) rfl rfl ?aP (fun _ hk=>hk.elim) ?aF ?aO ?aB ?aS ?aL ?_;(case aP=>exact rfl);(case aB=>exact aX);(case aF=>exact(fun _ _=>trivial));(case aO=>exact Mc);(case aS=>exact(aN aX));(case aL=>have:=agY.out;omega);intro aC4 w36 ho hb hg hat;rw[<- aqO.out] at ho;have kR:=aa.mk (hb);have lF:=aa.mk (ho);clear HB;clear ow;have HB:=kR;have azw:=lF;clear kR lF;clear ho hb hg hat));go_roundg k2
            case measure=>have:=tC.out;have:=tO.out;omega
            case rel=>exact⟨(aoy),(wrap64 (fA+1)),bR,H,⟨Fj⟩,⟨qE⟩,⟨aX⟩⟩
           ·simp only[Option.some.injEq,Prod.mk.injEq] at H;obtain⟨rfl,rfl⟩:=H;have p16:0<=(fA:Int):=ay bM;have q16:fA<(oC.size:Int):=ay bM;have hx16:=bO oC fA;replace p16:=eq_true p16;replace q16:=eq_true q16;have Xi:0<=(fA:Int):=ay bM;have Xj:fA<(oC.size:Int):=ay bM;have agX:=bO oC fA;replace Xi:=eq_true Xi;replace Xj:=eq_true Xj;have p31:0<=(fA:Int):=ay bM;have q31:fA<(oC.size:Int):=ay bM;have hx31:=bO oC fA;replace p31:=eq_true p31;replace q31:=eq_true q31;go_wp2_with(first|(go_at_call 108;(with_reducible refine(kC.calls (bt oC fA) false _ A32.out).mono ?_);rintro e w' ⟨rfl,⟨nd,rfl⟩⟩));go_ret2;exact⟨jv,aX⟩
       ·replace H:=gI H;rcases H with⟨c37,-,-,H⟩|⟨c37,-,-,H⟩
        ·have Xk:decide (4000<(iU.length:Int))=true:=bK c37;have abI:decide (4000<iU.length)=true:=bK ae;clear c37;simp only[Option.some.injEq,Prod.mk.injEq] at H;obtain⟨rfl,rfl⟩:=H;obtain⟨auD,auE,aec⟩:=Kd.eD ow.out;subst aec;go_wp2;go_ret2;exact⟨jv,aX⟩
        ·have Xk:decide (4000<(iU.length:Int))=false:=bQ c37;have abI:decide (4000<iU.length)=false:=bQ ae;clear c37;simp only[Option.some.injEq,Prod.mk.injEq] at H;obtain⟨rfl,rfl⟩:=H;obtain⟨auF,auG,aed⟩:=Kd.eD ow.out;subst aed;have auH:=sJ (P:=Tryz.prog) Tryz.underlying100 Tryz.underlying5 Tryz.underlying9 (Kd.vH ow.out);go_wp2;go_ret2;exact⟨jv,aX⟩
    ·exact absurd H (by simp)


theorem I8 (k:Nat) (el t:ByteArray) (B:Nat) (v:Value) (xs:List ByteArray) (w w0:World) (base:Nat) (ht:ek.f k el=some t)
  (hbox:w.heap[B]? = some (.cells #[v] 76 (0,0))) (hR:Kd.R Kd.string 9 w base (fun k_=>k_≠B) v xs) (hbel:Below base w0 w) (hbase:base<=B) (hlen:xs.length<8796093022208) :
  Calls Tryz.prog 168 #[.string el,.pointer (some ⟨B,0,none⟩)] w fun e w'=>∃ v',e = .returned (.tuple #[])/\w'.heap[B]? = some (.cells #[v'] 76 (0,0))/\
   Kd.R Kd.string 9 w' base (fun k_=>k_≠B) v' (Ca xs t)/\Below base w0 w':=by
 obtain⟨A0,c0,rfl⟩:=eD hR
 have hBlt:=vG hbox
 have A:=aa.mk ht
 have Hbox:=aa.mk hbox
 have HR:=aa.mk hR
 have HB:=aa.mk hbel
 clear ht hR hbel
 by_cases he:t.toList=([]:aQ)
 ·have c1:(t.toList==([]:aQ))=true:=beq_iff_eq.mpr he
  have c2:(t.toList != ([]:aQ))=false:=bne_eq_false_iff_eq.mpr he
  rw[show Ca xs t=xs from if_pos he]
  clear he hbox
  go_enter Tryz.func168,Tryz.ntmps168
  go_wp2_with(go_at_call 87;refine(ek.calls k el t _ A.out).mono ?_;rintro e w' ⟨rfl,⟨nd,rfl⟩⟩)
  first|go_end0|((try simp only[Exit.inBlock,Exit.then]);refine bodyPost_ret (results_none rfl _ _ _) rfl ?_)
  exact⟨_,rfl,Hbox.out,by(with_reducible repeat(first|apply Kd.cK|apply Kd.cz|apply Kd.dB));exact HR.out,aX⟩
 ·have c1:(t.toList==([]:aQ))=false:=beq_eq_false_iff_ne.mpr he
  have c2:(t.toList != ([]:aQ))=true:=bne_iff_ne.mpr he
  rw[show Ca xs t=xs ++ [t] from if_neg he]
  clear he
  have hcell:w.cell? ⟨B,0,none⟩=some (.slice A0 xs.length c0):=by rw[cell_of_row w B 0 _ _ _ hbox];rfl
  clear hbox
  go_enter Tryz.func168,Tryz.ntmps168
  go_wp2_with(first|(go_at_call 87;refine(ek.calls k el t _ A.out).mono ?_;rintro e w' ⟨rfl,⟨nd,rfl⟩⟩)|((with_reducible refine fO (b:=.append) (xs:=#[.tmp 7,.tmp 9]) rfl ?_);(try(refine kK (by rfl) ?_;dsimp only));at_builtin;refine Kd.kJ Kd.string (w0:=w0) base rfl (.tmp 7) (.tmp 9) 76 9 (.string ⟨#[]⟩) 16 rfl Tryz.underlying76 Bg rfl aA ae (.slice A0 xs.length c0) xs t [.string t] (fun k_=>k_≠B) (fun _=>False) rfl rfl ?aP (fun _ hk=>hk.elim) ?aF ?aO ?aB ?aS ?aL ?_;(case aP=>exact rfl);(case aF=>intro k_ hk e_;subst e_;simp at hk;omega);(case aO=>exact(by(with_reducible repeat(first|apply Kd.cK|apply Kd.cz|apply Kd.dB));exact HR.out));(case aB=>exact aX);(case aS=>simp;omega);(case aL=>omega);intro v1 w1 ho hb hg hat;obtain⟨⟨A1_,c1_,rfl⟩,hb1,hcell1,azx⟩:=adk Hbox.out HR.out nd hg ho;have Hb1:=aa.mk hb1;have Ho:=aa.mk ho;have Hb:=aa.mk hb;clear hb1 ho hb hg hat))
  first|go_end0|((try simp only[Exit.inBlock,Exit.then]);refine bodyPost_ret (results_none rfl _ _ _) rfl ?_)
  have Ho2:=Ho.out
  rw[List.length_append,List.length_singleton] at Ho2
  exact⟨_,rfl,LY Hb1.out,Kd.aeL (p:=⟨B,0,none⟩) Ho2 (fun _ hk=>hk) _,Hb.out.setCell hbase _⟩


def fu.l0 : Nat->ByteArray->List ByteArray->Int->Bool->Int->Option (List ByteArray)
 |0,_,_,_,_,_=>none
 |k+1,x0,out,x5,x6,x7=>
  if x7<(x0.size:Int) then(if 0<=x7 then(
   if bt x0 x7=34 then fu.l0 k x0 out x5 (!x6) (wrap64 (x7+1))
   else if x6=true/\bt x0 x7=92 then fu.l0 k x0 out x5 x6 (wrap64 (wrap64 (x7+1)+1))
   else if x6=false/\bt x0 x7=44 then(if 0<=x5 then(if x5<=x7 then(if out.length<8796093022208 then(ek.f k (x0.extract (x5:Int).toNat (x7:Int).toNat)).bind fun t=>fu.l0 k x0 (Ca out t) (wrap64 (x7+1)) x6 (wrap64 (x7+1)) else none) else none) else none)
   else fu.l0 k x0 out x5 x6 (wrap64 (x7+1))) else none)
  else(if 0<=x5 then(if x5<=(x0.size:Int) then(if out.length<8796093022208 then(ek.f k (x0.extract (x5:Int).toNat x0.size)).bind fun t=>some (Ca out t) else none) else none) else none)
def fu.f (k:Nat) (a0:ByteArray):Option (List ByteArray):=if(a0.size:Int)>4000 then some [] else fu.l0 k a0 [] 0 false 0
theorem fu.e0 {p:Prop} (h:p:=by
  have H':=aa.mk H
  clear H d2 c4 c3'
  go_wp2
  go_roundg k1
  case measure=>have:=ig.out;omega
  case rel=>exact⟨out,x5,true,_,vb,rfl,rfl,rfl,H',⟨by have:=ig.out;omega⟩,Hbox,HR,HB⟩):p:=h
theorem fu.calls (k:Nat) (a0:ByteArray) (r:List ByteArray) (w:World) (h:fu.f k a0=some r) :
  Calls Tryz.prog 126 #[.string a0] w fun e w'=>∃ Df:Value,e = .returned (Df)/\Kd.R Kd.string 9 w' w.heap.size (fun _=>True) Df r/\Below w.heap.size w w':=by
 have H:=h;clear h;unfold fu.f at H;replace H:=gI H;rcases H with⟨c2,-,-,H⟩|⟨c2,-,-,H⟩
 ·have jc:decide (4000<(a0.size:Int))=true:=bK c2;have nD:decide (4000<a0.size)=true:=bK ae;clear c2;obtain rfl:=aI H;go_enter Tryz.func126,Tryz.ntmps126;go_wp2;go_ret;exact⟨_,rfl,Kd.Rc _ _ _ _ _,Below.refl _ _⟩
 ·have jc:decide (4000<(a0.size:Int))=false:=bQ c2;have nD:decide (4000<a0.size)=false:=bQ ae;have hsz:a0.size<=4000:=by omega
  clear c2;have H':=aa.mk H;clear H;go_enter Tryz.func126,Tryz.ntmps126;go_wp2;go_loopg [5,6,7] k (fun kq v5 v6 v7 w'=>∃(out:List ByteArray) (x5:Int) (x6:Bool) (x7:Int) (vb:Value),v5 = .int .i64 x5/\v6 = .bool x6/\v7 = .int .i64 x7/\aa (fu.l0 kq a0 out x5 x6 x7=some r)/\aa (kq<=k)/\aa (w'.heap[w.heap.size]? = some (.cells #[vb] 76 (0,0)))/\aa (Kd.R Kd.string 9 w' w.heap.size (fun k_=>k_≠w.heap.size) vb out)/\aa (Below w.heap.size w w'))
  case atStart=>exact⟨[],0,false,0,_,rfl,rfl,rfl,H',⟨Nat.le_refl _⟩,⟨ET w _⟩,⟨Kd.Rc _ _ _ _ _⟩,⟨(Below.refl _ _).alloc (Nat.le_refl _) _⟩⟩
  case round=>
   clear H' jc nD;obtain⟨out,x5,x6,x7,vb,rfl,rfl,rfl,HA,ig,Hbox,HR,HB⟩:=hrel;cases gk with
   |zero=>exact absurd HA.out (by simp[fu.l0])
   |succ k1=>
    have H:=HA.out;clear HA;simp only[fu.l0] at H;replace H:=gI H;rcases H with⟨c3,cB,-,H⟩|⟨-,cB,-,H⟩
    ·by_cases c4:0<=x7
     case neg=>rw[if_neg c4] at H;cases H
     rw[if_pos c4] at H;have p5:=eq_true c4;have q5:=eq_true c3;have hx5:=bO a0 x7;have c3':x7<=(a0.size:Int):=by omega
     clear c3;by_cases d1:bt a0 x7=34
     ·rw[if_pos d1] at H;have azy:(bt a0 x7==34)=true:=beq_iff_eq.mpr d1;have H':=aa.mk H;clear H d1 c4 c3';go_wp2;go_roundg k1
      case measure=>have:=ig.out;omega
      case rel=>exact⟨out,x5,!x6,_,vb,rfl,rfl,rfl,H',⟨by have:=ig.out;omega⟩,Hbox,HR,HB⟩
     ·rw[if_neg d1] at H;have azy:(bt a0 x7==34)=false:=beq_eq_false_iff_ne.mpr d1;clear d1;cases x6 with
      |true=>
       by_cases d2:bt a0 x7=92
       ·rw[if_pos ⟨rfl,d2⟩] at H;have azz:(bt a0 x7==92)=true:=beq_iff_eq.mpr d2;exact fu.e0
       ·rw[if_neg (fun z=>d2 z.2),if_neg (fun z=>by cases z.1)] at H;have azz:(bt a0 x7==92)=false:=beq_eq_false_iff_ne.mpr d2;exact fu.e0
      |false=>
       rw[if_neg (fun z=>by cases z.1)] at H;by_cases d3:bt a0 x7=44
       ·rw[if_pos ⟨rfl,d3⟩] at H;have azA:(bt a0 x7==44)=true:=beq_iff_eq.mpr d3;by_cases e1:0<=x5
        case neg=>rw[if_neg e1] at H;cases H
        rw[if_pos e1] at H;by_cases e2:x5<=x7
        case neg=>rw[if_neg e2] at H;cases H
        rw[if_pos e2] at H;by_cases e3:out.length<8796093022208
        case neg=>rw[if_neg e3] at H;cases H
        rw[if_pos e3] at H;obtain⟨t,A0,H⟩:=Option.bind_eq_some_iff.mp H;have A:=aa.mk A0;clear A0;have H':=aa.mk H;have HL:=aa.mk e3;have s1:=eq_true e1;have s1b:decide (0<=x5)=true:=bK e1;have s2:=eq_true e2;have s2b:decide (x5<=x7)=true:=bK e2;have s3:=eq_true c3';have s3b:decide (x7<=(a0.size:Int))=true:=bK c3';clear H d3 c4 c3' e1 e2 e3;go_wp2_with(go_at_call 168;refine(I8 k1 (a0.extract (x5:Int).toNat (x7:Int).toNat) t w.heap.size vb out _ w w.heap.size A.out Hbox.out HR.out HB.out (Nat.le_refl _) HL.out).mono ?_;rintro e w' ⟨v',rfl,hb',hr',hl'⟩;have Hb2:=aa.mk hb';have Hr2:=aa.mk hr';have Hl2:=aa.mk hl';clear hb' hr' hl');go_roundg k1
        case measure=>have:=ig.out;omega
        case rel=>exact⟨Ca out t,_,false,_,v',rfl,rfl,rfl,H',⟨by have:=ig.out;omega⟩,Hb2,Hr2,Hl2⟩
       ·rw[if_neg (fun z=>d3 z.2)] at H;have azA:(bt a0 x7==44)=false:=beq_eq_false_iff_ne.mpr d3;have H':=aa.mk H;clear H d3 c4 c3';go_wp2;go_roundg k1
        case measure=>have:=ig.out;omega
        case rel=>exact⟨out,x5,false,_,vb,rfl,rfl,rfl,H',⟨by have:=ig.out;omega⟩,Hbox,HR,HB⟩
    ·by_cases e1:0<=x5
     case neg=>rw[if_neg e1] at H;cases H
     rw[if_pos e1] at H;by_cases e2:x5<=(a0.size:Int)
     case neg=>rw[if_neg e2] at H;cases H
     rw[if_pos e2] at H;by_cases e3:out.length<8796093022208
     case neg=>rw[if_neg e3] at H;cases H
     rw[if_pos e3] at H;obtain⟨t,A0,H⟩:=Option.bind_eq_some_iff.mp H;have A:=aa.mk A0;clear A0;obtain rfl:=aI H;have HL:=aa.mk e3;have s1:=eq_true e1;have s1b:decide (0<=x5)=true:=bK e1;have s2:=eq_true e2;have s2b:decide (x5<=(a0.size:Int))=true:=bK e2;clear H e1 e2 e3;go_wp2_with(fail);refine(I8 k1 (a0.extract (x5:Int).toNat a0.size) t w.heap.size vb out _ w w.heap.size A.out Hbox.out HR.out HB.out (Nat.le_refl _) HL.out).mono ?_;rintro e w' ⟨v',rfl,hb',hr',hl'⟩;obtain⟨A1,c1,rfl⟩:=eD hr';have hcell:w'.cell? ⟨w.heap.size,0,none⟩=some (.slice A1 (Ca out t).length c1):=by rw[cell_of_row w' w.heap.size 0 _ _ _ hb'];rfl
     have Hb2:=aa.mk hb';have Hr2:=aa.mk hr';have Hl2:=aa.mk hl';clear hb' hr' hl';go_wp2;go_ret;exact⟨_,rfl,Kd.kg Hr2.out (fun _ _=>trivial),Hl2.out⟩


def gW.f (a0:Int):Option (Bool):=(bG.f a0 0 253402300799).bind fun aqP=>(some aqP)
theorem gW.calls (a0:Int) (r:Bool) (w:World) (h:gW.f a0=some r) :
  Calls Tryz.prog 37 #[.int .i64 a0] w fun e w'=>e = .returned (.bool r)/\bH w w':=by
 have H:=aa.mk h;clear h;unfold gW.f at H;obtain⟨aqP,A2,H⟩:=nP H;obtain rfl:=aI H.out;go_enter Tryz.func37,Tryz.ntmps37;go_wp2_with(((with_reducible refine cZ 65 rfl ?_);refine mM 4 rfl Tryz.func65 (bG.calls a0 0 253402300799 aqP _ A2.out) fun nd=>?_));go_ret;exact⟨bR,iL⟩

mutual
def bg.l0 : Nat->ByteArray->List Int->Int->Option (List Int)
 |0,_,_,_=>none
 |k+1,x0,x3,x4=>if x4<(x0.size:Int) then(bg.l1 k x0 x3 x4 x4 0) else(some x3)
def bg.l1 : Nat->ByteArray->List Int->Int->Int->Int->Option (List Int)
 |0,_,_,_,_,_=>none
 |k+1,x0,x3,x4,x5,x6=>if x5<(x0.size:Int) then(if 0<=x5 then((eH.f (bt x0 x5)).bind fun auI=>(if auI=true then(if(wrap64 (x5-x4))<9 then(bg.l1 k x0 x3 x4 (wrap64 (x5+1)) (wrap64 ((wrap64 (10*x6))+(((bt x0 x5)-48)%256)))) else(if x5>x4 then(if x3.length<17592186044416 then(bg.l0 k x0 (x3 ++ [x6]) (wrap64 ((wrap64 (x5-1))+1))) else(none)) else(bg.l0 k x0 x3 (wrap64 (x4+1))))) else(if x5>x4 then(if x3.length<17592186044416 then(bg.l0 k x0 (x3 ++ [x6]) (wrap64 ((wrap64 (x5-1))+1))) else(none)) else(bg.l0 k x0 x3 (wrap64 (x4+1)))))) else(none)) else(if x5>x4 then(if x3.length<17592186044416 then(bg.l0 k x0 (x3 ++ [x6]) (wrap64 ((wrap64 (x5-1))+1))) else(none)) else(bg.l0 k x0 x3 (wrap64 (x4+1))))
end
def bg.f (k:Nat) (a0:ByteArray):Option (List Int):=bg.l0 k a0 ([]:List Int) 0
theorem bg.e0 {p:Prop} (h:p:=by
  replace H:=aa.mk H
  have p5:0<=(iU:Int):=ay bM
  have q5:iU<(a0.size:Int):=ay bM
  have hx5:=bO a0 iU
  replace p5:=eq_true p5
  replace q5:=eq_true q5
  go_wp2_with(first|(go_at_call 166;(with_reducible refine(eH.calls (bt a0 iU) false _ A6.out).mono ?_);rintro e w' ⟨rfl,⟨nd,rfl⟩⟩)|(go_at_call 166;(with_reducible refine(eH.calls (bt a0 iU) true _ A6.out).mono ?_);rintro e w' ⟨rfl,⟨nd,rfl⟩⟩))
  go_roundg k2
  case measure=>have:=ig.out;have:=tO.out;omega
  case rel=>exact⟨(dD),(wrap64 (dH+1)),bR,H,⟨TI⟩,⟨qE⟩,⟨aX⟩⟩):p:=h
theorem bg.calls (k:Nat) (a0:ByteArray) (r:List Int) (w:World) (h:bg.f k a0=some r) :
  Calls Tryz.prog 132 #[.string a0] w fun e w'=>∃ Df:Value,e = .returned (Df)/\Kd.R (Kd.int .i64) 3 w' w.heap.size (fun _=>True) Df r/\Below w.heap.size w w':=by
 have HB:=aa.mk (Below.refl w.heap.size w);have H:=h;clear h;unfold bg.f at H;replace H:=aa.mk H;go_enter Tryz.func132,Tryz.ntmps132;go_wp2;go_loopg [3,4] k (fun kq v3 v4 w'=>∃(dD:List Int) (dH:Int),v4 = .int .i64 dH/\aa (bg.l0 kq a0 dD dH=some r)/\aa (kq<=k)/\aa (Kd.R (Kd.int .i64) 3 w' w.heap.size (fun _=>True) v3 dD)/\aa (Below w.heap.size w w'))
 case atStart=>exact⟨(([]:List Int)),(0),bR,H,⟨Nat.le_refl _⟩,⟨Hz⟩,⟨aX⟩⟩
 case round=>
  clear H;obtain⟨dD,dH,rfl,HA,ig,iV,HB⟩:=hrel;cases gk with
  |zero=>exact absurd HA.out (by simp[bg.l0])
  |succ k1=>
   have H:=HA.out;clear HA;simp only[bg.l0] at H;replace H:=gI H;rcases H with⟨-,jc,-,H⟩|⟨-,jc,-,H⟩
   ·replace H:=aa.mk H;go_wp2;go_loopg [5,6] k1 (fun kq v5 v6 w'=>∃(iU:Int) (fA:Int),v5 = .int .i64 iU/\v6 = .int .i64 fA/\aa (bg.l1 kq a0 dD dH iU fA=some r)/\aa (kq<=k1)/\aa (Kd.R (Kd.int .i64) 3 w' w.heap.size (fun _=>True) u3 dD)/\aa (Below w.heap.size w w'))
    case atStart=>exact⟨(dH),(0),bR,bR,H,⟨Nat.le_refl _⟩,⟨qE⟩,⟨aX⟩⟩
    case round=>
     clear H;try clear jc
     obtain⟨iU,fA,rfl,rfl,HA,tO,iV,HB⟩:=hrel;cases gk with
     |zero=>exact absurd HA.out (by simp[bg.l1])
     |succ k2=>
      have H:=HA.out;clear HA;simp only[bg.l1] at H;replace H:=gI H;rcases H with⟨-,cB,-,H⟩|⟨-,cB,-,H⟩
      ·replace H:=gN H;obtain⟨-,jr,-,H⟩:=H;replace H:=xE H;rcases H with⟨A6,H⟩|⟨A6,H⟩
       ·replace H:=gI H;rcases H with⟨-,mU,-,H⟩|⟨-,mU,-,H⟩
        ·replace H:=aa.mk H;have p5:0<=(iU:Int):=ay bM;have q5:iU<(a0.size:Int):=ay bM;have hx5:=bO a0 iU;replace p5:=eq_true p5;replace q5:=eq_true q5;go_wp2_with((go_at_call 166;(with_reducible refine(eH.calls (bt a0 iU) true _ A6.out).mono ?_);rintro e w' ⟨rfl,⟨nd,rfl⟩⟩;have p9:0<=(iU:Int):=ay bM;have q9:iU<(a0.size:Int):=ay bM;have hx9:=bO a0 iU;replace p9:=eq_true p9;replace q9:=eq_true q9));go_roundg k2
         case measure=>have:=ig.out;have:=tO.out;omega
         case rel=>exact⟨(wrap64 (iU+1)),(wrap64 ((wrap64 (10*fA))+(((bt a0 iU)-48)%256))),bR,bR,H,⟨TI⟩,⟨qE⟩,⟨aX⟩⟩
        ·replace H:=gI H;rcases H with⟨-,pX,-,H⟩|⟨-,pX,-,H⟩
         ·replace H:=gN H;obtain⟨c11,-,-,H⟩:=H;have Xl:=aa.mk c11;clear c11;obtain⟨aoz,OO⟩:∃ y_:List Int,y_=(dD ++ [fA]):=⟨_,rfl⟩;replace H:(bg.l0 k2 a0 aoz (wrap64 ((wrap64 (iU-1))+1)))=some r:=by first|(rw[OO];with_reducible exact H)|(have kP:=(ax _ _).symm.trans H;rw[OO];with_reducible exact kP)|(have kP:=(ax _ _).symm.trans H;with_reducible exact kP)|with_reducible exact H|(rw[OO];exact H)|exact H
          have aqQ:=aa.mk OO;clear OO;replace H:=aa.mk H;have p5:0<=(iU:Int):=ay bM;have q5:iU<(a0.size:Int):=ay bM;have hx5:=bO a0 iU;replace p5:=eq_true p5;replace q5:=eq_true q5;go_wp2_with(first|(go_at_call 166;(with_reducible refine(eH.calls (bt a0 iU) true _ A6.out).mono ?_);rintro e w' ⟨rfl,⟨nd,rfl⟩⟩)|((with_reducible refine fO (b:=.append) (xs:=#[.tmp 43,.tmp 45]) rfl ?_);at_builtin;refine Kd.kJ (Kd.int .i64) (w0:=w) w.heap.size rfl (.tmp 43) (.tmp 45) 90 3 (.int .i64 0) 8 rfl Tryz.underlying90 info3 rfl aA ae u3 dD fA [.int .i64 fA] (fun _=>True) (fun _=>False) rfl rfl ?aP (fun _ hk=>hk.elim) ?aF ?aO ?aB ?aS ?aL ?_;(case aP=>exact rfl);(case aB=>exact aX);(case aF=>exact(fun _ _=>trivial));(case aO=>exact Ma);(case aS=>exact(aN aX));(case aL=>have:=Xl.out;omega);intro aC5 gG ho hb hg hat;rw[<- aqQ.out] at ho;have Ea:=aa.mk (hb);have Eb:=aa.mk (ho);clear HB;clear iV;have HB:=Ea;have azB:=Eb;clear Ea Eb;clear ho hb hg hat));go_roundg k2
          case measure=>have:=ig.out;have:=tO.out;omega
          case rel=>exact⟨(aoz),(wrap64 ((wrap64 (iU-1))+1)),bR,H,⟨TI⟩,⟨qE⟩,⟨aX⟩⟩
         ·exact bg.e0
       ·replace H:=gI H;rcases H with⟨-,qG,-,H⟩|⟨-,qG,-,H⟩
        ·replace H:=gN H;obtain⟨c14,-,-,H⟩:=H;have auJ:=aa.mk c14;clear c14;obtain⟨aoA,OP⟩:∃ y_:List Int,y_=(dD ++ [fA]):=⟨_,rfl⟩;replace H:(bg.l0 k2 a0 aoA (wrap64 ((wrap64 (iU-1))+1)))=some r:=by first|(rw[OP];with_reducible exact H)|(have kP:=(ax _ _).symm.trans H;rw[OP];with_reducible exact kP)|(have kP:=(ax _ _).symm.trans H;with_reducible exact kP)|with_reducible exact H|(rw[OP];exact H)|exact H
         have aqR:=aa.mk OP;clear OP;replace H:=aa.mk H;have p5:0<=(iU:Int):=ay bM;have q5:iU<(a0.size:Int):=ay bM;have hx5:=bO a0 iU;replace p5:=eq_true p5;replace q5:=eq_true q5;go_wp2_with(first|(go_at_call 166;(with_reducible refine(eH.calls (bt a0 iU) false _ A6.out).mono ?_);rintro e w' ⟨rfl,⟨nd,rfl⟩⟩)|((with_reducible refine fO (b:=.append) (xs:=#[.tmp 43,.tmp 45]) rfl ?_);at_builtin;refine Kd.kJ (Kd.int .i64) (w0:=w) w.heap.size rfl (.tmp 43) (.tmp 45) 90 3 (.int .i64 0) 8 rfl Tryz.underlying90 info3 rfl aA ae u3 dD fA [.int .i64 fA] (fun _=>True) (fun _=>False) rfl rfl ?aP (fun _ hk=>hk.elim) ?aF ?aO ?aB ?aS ?aL ?_;(case aP=>exact rfl);(case aB=>exact aX);(case aF=>exact(fun _ _=>trivial));(case aO=>exact Ma);(case aS=>exact(aN aX));(case aL=>have:=auJ.out;omega);intro aC6 jH ho hb hg hat;rw[<- aqR.out] at ho;have Ee:=aa.mk (hb);have Ef:=aa.mk (ho);clear HB;clear iV;have HB:=Ee;have azC:=Ef;clear Ee Ef;clear ho hb hg hat));go_roundg k2
         case measure=>have:=ig.out;have:=tO.out;omega
         case rel=>exact⟨(aoA),(wrap64 ((wrap64 (iU-1))+1)),bR,H,⟨TI⟩,⟨qE⟩,⟨aX⟩⟩
        ·exact bg.e0
      ·replace H:=gI H;rcases H with⟨-,sS,-,H⟩|⟨-,sS,-,H⟩
       ·replace H:=gN H;obtain⟨c17,-,-,H⟩:=H;have agZ:=aa.mk c17;clear c17;obtain⟨aoB,OQ⟩:∃ y_:List Int,y_=(dD ++ [fA]):=⟨_,rfl⟩;replace H:(bg.l0 k2 a0 aoB (wrap64 ((wrap64 (iU-1))+1)))=some r:=by first|(rw[OQ];with_reducible exact H)|(have kP:=(ax _ _).symm.trans H;rw[OQ];with_reducible exact kP)|(have kP:=(ax _ _).symm.trans H;with_reducible exact kP)|with_reducible exact H|(rw[OQ];exact H)|exact H
        have aqS:=aa.mk OQ;clear OQ;replace H:=aa.mk H;go_wp2_with(((with_reducible refine fO (b:=.append) (xs:=#[.tmp 43,.tmp 45]) rfl ?_);at_builtin;refine Kd.kJ (Kd.int .i64) (w0:=w) w.heap.size rfl (.tmp 43) (.tmp 45) 90 3 (.int .i64 0) 8 rfl Tryz.underlying90 info3 rfl aA ae u3 dD fA [.int .i64 fA] (fun _=>True) (fun _=>False) rfl rfl ?aP (fun _ hk=>hk.elim) ?aF ?aO ?aB ?aS ?aL ?_;(case aP=>exact rfl);(case aB=>exact aX);(case aF=>exact(fun _ _=>trivial));(case aO=>exact Ma);(case aS=>exact(aN aX));(case aL=>have:=agZ.out;omega);intro aC7 mP ho hb hg hat;rw[<- aqS.out] at ho;have xP:=aa.mk (hb);have Ed:=aa.mk (ho);clear HB;clear iV;have HB:=xP;have azD:=Ed;clear xP Ed;clear ho hb hg hat));go_roundg k2
        case measure=>have:=ig.out;have:=tO.out;omega
        case rel=>exact⟨(aoB),(wrap64 ((wrap64 (iU-1))+1)),bR,H,⟨TI⟩,⟨qE⟩,⟨aX⟩⟩
       ·replace H:=aa.mk H;go_wp2;go_roundg k2
        case measure=>have:=ig.out;have:=tO.out;omega
        case rel=>exact⟨(dD),(wrap64 (dH+1)),bR,H,⟨TI⟩,⟨qE⟩,⟨aX⟩⟩
   ·obtain rfl:=aI H;go_wp2;go_ret;exact⟨_,jv,qE,aX⟩

def mH.f  : Option (List ByteArray):=some (([(⟨#[74,97,110]⟩:af),(⟨#[70,101,98]⟩:af),(⟨#[77,97,114]⟩:af),(⟨#[65,112,114]⟩:af),(⟨#[77,97,121]⟩:af),(⟨#[74,117,110]⟩:af),(⟨#[74,117,108]⟩:af),(⟨#[65,117,103]⟩:af),(⟨#[83,101,112]⟩:af),(⟨#[79,99,116]⟩:af),(⟨#[78,111,118]⟩:af),(⟨#[68,101,99]⟩:af)]:List ByteArray))
theorem mH.calls  (r:List ByteArray) (w:World) (h:mH.f  = some r) :
  Calls Tryz.prog 171 #[] w fun e w'=>∃ Df:Value,e = .returned (Df)/\Kd.R Kd.string 9 w' w.heap.size (fun _=>True) Df r/\Below w.heap.size w w':=by
 have HB:=aa.mk (Below.refl w.heap.size w);have H:=h;clear h;unfold mH.f at H;obtain⟨auK,OT⟩:∃ y_:List ByteArray,y_=(([(⟨#[74,97,110]⟩:af),(⟨#[70,101,98]⟩:af),(⟨#[77,97,114]⟩:af),(⟨#[65,112,114]⟩:af),(⟨#[77,97,121]⟩:af),(⟨#[74,117,110]⟩:af),(⟨#[74,117,108]⟩:af),(⟨#[65,117,103]⟩:af),(⟨#[83,101,112]⟩:af),(⟨#[79,99,116]⟩:af),(⟨#[78,111,118]⟩:af),(⟨#[68,101,99]⟩:af)]:List ByteArray)):=⟨_,rfl⟩;replace H:(some auK)=some r:=by first|(rw[OT];with_reducible exact H)|(have kP:=(ax _ _).symm.trans H;rw[OT];with_reducible exact kP)|(have kP:=(ax _ _).symm.trans H;with_reducible exact kP)|with_reducible exact H|(rw[OT];exact H)|exact H
 have ag0:=aa.mk OT;clear OT;obtain rfl:=aI H;go_enter Tryz.func171,Tryz.ntmps171;go_wp2_with(((with_reducible refine lT 1 rfl ?_);refine Kd.Re Kd.string _ 9 ?hg (N:=1) ?hd (xs:=([(⟨#[74,97,110]⟩:af),(⟨#[70,101,98]⟩:af),(⟨#[77,97,114]⟩:af),(⟨#[65,112,114]⟩:af),(⟨#[77,97,121]⟩:af),(⟨#[74,117,110]⟩:af),(⟨#[74,117,108]⟩:af),(⟨#[65,117,103]⟩:af),(⟨#[83,101,112]⟩:af),(⟨#[79,99,116]⟩:af),(⟨#[78,111,118]⟩:af),(⟨#[68,101,99]⟩:af)]:List ByteArray)) (inner:=[.string (⟨#[74,97,110]⟩:af),.string (⟨#[70,101,98]⟩:af),.string (⟨#[77,97,114]⟩:af),.string (⟨#[65,112,114]⟩:af),.string (⟨#[77,97,121]⟩:af),.string (⟨#[74,117,110]⟩:af),.string (⟨#[74,117,108]⟩:af),.string (⟨#[65,117,103]⟩:af),.string (⟨#[83,101,112]⟩:af),.string (⟨#[79,99,116]⟩:af),.string (⟨#[78,111,118]⟩:af),.string (⟨#[68,101,99]⟩:af)]) (ok:=fun _=>True) (okp:=fun _=>True) ?hr ?hp (fun _ hk=>hk) trivial (Below.refl _ _) (Nat.le_refl _) (by simp) ?_;(case hd=>rfl);(case hg=>rfl);(case hr=>first|(go_simp;done)|(go_simp;rfl));(case hp=>exact(fI.one (show Kd.M Kd.string _ _ _ (⟨#[74,97,110]⟩:af) [.string (⟨#[74,97,110]⟩:af)] from rfl) (fI.one (show Kd.M Kd.string _ _ _ (⟨#[70,101,98]⟩:af) [.string (⟨#[70,101,98]⟩:af)] from rfl) (fI.one (show Kd.M Kd.string _ _ _ (⟨#[77,97,114]⟩:af) [.string (⟨#[77,97,114]⟩:af)] from rfl) (fI.one (show Kd.M Kd.string _ _ _ (⟨#[65,112,114]⟩:af) [.string (⟨#[65,112,114]⟩:af)] from rfl) (fI.one (show Kd.M Kd.string _ _ _ (⟨#[77,97,121]⟩:af) [.string (⟨#[77,97,121]⟩:af)] from rfl) (fI.one (show Kd.M Kd.string _ _ _ (⟨#[74,117,110]⟩:af) [.string (⟨#[74,117,110]⟩:af)] from rfl) (fI.one (show Kd.M Kd.string _ _ _ (⟨#[74,117,108]⟩:af) [.string (⟨#[74,117,108]⟩:af)] from rfl) (fI.one (show Kd.M Kd.string _ _ _ (⟨#[65,117,103]⟩:af) [.string (⟨#[65,117,103]⟩:af)] from rfl) (fI.one (show Kd.M Kd.string _ _ _ (⟨#[83,101,112]⟩:af) [.string (⟨#[83,101,112]⟩:af)] from rfl) (fI.one (show Kd.M Kd.string _ _ _ (⟨#[79,99,116]⟩:af) [.string (⟨#[79,99,116]⟩:af)] from rfl) (fI.one (show Kd.M Kd.string _ _ _ (⟨#[78,111,118]⟩:af) [.string (⟨#[78,111,118]⟩:af)] from rfl) (fI.one (show Kd.M Kd.string _ _ _ (⟨#[68,101,99]⟩:af) [.string (⟨#[68,101,99]⟩:af)] from rfl) (fI.none _ _))))))))))))));intro aC8 gG ho2 hb hg_ hnew_;clear hg_ hnew_;(first|rw[<- ag0.out] at ho2|(simp only[Int.reduceToNat] at ho2;rw[<- ag0.out] at ho2));have azE:=aa.mk (Kd.gu ho2 (aN aX));replace HB:=fw hb;clear hb ho2));go_ret;exact⟨_,jv,qE,aX⟩


def iy.l0 : Nat->ByteArray->List ByteArray->Int->Int->Option (Int)
 |0,_,_,_,_=>none
 |k+1,x0,x5,x6,x7=>if x7<x6 then(if 0<=x7 then(if x7<(x5.length:Int) then((strings_Contains.f x0 (dh ByteArray.empty x5 x7)).bind fun auL=>(if auL=true then(some (wrap64 (x7+1))) else(iy.l0 k x0 x5 x6 (wrap64 (x7+1))))) else(none)) else(none)) else(some 0)
def iy.f (k:Nat) (a0:ByteArray):Option (Int):=(mH.f).bind fun Dp=>(iy.l0 k a0 Dp (Dp.length:Int) 0)
theorem iy.calls (k:Nat) (a0:ByteArray) (r:Int) (w:World) (h:iy.f k a0=some r) (HT0:mX w) :
  Calls Tryz.prog 133 #[.string a0] w fun e w'=>e = .returned (.int .i64 r)/\Below w.heap.size w w':=by
 have HT:=aa.mk HT0;clear HT0;have HB:=aa.mk (Below.refl w.heap.size w);have H:=aa.mk h;clear h;unfold iy.f at H;obtain⟨Dp,A2,H⟩:=nP H;go_enter Tryz.func133,Tryz.ntmps133;go_wp2_with(first|((with_reducible refine cZ 171 rfl ?_);refine NL 5 rfl Tryz.func171 (mH.calls  Dp _ A2.out) ?_;rintro e w3 ⟨aC9,rfl,ho0,hb⟩;refine⟨_,rfl,?_⟩;have aqT:=aa.mk (Kd.gu ho0 (aN aX));replace HB:=fw hb;clear hb;(try clear ho0);obtain⟨Ao4,co4,eo4⟩:=Kd.eD aqT.out;subst eo4));go_loopg [7] k (fun kq v7 w'=>∃(nI:Int),v7 = .int .i64 nI/\aa (iy.l0 kq a0 Dp (Dp.length:Int) nI=some r)/\aa (kq<=k)/\aa (Kd.R Kd.string 9 w' w.heap.size (fun _=>True) (.slice Ao4 Dp.length co4) Dp)/\aa (Below w.heap.size w w'))
 case atStart=>exact⟨(0),bR,H,⟨Nat.le_refl _⟩,⟨qE⟩,⟨aX⟩⟩
 case round=>
  clear H;obtain⟨nI,rfl,HA,ig,ow,HB⟩:=hrel;cases gk with
  |zero=>exact absurd HA.out (by simp[iy.l0])
  |succ k1=>
   have H:=HA;clear HA;simp only[iy.l0] at H;rcases jw H with⟨-,jV,-,H⟩|⟨-,jV,-,H⟩
   ·obtain⟨-,jy,-,H⟩:=nZ H;obtain⟨-,nR,-,H⟩:=nZ H;rcases lu H with⟨A8,H⟩|⟨A8,H⟩
    ·obtain rfl:=aI H.out;have OU:0<=(nI:Int):=ay bM;have OV:nI<(Dp.length:Int):=ay bM;obtain⟨aqU,ag1,ag2⟩:=Kd.eG (Kd.aH ow.out).2.2 nI OU OV;cases ag1
     replace OU:=eq_true OU;replace OV:=eq_true OV;go_wp2_with(((with_reducible refine cZ 148 rfl ?_);refine mM 14 rfl Tryz.func148 (strings_Contains.calls a0 (dh ByteArray.empty Dp nI) true _ A8.out (dV HT)) fun nd=>?_));go_ret;exact⟨jv,aX⟩
    ·have OU:0<=(nI:Int):=ay bM;have OV:nI<(Dp.length:Int):=ay bM;obtain⟨aqU,ag1,ag2⟩:=Kd.eG (Kd.aH ow.out).2.2 nI OU OV;cases ag1
     replace OU:=eq_true OU;replace OV:=eq_true OV;go_wp2_with(((with_reducible refine cZ 148 rfl ?_);refine mM 14 rfl Tryz.func148 (strings_Contains.calls a0 (dh ByteArray.empty Dp nI) false _ A8.out (dV HT)) fun nd=>?_));go_roundg k1
     case measure=>have:=ig.out;omega
     case rel=>exact⟨(wrap64 (nI+1)),bR,H,⟨by have:=ig.out;omega⟩,⟨qE⟩,⟨aX⟩⟩
   ·obtain rfl:=aI H.out;go_wp2;go_ret;exact⟨jv,aX⟩

def fq.j0 : Nat->Int->Bool->Option (Int)
 |0,_,_=>none
 |k+1,x1,x5=>if x5=true then(some 29) else(if x1=2 then(some 28) else(if x1=4 then(some 30) else(if x1=6 then(some 30) else(if x1=9 then(some 30) else(if x1=11 then(some 30) else(some 31))))))
def fq.f (k:Nat) (a0:Int) (a1:Int):Option (Int):=if a1=2 then(if(Int.tmod a0 4)=0 then(if(Int.tmod a0 100)=0 then(fq.j0 k a1 ((Int.tmod a0 400)==0)) else(fq.j0 k a1 true)) else(fq.j0 k a1 ((Int.tmod a0 400)==0))) else(fq.j0 k a1 false)
theorem fq.e0 {p:Prop} (h:p:=by
  replace H:=aa.mk H
  go_wp2
  go_meet
  case rel=>exact⟨_,(((Int.tmod a0 400)==0)),bR,H,⟨tT⟩,iL⟩):p:=h
theorem fq.calls (k:Nat) (a0 a1 r:Int) (w:World) (h:fq.f k a0 a1=some r) :
  Calls Tryz.prog 175 #[.int .i64 a0,.int .i64 a1] w fun e w'=>e = .returned (.int .i64 r)/\bH w w':=by
 have H:=h;clear h;unfold fq.f at H;have ZT:=aa.mk H;clear H;go_enter Tryz.func175,Tryz.ntmps175;go_upto_region 1 with(fail);go_cut [5] (fun v5 wc=>∃(kq:Nat) (iU:Bool),v5 = .bool iU/\aa (fq.j0 kq a1 iU=some r)/\aa (kq<=k)/\bH w wc)
 case first=>
  have H:=ZT.out;clear ZT;replace H:=gI H;rcases H with⟨c4,-,-,H⟩|⟨c4,-,-,H⟩
  ·obtain⟨jr,qy⟩:=kT c4;clear c4;(first|rw[jr]|(simp only[dU,fK];rw[jr])|skip)
   replace H:=gI H;rcases H with⟨c5,-,-,H⟩|⟨c5,-,-,H⟩
   ·obtain⟨jV,rO⟩:=kT c5;clear c5;replace H:=gI H;rcases H with⟨c6,-,-,H⟩|⟨c6,-,-,H⟩
    ·obtain⟨jy,pq⟩:=kT c6;clear c6;exact fq.e0
    ·obtain⟨jy,pq⟩:=kU c6;replace H:=aa.mk H;go_wp2;go_meet
     case rel=>exact⟨_,(true),bR,H,⟨tT⟩,iL⟩
   ·obtain⟨jV,rO⟩:=kU c5;exact fq.e0
  ·obtain⟨jr,qy⟩:=kU c4;(first|rw[jr]|(simp only[dU,fK];rw[jr])|skip)
   replace H:=aa.mk H;go_wp2;go_meet
   case rel=>exact⟨_,(false),bR,H,⟨tT⟩,iL⟩
 case rest=>
  clear ZT;obtain⟨kq,iU,rfl,HA,HJ2,⟨mc2,rfl⟩⟩:=hcut;cases kq with
  |zero=>exact absurd HA.out (by simp[fq.j0])
  |succ GD=>
   have H:=HA.out;clear HA;simp only[fq.j0] at H;replace H:=gB H;rcases H with⟨rfl,H⟩|⟨rfl,H⟩
   ·obtain rfl:=aI H;go_wp2;go_ret;exact⟨bR,iL⟩
   ·replace H:=gI H;rcases H with⟨c8,-,-,H⟩|⟨c8,-,-,H⟩
    ·obtain⟨mU,za⟩:=kT c8;clear c8;obtain rfl:=aI H;go_wp2;go_ret;exact⟨bR,iL⟩
    ·obtain⟨mU,za⟩:=kU c8;replace H:=gI H;rcases H with⟨c9,-,-,H⟩|⟨c9,-,-,H⟩
     ·obtain⟨pg,xy⟩:=kT c9;clear c9;obtain rfl:=aI H;go_wp2;go_ret;exact⟨bR,iL⟩
     ·obtain⟨pg,xy⟩:=kU c9;replace H:=gI H;rcases H with⟨c10,-,-,H⟩|⟨c10,-,-,H⟩
      ·obtain⟨pX,Aw⟩:=kT c10;clear c10;obtain rfl:=aI H;go_wp2;go_ret;exact⟨bR,iL⟩
      ·obtain⟨pX,Aw⟩:=kU c10;replace H:=gI H;rcases H with⟨c11,-,-,H⟩|⟨c11,-,-,H⟩
       ·obtain⟨oV,Aq⟩:=kT c11;clear c11;obtain rfl:=aI H;go_wp2;go_ret;exact⟨bR,iL⟩
       ·obtain⟨oV,Aq⟩:=kU c11;replace H:=gI H;rcases H with⟨c12,-,-,H⟩|⟨c12,-,-,H⟩
        ·obtain⟨nS,yH⟩:=kT c12;clear c12;obtain rfl:=aI H;go_wp2;go_ret;exact⟨bR,iL⟩
        ·obtain⟨nS,yH⟩:=kU c12;obtain rfl:=aI H;go_wp2;go_ret;exact⟨bR,iL⟩


def eX.f (k:Nat) (ak:Int) (au:Int) (az:Int) (aJ:Int) (aD:Int) (di:Int):Option (Bool):=(bG.f ak 1970 9999).bind fun auM=>(if auM=true then((bG.f au 1 12).bind fun auN=>(if auN=true then((fq.f k ak au).bind fun OW=>((bG.f az 1 OW).bind fun auO=>(if auO=true then((bG.f aJ 0 23).bind fun auP=>(if auP=true then((bG.f aD 0 59).bind fun auQ=>(if auQ=true then((bG.f di 0 59).bind fun ag3=>(some ag3)) else(some false))) else(some false))) else(some false)))) else(some false))) else(some false))
def eX.T1 : Bool×List (List Nat×List Nat):=(true,[([],[]),([0],[0]),([1],[1]),([2,2],[2]),([3],[3]),([4,3],[3,4]),([5,3,3],[3,5]),([3,6],[3,6]),([7,6],[7]),([8],[8]),([9,8],[8,9]),([8],[8]),([11,8],[8,11]),([8],[8]),([13,8],[8,13]),([12,14,8,8],[8,12,14]),([10,15,15,8],[8,10,15]),([8,16],[8,16]),([17,16],[17]),([18],[18]),([19,18],[18,19]),([20,18,18],[18,20]),([18,21],[18,21]),([22,21],[22]),([23],[23]),([24,23],[23,24]),([25,23,23],[23,25]),([23,26],[23,26]),([27,26],[27]),([28],[28]),([29,28],[28,29]),([30,28,28],[28,30]),([28,31],[28,31]),([32,31,0,1,2,3,4,5,6,7,8,9,10,11,12,13,14,15,16,17,18,19,20,21,22,23,24,25,26,27,28,29,30,31,32],[32])])
def eX.B1 : List Nat:=[0,1,3,7,15,31,63,127,255,511,1023,511,2559,511,8703,31231,65535,131071,262143,524287,1048575,2097151,4194303,8388607,16777215,33554431,67108863,134217727,268435455,536870911,1073741823,2147483647,4294967295,8589934591]
theorem eX.yo : nL .any (opsOf Tryz.f173 1)=eX.T1:=by kernel_rfl
theorem eX.rP : jf eX.T1.2 eX.B1=true:=by kernel_rfl
theorem eX.e0 {p:Prop} (h:p:=by
  obtain rfl:=aI H.out
  go_enter Tryz.func173,Tryz.ntmps173
  try go_wp2_with(((with_reducible refine lT 1 rfl ?_);refine jL #[.int .i64 ak,.int .i64 au,.int .i64 az,.int .i64 aJ,.int .i64 aD,.int .i64 di] 117 ?_;intro Kk hg gG hbox hb;have tZ:=aa.mk (hbox);have azF:=lJ hg;replace HB:=fw hb;clear hb hbox hg))
  replace tZ:=aa.mk (eu tZ.out)
  replace HB:=aa.mk (bE HB.out)
  refine jP (n:=34) (S:=fun w'=>w'.cell? ⟨Kk,0,none⟩=some (.int .i64 ak)/\w'.cell? ⟨Kk,1,none⟩=some (.int .i64 au)/\w'.cell? ⟨Kk,2,none⟩=some (.int .i64 az)/\w'.cell? ⟨Kk,3,none⟩=some (.int .i64 aJ)/\w'.cell? ⟨Kk,4,none⟩=some (.int .i64 aD)/\w'.cell? ⟨Kk,5,none⟩=some (.int .i64 di)) (ds:=[]) (pI tZ) (fun hHeld=>?_);refine dw eX.yo eX.rP (fun HT_ HW_=>?_)
  generalize gG.drew=jH at tZ HB hHeld ⊢
  repeat(first|refine lC ?_ (hy:=Or.inl ⟨by rfl,TE⟩)|refine dA ?_|(refine fG (fun K hK=>?_);refine jZ Tryz.func65 dK rfl #[.int .i64 ak,.int .i64 1970,.int .i64 9999] (by rfl) rfl rfl Bd ?_;(with_reducible refine(bG.calls ak 1970 9999 false _ A2.out).mono ?_);rintro e w' ⟨rfl,⟨nd,rfl⟩⟩;refine⟨_,rfl,?_⟩;refine hK.out _ _ (pI tZ) (fun hHeld=>?_);clear hK K;refine bY ?_)|(refine fG (fun K hK=>?_);refine jZ Tryz.func65 dK rfl #[.int .i64 ak,.int .i64 1970,.int .i64 9999] (by rfl) rfl rfl Bd ?_;(with_reducible refine(bG.calls ak 1970 9999 true _ A2.out).mono ?_);rintro e w' ⟨rfl,⟨nd,rfl⟩⟩;refine⟨_,rfl,?_⟩;refine hK.out _ _ (pI tZ) (fun hHeld=>?_);clear hK K;refine bY ?_)|(refine fG (fun K hK=>?_);refine jZ Tryz.func65 dK rfl #[.int .i64 au,.int .i64 1,.int .i64 12] (by rfl) rfl rfl Bd ?_;(with_reducible refine(bG.calls au 1 12 false _ A4.out).mono ?_);rintro e w' ⟨rfl,⟨nd,rfl⟩⟩;refine⟨_,rfl,?_⟩;refine hK.out _ _ (pI tZ) (fun hHeld=>?_);clear hK K;refine bY ?_)|(refine fG (fun K hK=>?_);refine jZ Tryz.func65 dK rfl #[.int .i64 au,.int .i64 1,.int .i64 12] (by rfl) rfl rfl Bd ?_;(with_reducible refine(bG.calls au 1 12 true _ A4.out).mono ?_);rintro e w' ⟨rfl,⟨nd,rfl⟩⟩;refine⟨_,rfl,?_⟩;refine hK.out _ _ (pI tZ) (fun hHeld=>?_);clear hK K;refine bY ?_)|(refine fG (fun K hK=>?_);refine jZ Tryz.func175 dK rfl #[.int .i64 ak,.int .i64 au] (by rfl) rfl rfl Bd ?_;(with_reducible refine(fq.calls k ak au OW _ A6.out).mono ?_);rintro e w' ⟨rfl,⟨nd,rfl⟩⟩;refine⟨_,rfl,?_⟩;refine hK.out _ _ (pI tZ) (fun hHeld=>?_);clear hK K;refine bY ?_)|(refine fG (fun K hK=>?_);refine jZ Tryz.func65 dK rfl #[.int .i64 az,.int .i64 1,.int .i64 OW] (by rfl) rfl rfl Bd ?_;(with_reducible refine(bG.calls az 1 OW false _ A7.out).mono ?_);rintro e w' ⟨rfl,⟨nd,rfl⟩⟩;refine⟨_,rfl,?_⟩;refine hK.out _ _ (pI tZ) (fun hHeld=>?_);clear hK K;refine bY ?_)|(refine fG (fun K hK=>?_);refine jZ Tryz.func65 dK rfl #[.int .i64 az,.int .i64 1,.int .i64 OW] (by rfl) rfl rfl Bd ?_;(with_reducible refine(bG.calls az 1 OW true _ A7.out).mono ?_);rintro e w' ⟨rfl,⟨nd,rfl⟩⟩;refine⟨_,rfl,?_⟩;refine hK.out _ _ (pI tZ) (fun hHeld=>?_);clear hK K;refine bY ?_)|(refine fG (fun K hK=>?_);refine jZ Tryz.func65 dK rfl #[.int .i64 aJ,.int .i64 0,.int .i64 23] (by rfl) rfl rfl Bd ?_;(with_reducible refine(bG.calls aJ 0 23 false _ A9.out).mono ?_);rintro e w' ⟨rfl,⟨nd,rfl⟩⟩;refine⟨_,rfl,?_⟩;refine hK.out _ _ (pI tZ) (fun hHeld=>?_);clear hK K;refine bY ?_)|(refine fG (fun K hK=>?_);refine jZ Tryz.func65 dK rfl #[.int .i64 aJ,.int .i64 0,.int .i64 23] (by rfl) rfl rfl Bd ?_;(with_reducible refine(bG.calls aJ 0 23 true _ A9.out).mono ?_);rintro e w' ⟨rfl,⟨nd,rfl⟩⟩;refine⟨_,rfl,?_⟩;refine hK.out _ _ (pI tZ) (fun hHeld=>?_);clear hK K;refine bY ?_)|(refine fG (fun K hK=>?_);refine jZ Tryz.func65 dK rfl #[.int .i64 aD,.int .i64 0,.int .i64 59] (by rfl) rfl rfl Bd ?_;(with_reducible refine(bG.calls aD 0 59 false _ M3.out).mono ?_);rintro e w' ⟨rfl,⟨nd,rfl⟩⟩;refine⟨_,rfl,?_⟩;refine hK.out _ _ (pI tZ) (fun hHeld=>?_);clear hK K;refine bY ?_)|(refine fG (fun K hK=>?_);refine jZ Tryz.func65 dK rfl #[.int .i64 aD,.int .i64 0,.int .i64 59] (by rfl) rfl rfl Bd ?_;(with_reducible refine(bG.calls aD 0 59 true _ M3.out).mono ?_);rintro e w' ⟨rfl,⟨nd,rfl⟩⟩;refine⟨_,rfl,?_⟩;refine hK.out _ _ (pI tZ) (fun hHeld=>?_);clear hK K;refine bY ?_)|(refine fG (fun K hK=>?_);refine jZ Tryz.func65 dK rfl #[.int .i64 di,.int .i64 0,.int .i64 59] (by rfl) rfl rfl Bd ?_;(with_reducible refine(bG.calls di 0 59 ag3 _ K5.out).mono ?_);rintro e w' ⟨rfl,⟨nd,rfl⟩⟩;refine⟨_,rfl,?_⟩;refine hK.out _ _ (pI tZ) (fun hHeld=>?_);clear hK K;refine bY ?_))
  refine kI (fP HT_.out dK) ?_
  try go_wp2
  go_ret
  exact⟨jv,aX⟩):p:=h
theorem eX.calls (k:Nat) (ak au:Int) (az aJ:Int) (aD di:Int) (r:Bool) (w:World) (h:eX.f k ak au az aJ aD di=some r) :
  Calls Tryz.prog 173 #[.agg #[.int .i64 ak,.int .i64 au,.int .i64 az,.int .i64 aJ,.int .i64 aD,.int .i64 di]] w fun e w'=>e = .returned (.bool r)/\Below w.heap.size w w':=by
 have zL:=Tryz.underlying117;have HB:=aa.mk (Below.refl w.heap.size w);have H:=aa.mk h;clear h;unfold eX.f at H;rcases lu H with⟨A2,H⟩|⟨A2,H⟩
 ·rcases lu H with⟨A4,H⟩|⟨A4,H⟩
  ·obtain⟨OW,A6,H⟩:=nP H;rcases lu H with⟨A7,H⟩|⟨A7,H⟩
   ·rcases lu H with⟨A9,H⟩|⟨A9,H⟩
    ·rcases lu H with⟨M3,H⟩|⟨M3,H⟩
     ·obtain⟨ag3,K5,H⟩:=nP H;exact eX.e0
     ·exact eX.e0
    ·exact eX.e0
   ·exact eX.e0
  ·exact eX.e0
 ·exact eX.e0


def iR.f (a0:Int):Option (Int):=some (wrap64 ((wrap64 ((wrap64 ((wrap64 ((wrap64 (365*(wrap64 (a0-1970))))+(wrap64 (Int.tdiv (wrap64 (a0-1)) 4))))-(wrap64 (Int.tdiv (wrap64 (a0-1)) 100))))+(wrap64 (Int.tdiv (wrap64 (a0-1)) 400))))-477))
theorem iR.calls (a0 r:Int) (w:World) (h:iR.f a0=some r) :
  Calls Tryz.prog 174 #[.int .i64 a0] w fun e w'=>e = .returned (.int .i64 r)/\bH w w':=by
 have H:=aa.mk h;clear h;unfold iR.f at H;obtain rfl:=aI H.out;go_enter Tryz.func174,Tryz.ntmps174;go_wp2;go_ret;exact⟨bR,iL⟩

def gX.l0 : Nat->Int->Int->Int->Int->Int->Int->Int->Int->Option (Int×Bool)
 |0,_,_,_,_,_,_,_,_=>none
 |k+1,x4,x5,Xm,Xn,ag4,Xo,Xp,Xq=>if x5<Xn then((fq.f k Xm x5).bind fun Sw=>(gX.l0 k (wrap64 (x4+Sw)) (wrap64 (x5+1)) Xm Xn ag4 Xo Xp Xq)) else(some (wrap64 ((wrap64 ((wrap64 ((wrap64 (86400*x4))+(wrap64 (3600*Xo))))+(wrap64 (60*Xp))))+Xq),true))
def gX.f (k:Nat) (ak:Int) (au:Int) (az:Int) (aJ:Int) (aD:Int) (di:Int):Option (Int×Bool):=(eX.f k ak au az aJ aD di).bind fun auR=>(if auR=true then((iR.f ak).bind fun Sy=>(gX.l0 k (wrap64 ((wrap64 (Sy+az))-1)) 1 ak au az aJ aD di)) else(some (0,false)))
theorem gX.calls (k:Nat) (ak au:Int) (az aJ:Int) (aD di r1:Int) (r2:Bool) (w:World) (h:gX.f k ak au az aJ aD di=some (r1,r2)) :
  Calls Tryz.prog 135 #[.agg #[.int .i64 ak,.int .i64 au,.int .i64 az,.int .i64 aJ,.int .i64 aD,.int .i64 di]] w fun e w'=>e = .returned (.tuple #[.int .i64 r1,.bool r2])/\Below w.heap.size w w':=by
 have zL:=Tryz.underlying117;have HB:=aa.mk (Below.refl w.heap.size w);have H:=aa.mk h;clear h;unfold gX.f at H;rcases lu H with⟨A2,H⟩|⟨A2,H⟩
 ·obtain⟨Sy,A4,H⟩:=nP H;go_enter Tryz.func135,Tryz.ntmps135;go_wp2_with(first|((with_reducible refine lT 1 rfl ?_);refine jL #[.int .i64 ak,.int .i64 au,.int .i64 az,.int .i64 aJ,.int .i64 aD,.int .i64 di] 117 ?_;intro yt hg w5 hbox hb;have aZ:=aa.mk (hbox);have OX:=lJ hg;have OY:=lJ hg;replace HB:=fw hb;clear hb hbox hg;have Z6:=Dz aZ;have Z7:=DC aZ;have Z8:=L8 aZ;have Z9:=MV aZ;have aaa:=L9 aZ;have aab:=Gj aZ;have aac:=ag aZ.out 0;have aad:=ag aZ.out 1;have aae:=ag aZ.out 2;have aaf:=ag aZ.out 3;have aag:=ag aZ.out 4;have aah:=ag aZ.out 5)|(go_at_call 173;(with_reducible refine(eX.calls k ak au az aJ aD di true _ A2.out).mono ?_);rintro e w7 ⟨rfl,hb⟩;replace aZ:=eF (g:=yt) hb;replace HB:=fw hb;clear hb;have aai:=Dz aZ;have aaj:=DC aZ;have aak:=L8 aZ;have aal:=MV aZ;have aam:=L9 aZ;have aan:=Gj aZ;have aao:=ag aZ.out 0;have aap:=ag aZ.out 1;have aaq:=ag aZ.out 2;have aar:=ag aZ.out 3;have aas:=ag aZ.out 4;have aat:=ag aZ.out 5)|(go_at_call 174;(with_reducible refine(iR.calls ak Sy _ A4.out).mono ?_);rintro e w' ⟨rfl,⟨nd,rfl⟩⟩;(try first|exact⟨rfl,_,World.drewN_drewN _ _ _⟩|exact⟨rfl,_,Eq.trans (World.drewN_drewN _ _ _) (congrArg (World.drewN _) (Nat.add_assoc _ _ _))⟩)));repeat(go_quiet (first|((with_reducible refine lT 1 rfl ?_);refine jL #[.int .i64 ak,.int .i64 au,.int .i64 az,.int .i64 aJ,.int .i64 aD,.int .i64 di] 117 ?_;intro yt hg w5 hbox hb;have aZ:=aa.mk (hbox);have OX:=lJ hg;have OY:=lJ hg;replace HB:=fw hb;clear hb hbox hg;have Z6:=Dz aZ;have Z7:=DC aZ;have Z8:=L8 aZ;have Z9:=MV aZ;have aaa:=L9 aZ;have aab:=Gj aZ;have aac:=ag aZ.out 0;have aad:=ag aZ.out 1;have aae:=ag aZ.out 2;have aaf:=ag aZ.out 3;have aag:=ag aZ.out 4;have aah:=ag aZ.out 5)|(go_at_call 173;(with_reducible refine(eX.calls k ak au az aJ aD di true _ A2.out).mono ?_);rintro e w7 ⟨rfl,hb⟩;replace aZ:=eF (g:=yt) hb;replace HB:=fw hb;clear hb;have aai:=Dz aZ;have aaj:=DC aZ;have aak:=L8 aZ;have aal:=MV aZ;have aam:=L9 aZ;have aan:=Gj aZ;have aao:=ag aZ.out 0;have aap:=ag aZ.out 1;have aaq:=ag aZ.out 2;have aar:=ag aZ.out 3;have aas:=ag aZ.out 4;have aat:=ag aZ.out 5)|(go_at_call 174;(with_reducible refine(iR.calls ak Sy _ A4.out).mono ?_);rintro e w' ⟨rfl,⟨nd,rfl⟩⟩;(try first|exact⟨rfl,_,World.drewN_drewN _ _ _⟩|exact⟨rfl,_,Eq.trans (World.drewN_drewN _ _ _) (congrArg (World.drewN _) (Nat.add_assoc _ _ _))⟩)));try go_wp2_with(first|((with_reducible refine lT 1 rfl ?_);refine jL #[.int .i64 ak,.int .i64 au,.int .i64 az,.int .i64 aJ,.int .i64 aD,.int .i64 di] 117 ?_;intro yt hg w5 hbox hb;have kR:=fw hb;have lF:=aa.mk (hbox);have uy:=lJ hg;have OD:=lJ hg;clear HB;have HB:=kR;have aZ:=lF;have OX:=uy;have OY:=OD;clear kR lF uy OD;clear hb hbox hg;have Z6:=Dz aZ;have Z7:=DC aZ;have Z8:=L8 aZ;have Z9:=MV aZ;have aaa:=L9 aZ;have aab:=Gj aZ;have aac:=ag aZ.out 0;have aad:=ag aZ.out 1;have aae:=ag aZ.out 2;have aaf:=ag aZ.out 3;have aag:=ag aZ.out 4;have aah:=ag aZ.out 5)|(go_at_call 173;(with_reducible refine(eX.calls k ak au az aJ aD di true _ A2.out).mono ?_);rintro e w7 ⟨rfl,hb⟩;have kR:=eF (g:=yt) hb;have lF:=fw hb;clear aZ;clear HB;have aZ:=kR;have HB:=lF;clear kR lF;clear hb;have aai:=Dz aZ;have aaj:=DC aZ;have aak:=L8 aZ;have aal:=MV aZ;have aam:=L9 aZ;have aan:=Gj aZ;have aao:=ag aZ.out 0;have aap:=ag aZ.out 1;have aaq:=ag aZ.out 2;have aar:=ag aZ.out 3;have aas:=ag aZ.out 4;have aat:=ag aZ.out 5)|(go_at_call 174;(with_reducible refine(iR.calls ak Sy _ A4.out).mono ?_);rintro e w' ⟨rfl,⟨nd,rfl⟩⟩;(try first|exact⟨rfl,_,World.drewN_drewN _ _ _⟩|exact⟨rfl,_,Eq.trans (World.drewN_drewN _ _ _) (congrArg (World.drewN _) (Nat.add_assoc _ _ _))⟩))))
  go_loopg [4,5] k (fun kq v4 v5 w'=>∃(dH:Int) (bu:Int),v4 = .int .i64 dH/\v5 = .int .i64 bu/\aa (gX.l0 kq dH bu ak au az aJ aD di=some (r1,r2))/\aa (kq<=k)/\aa (w'.heap[yt]? = some (.cells #[.int .i64 ak,.int .i64 au,.int .i64 az,.int .i64 aJ,.int .i64 aD,.int .i64 di] 117 (0,0)))/\aa (Below w.heap.size w w'))
  case atStart=>exact⟨(wrap64 ((wrap64 (Sy+az))-1)),(1),bR,bR,H,⟨Nat.le_refl _⟩,⟨oQ⟩,⟨aX⟩⟩
  case round=>
   clear H;try clear Z6
   try clear Z7
   try clear Z8
   try clear Z9
   try clear aaa
   try clear aab
   try clear aai
   try clear aaj
   try clear aak
   try clear aal
   try clear aam
   try clear aan
   try clear aac
   try clear aad
   try clear aae
   try clear aaf
   try clear aag
   try clear aah
   try clear aao
   try clear aap
   try clear aaq
   try clear aar
   try clear aas
   try clear aat
   obtain⟨dH,bu,rfl,rfl,HA,ig,aZ,HB⟩:=hrel;cases gk with
   |zero=>exact absurd HA.out (by simp[gX.l0])
   |succ k1=>
    have H:=HA;clear HA;simp only[gX.l0] at H;rcases jw H with⟨-,pg,-,H⟩|⟨-,pg,-,H⟩
    ·obtain⟨Sw,JQ,H⟩:=nP H;have _:=nN aZ;go_wp2_with(first|(go_at_call 175;(with_reducible refine(fq.calls k1 ak bu Sw _ JQ.out).mono ?_);rintro e w' ⟨rfl,⟨nd,rfl⟩⟩;(try first|exact⟨rfl,_,World.drewN_drewN _ _ _⟩|exact⟨rfl,_,Eq.trans (World.drewN_drewN _ _ _) (congrArg (World.drewN _) (Nat.add_assoc _ _ _))⟩)));repeat(go_quiet (first|(go_at_call 175;(with_reducible refine(fq.calls k1 ak bu Sw _ JQ.out).mono ?_);rintro e w' ⟨rfl,⟨nd,rfl⟩⟩;(try first|exact⟨rfl,_,World.drewN_drewN _ _ _⟩|exact⟨rfl,_,Eq.trans (World.drewN_drewN _ _ _) (congrArg (World.drewN _) (Nat.add_assoc _ _ _))⟩)));try go_wp2_with(first|(go_at_call 175;(with_reducible refine(fq.calls k1 ak bu Sw _ JQ.out).mono ?_);rintro e w' ⟨rfl,⟨nd,rfl⟩⟩;(try first|exact⟨rfl,_,World.drewN_drewN _ _ _⟩|exact⟨rfl,_,Eq.trans (World.drewN_drewN _ _ _) (congrArg (World.drewN _) (Nat.add_assoc _ _ _))⟩))))
     go_roundg k1
     case measure=>have:=ig.out;omega
     case rel=>exact⟨(wrap64 (dH+Sw)),(wrap64 (bu+1)),bR,bR,H,⟨by have:=ig.out;omega⟩,⟨oQ⟩,⟨aX⟩⟩
    ·simp only[Option.some.injEq,Prod.mk.injEq] at H;obtain⟨rfl,rfl⟩:=H;have _:=nN aZ;go_wp2;repeat(go_quiet (fail);try go_wp2)
     go_ret2;exact⟨jv,aX⟩
 ·simp only[Option.some.injEq,Prod.mk.injEq] at H;obtain⟨rfl,rfl⟩:=H;go_enter Tryz.func135,Tryz.ntmps135;go_wp2_with(first|((with_reducible refine lT 1 rfl ?_);refine jL #[.int .i64 ak,.int .i64 au,.int .i64 az,.int .i64 aJ,.int .i64 aD,.int .i64 di] 117 ?_;intro yt hg AX hbox hb;have aZ:=aa.mk (hbox);have OX:=lJ hg;have OY:=lJ hg;replace HB:=fw hb;clear hb hbox hg;have abJ:=Dz aZ;have abK:=DC aZ;have abL:=L8 aZ;have M9:=MV aZ;have Na:=L9 aZ;have Nb:=Gj aZ;have abM:=ag aZ.out 0;have abN:=ag aZ.out 1;have abO:=ag aZ.out 2;have abP:=ag aZ.out 3;have abQ:=ag aZ.out 4;have abR:=ag aZ.out 5)|(go_at_call 173;(with_reducible refine(eX.calls k ak au az aJ aD di false _ A2.out).mono ?_);rintro e w15 ⟨rfl,hb⟩;replace aZ:=eF (g:=yt) hb;replace HB:=fw hb;clear hb));repeat(go_quiet (first|((with_reducible refine lT 1 rfl ?_);refine jL #[.int .i64 ak,.int .i64 au,.int .i64 az,.int .i64 aJ,.int .i64 aD,.int .i64 di] 117 ?_;intro yt hg AX hbox hb;have aZ:=aa.mk (hbox);have OX:=lJ hg;have OY:=lJ hg;replace HB:=fw hb;clear hb hbox hg;have abJ:=Dz aZ;have abK:=DC aZ;have abL:=L8 aZ;have M9:=MV aZ;have Na:=L9 aZ;have Nb:=Gj aZ;have abM:=ag aZ.out 0;have abN:=ag aZ.out 1;have abO:=ag aZ.out 2;have abP:=ag aZ.out 3;have abQ:=ag aZ.out 4;have abR:=ag aZ.out 5)|(go_at_call 173;(with_reducible refine(eX.calls k ak au az aJ aD di false _ A2.out).mono ?_);rintro e w15 ⟨rfl,hb⟩;replace aZ:=eF (g:=yt) hb;replace HB:=fw hb;clear hb));try go_wp2_with(first|((with_reducible refine lT 1 rfl ?_);refine jL #[.int .i64 ak,.int .i64 au,.int .i64 az,.int .i64 aJ,.int .i64 aD,.int .i64 di] 117 ?_;intro yt hg AX hbox hb;have kR:=fw hb;have lF:=aa.mk (hbox);have uy:=lJ hg;have OD:=lJ hg;clear HB;have HB:=kR;have aZ:=lF;have OX:=uy;have OY:=OD;clear kR lF uy OD;clear hb hbox hg;have abJ:=Dz aZ;have abK:=DC aZ;have abL:=L8 aZ;have M9:=MV aZ;have Na:=L9 aZ;have Nb:=Gj aZ;have abM:=ag aZ.out 0;have abN:=ag aZ.out 1;have abO:=ag aZ.out 2;have abP:=ag aZ.out 3;have abQ:=ag aZ.out 4;have abR:=ag aZ.out 5)|(go_at_call 173;(with_reducible refine(eX.calls k ak au az aJ aD di false _ A2.out).mono ?_);rintro e w15 ⟨rfl,hb⟩;have kR:=eF (g:=yt) hb;have lF:=fw hb;clear aZ;clear HB;have aZ:=kR;have HB:=lF;clear kR lF;clear hb)))
  go_ret2;exact⟨jv,aX⟩


mutual
def dL.l0 : Nat->Int->Int->Int->Int->Int->Int->Int->Option (Int×Int×Int×Int×Int×Int)
 |0,_,_,_,_,_,_,_=>none
 |k+1,x3,wB,zM,I9,Ej,El,Em=>(iR.f (wrap64 (wB+1))).bind fun abS=>(if abS<=x3 then(dL.l0 k x3 (wrap64 (wB+1)) zM I9 Ej El Em) else((iR.f wB).bind fun abT=>(dL.l1 k (wrap64 (x3-abT)) wB zM I9 Ej El Em)))
def dL.l1 : Nat->Int->Int->Int->Int->Int->Int->Int->Option (Int×Int×Int×Int×Int×Int)
 |0,_,_,_,_,_,_,_=>none
 |k+1,x3,wB,zM,I9,Ej,El,Em=>(fq.f k wB zM).bind fun abU=>(if x3>=abU then((fq.f k wB zM).bind fun abV=>(dL.l1 k (wrap64 (x3-abV)) wB (wrap64 (zM+1)) I9 Ej El Em)) else(some (wB,zM,wrap64 (x3+1),Ej,El,Em)))
end
def dL.f (k:Nat) (a0:Int):Option (Int×Int×Int×Int×Int×Int):=dL.l0 k (wrap64 (Int.tdiv a0 86400)) (wrap64 (1970+(wrap64 (Int.tdiv (wrap64 (Int.tdiv a0 86400)) 366)))) 1 0 (wrap64 (Int.tdiv (Int.tmod a0 86400) 3600)) (Int.tmod (wrap64 (Int.tdiv (Int.tmod a0 86400) 60)) 60) (Int.tmod (Int.tmod a0 86400) 60)
theorem dL.calls (k:Nat) (a0 r1:Int) (r2 r3:Int) (r4 r5 r6:Int) (w:World) (h:dL.f k a0=some (r1,r2,r3,r4,r5,r6)) :
  Calls Tryz.prog 176 #[.int .i64 a0] w fun e w'=>e = .returned (.agg #[.int .i64 r1,.int .i64 r2,.int .i64 r3,.int .i64 r4,.int .i64 r5,.int .i64 r6])/\Below w.heap.size w w':=by
 have zL:=Tryz.underlying117;have HB:=aa.mk (Below.refl w.heap.size w);have H:=aa.mk h;clear h;unfold dL.f at H;rw[show Int.tmod (Int.tmod a0 86400) 60=Int.tmod a0 60 from by first|exact Int.tmod_tmod_of_dvd a0 aA|simp] at H;go_enter Tryz.func176,Tryz.ntmps176;go_wp2_with(first|((with_reducible refine lT 2 rfl ?_);refine Fp #[.int .i64 0,.int .i64 0,.int .i64 0,.int .i64 0,.int .i64 0,.int .i64 0] 117 ?_;clear HB;intro Cy w2 sM azG HB)|((with_reducible refine lT 5 rfl ?_);refine jL #[.int .i64 0,.int .i64 0,.int .i64 0,.int .i64 0,.int .i64 0,.int .i64 0] 117 ?_;intro wC hg w3 hbox hb;have kD:=aa.mk (hbox);have azH:=lJ hg;have uZ:=CZ (g:=Cy) hg;have xR:=DL uZ;replace sM:=eF (g:=Cy) hb;replace HB:=fw hb;clear hb hbox hg;have aFF:=xR.out;have aFG:=uZ.out;have _:=nN kD));go_loopg [] k (fun kq w'=>∃(kQ:Int),aa (dL.l0 kq (wrap64 (Int.tdiv a0 86400)) kQ 1 0 (wrap64 (Int.tdiv (Int.tmod a0 86400) 3600)) (Int.tmod (wrap64 (Int.tdiv (Int.tmod a0 86400) 60)) 60) (Int.tmod a0 60)=some (r1,r2,r3,r4,r5,r6))/\aa (kq<=k)/\aa (w'.heap[Cy]? = some (.cells #[.int .i64 0,.int .i64 0,.int .i64 0,.int .i64 0,.int .i64 0,.int .i64 0] 117 (0,0)))/\aa (w'.heap[wC]? = some (.cells #[.int .i64 kQ,.int .i64 1,.int .i64 0,.int .i64 (wrap64 (Int.tdiv (Int.tmod a0 86400) 3600)),.int .i64 (Int.tmod (wrap64 (Int.tdiv (Int.tmod a0 86400) 60)) 60),.int .i64 (Int.tmod a0 60)] 117 (0,0)))/\aa (Below w.heap.size w w'))
 case atStart=>exact⟨(wrap64 (1970+(wrap64 (Int.tdiv (wrap64 (Int.tdiv a0 86400)) 366)))),H,⟨Nat.le_refl _⟩,⟨oQ⟩,⟨oQ⟩,⟨aX⟩⟩
 case round=>
  clear H;obtain⟨kQ,HA,ig,sM,kD,HB⟩:=hrel;cases gk with
  |zero=>exact absurd HA.out (by simp[dL.l0])
  |succ k1=>
   have H:=HA;clear HA;simp only[dL.l0] at H;obtain⟨abS,A6,H⟩:=nP H;rcases jw H with⟨-,nR,-,H⟩|⟨-,nR,-,H⟩
   ·have as6:=xR.out;have as7:=uZ.out;have _:=TB kD;have azI:wr.cell? ⟨wC,3,none⟩=some (.int .i64 (wrap64 (Int.tdiv (Int.tmod a0 86400) 3600))):=(ah kD.out 3).trans rfl;have azJ:wr.cell? ⟨wC,4,none⟩=some (.int .i64 (Int.tmod (wrap64 (Int.tdiv (Int.tmod a0 86400) 60)) 60)):=(ah kD.out 4).trans rfl;have azK:=Gj kD;have _:=TC kD;go_wp2_with(first|((with_reducible refine cZ 174 rfl ?_);refine mM 24 rfl Tryz.func174 (iR.calls (wrap64 (kQ+1)) abS _ A6.out) fun nd=>?_;(try(rw[ko wr];generalize hq_:World.drewN wr _=wr;have kR:aa (wr.heap[Cy]? = some (.cells #[.int .i64 0,.int .i64 0,.int .i64 0,.int .i64 0,.int .i64 0,.int .i64 0] 117 (0,0))):=⟨ajM⟩;have lF:aa (wr.heap[wC]? = some (.cells #[.int .i64 kQ,.int .i64 1,.int .i64 0,.int .i64 (wrap64 (Int.tdiv (Int.tmod a0 86400) 3600)),.int .i64 (Int.tmod (wrap64 (Int.tdiv (Int.tmod a0 86400) 60)) 60),.int .i64 (Int.tmod a0 60)] 117 (0,0))):=⟨ajN⟩;have uy:aa (Below w.heap.size w wr):=⟨by rw[<- hq_];exact aX⟩;clear sM kD HB hq_;have sM:=kR;have kD:=lF;have HB:=uy;clear kR lF uy;have _:=nN sM;have _:=nN kD))));go_roundg k1
    case measure=>have:=ig.out;omega
    case rel=>exact⟨(wrap64 (kQ+1)),H,⟨by have:=ig.out;omega⟩,⟨oQ⟩,⟨oQ⟩,⟨aX⟩⟩
   ·obtain⟨abT,JQ,H⟩:=nP H;have auS:=xR.out;have auT:=uZ.out;have _:=TB kD;have abW:wr.cell? ⟨wC,3,none⟩=some (.int .i64 (wrap64 (Int.tdiv (Int.tmod a0 86400) 3600))):=(ah kD.out 3).trans rfl;have abX:wr.cell? ⟨wC,4,none⟩=some (.int .i64 (Int.tmod (wrap64 (Int.tdiv (Int.tmod a0 86400) 60)) 60)):=(ah kD.out 4).trans rfl;have abY:=Gj kD;have _:=TC kD;go_wp2_with(first|((with_reducible refine cZ 174 rfl ?_);refine mM 24 rfl Tryz.func174 (iR.calls (wrap64 (kQ+1)) abS _ A6.out) fun nd=>?_)|((with_reducible refine cZ 174 rfl ?_);refine mM 34 rfl Tryz.func174 (iR.calls kQ abT _ JQ.out) fun nd=>?_));go_loopg [3] k1 (fun kq v3 w'=>∃(lZ:Int) (oM:Int),v3 = .int .i64 lZ/\aa (dL.l1 kq lZ kQ oM 0 (wrap64 (Int.tdiv (Int.tmod a0 86400) 3600)) (Int.tmod (wrap64 (Int.tdiv (Int.tmod a0 86400) 60)) 60) (Int.tmod a0 60)=some (r1,r2,r3,r4,r5,r6))/\aa (kq<=k1)/\aa (w'.heap[Cy]? = some (.cells #[.int .i64 0,.int .i64 0,.int .i64 0,.int .i64 0,.int .i64 0,.int .i64 0] 117 (0,0)))/\aa (w'.heap[wC]? = some (.cells #[.int .i64 kQ,.int .i64 oM,.int .i64 0,.int .i64 (wrap64 (Int.tdiv (Int.tmod a0 86400) 3600)),.int .i64 (Int.tmod (wrap64 (Int.tdiv (Int.tmod a0 86400) 60)) 60),.int .i64 (Int.tmod a0 60)] 117 (0,0)))/\aa (Below w.heap.size w w'))
    case atStart=>exact⟨(wrap64 ((wrap64 (Int.tdiv a0 86400))-abT)),(1),bR,H,⟨Nat.le_refl _⟩,⟨oQ⟩,⟨oQ⟩,⟨aX⟩⟩
    case round=>
     clear H;try clear nR
     try clear abW
     try clear abX
     try clear abY
     obtain⟨lZ,oM,rfl,HA,tO,sM,kD,HB⟩:=hrel;cases gk with
     |zero=>exact absurd HA.out (by simp[dL.l1])
     |succ k2=>
      have H:=HA;clear HA;simp only[dL.l1] at H;obtain⟨abU,K5,H⟩:=nP H;rcases jw H with⟨-,wu,-,H⟩|⟨-,wu,-,H⟩
      ·obtain⟨abV,UI,H⟩:=nP H;have aDa:=xR.out;have aDb:=uZ.out;have _:=TB kD;have axw:wr.cell? ⟨wC,3,none⟩=some (.int .i64 (wrap64 (Int.tdiv (Int.tmod a0 86400) 3600))):=(ah kD.out 3).trans rfl;have axx:wr.cell? ⟨wC,4,none⟩=some (.int .i64 (Int.tmod (wrap64 (Int.tdiv (Int.tmod a0 86400) 60)) 60)):=(ah kD.out 4).trans rfl;have axy:=Gj kD;have _:=TC kD;go_wp2_with(first|((with_reducible refine cZ 175 rfl ?_);refine mM 41 rfl Tryz.func175 (fq.calls k2 kQ oM abU _ K5.out) fun nd=>?_;(try(rw[ko wr];generalize hq_:World.drewN wr _=wr;have kR:aa (wr.heap[Cy]? = some (.cells #[.int .i64 0,.int .i64 0,.int .i64 0,.int .i64 0,.int .i64 0,.int .i64 0] 117 (0,0))):=⟨ajM⟩;have lF:aa (wr.heap[wC]? = some (.cells #[.int .i64 kQ,.int .i64 oM,.int .i64 0,.int .i64 (wrap64 (Int.tdiv (Int.tmod a0 86400) 3600)),.int .i64 (Int.tmod (wrap64 (Int.tdiv (Int.tmod a0 86400) 60)) 60),.int .i64 (Int.tmod a0 60)] 117 (0,0))):=⟨ajN⟩;have uy:aa (Below w.heap.size w wr):=⟨by rw[<- hq_];exact aX⟩;clear sM kD HB hq_;have sM:=kR;have kD:=lF;have HB:=uy;clear kR lF uy;have _:=nN sM;have _:=nN kD)))|((with_reducible refine cZ 175 rfl ?_);refine mM 48 rfl Tryz.func175 (fq.calls k2 kQ oM abV _ UI.out) fun nd=>?_;(try(rw[ko wr];generalize hq_:World.drewN wr _=wr;have kR:aa (wr.heap[Cy]? = some (.cells #[.int .i64 0,.int .i64 0,.int .i64 0,.int .i64 0,.int .i64 0,.int .i64 0] 117 (0,0))):=⟨ajM⟩;have lF:aa (wr.heap[wC]? = some (.cells #[.int .i64 kQ,.int .i64 oM,.int .i64 0,.int .i64 (wrap64 (Int.tdiv (Int.tmod a0 86400) 3600)),.int .i64 (Int.tmod (wrap64 (Int.tdiv (Int.tmod a0 86400) 60)) 60),.int .i64 (Int.tmod a0 60)] 117 (0,0))):=⟨ajN⟩;have uy:aa (Below w.heap.size w wr):=⟨by rw[<- hq_];exact aX⟩;clear sM kD HB hq_;have sM:=kR;have kD:=lF;have HB:=uy;clear kR lF uy;have _:=nN sM;have _:=nN kD))));go_roundg k2
       case measure=>have:=ig.out;have:=tO.out;omega
       case rel=>exact⟨(wrap64 (lZ-abV)),(wrap64 (oM+1)),bR,H,⟨TI⟩,⟨oQ⟩,⟨oQ⟩,⟨aX⟩⟩
      ·simp only[Option.some.injEq,Prod.mk.injEq] at H;obtain⟨rfl,rfl,rfl,rfl,rfl,rfl⟩:=H;have af7:=xR.out;have af8:=uZ.out;have _:=TB kD;have Nc:wr.cell? ⟨wC,3,none⟩=some (.int .i64 (wrap64 (Int.tdiv (Int.tmod a0 86400) 3600))):=(ah kD.out 3).trans rfl;have Nf:wr.cell? ⟨wC,4,none⟩=some (.int .i64 (Int.tmod (wrap64 (Int.tdiv (Int.tmod a0 86400) 60)) 60)):=(ah kD.out 4).trans rfl;have Ng:=Gj kD;have _:=TC kD;go_wp2_with(first|((with_reducible refine cZ 175 rfl ?_);refine mM 41 rfl Tryz.func175 (fq.calls k2 kQ oM abU _ K5.out) fun nd=>?_;(try(rw[ko wr];generalize hq_:World.drewN wr _=wr;have kR:aa (wr.heap[Cy]? = some (.cells #[.int .i64 0,.int .i64 0,.int .i64 0,.int .i64 0,.int .i64 0,.int .i64 0] 117 (0,0))):=⟨ajM⟩;have lF:aa (wr.heap[wC]? = some (.cells #[.int .i64 kQ,.int .i64 oM,.int .i64 0,.int .i64 (wrap64 (Int.tdiv (Int.tmod a0 86400) 3600)),.int .i64 (Int.tmod (wrap64 (Int.tdiv (Int.tmod a0 86400) 60)) 60),.int .i64 (Int.tmod a0 60)] 117 (0,0))):=⟨ajN⟩;have uy:aa (Below w.heap.size w wr):=⟨by rw[<- hq_];exact aX⟩;clear sM kD HB hq_;have sM:=kR;have kD:=lF;have HB:=uy;clear kR lF uy;have _:=nN sM;have _:=nN kD));have _:=nN sM));refine bodyPost_ret (results_cell_row rfl _ _ Cy 117 #[.int .i64 kQ,.int .i64 oM,.int .i64 (wrap64 (lZ+1)),.int .i64 (wrap64 (Int.tdiv (Int.tmod a0 86400) 3600)),.int .i64 (Int.tmod (wrap64 (Int.tdiv (Int.tmod a0 86400) 60)) 60),.int .i64 (Int.tmod a0 60)] (0,0) _ rfl gBz Tryz.underlying117 rfl dK) rfl ?_;exact⟨jv,aX⟩

def rT.f  : Option (List ByteArray):=some (([(⟨#[77,111,110,100,97,121]⟩:af),(⟨#[84,117,101,115,100,97,121]⟩:af),(⟨#[87,101,100,110,101,115,100,97,121]⟩:af),(⟨#[84,104,117,114,115,100,97,121]⟩:af),(⟨#[70,114,105,100,97,121]⟩:af),(⟨#[83,97,116,117,114,100,97,121]⟩:af),(⟨#[83,117,110,100,97,121]⟩:af)]:List ByteArray))
theorem rT.calls  (r:List ByteArray) (w:World) (h:rT.f  = some r) :
  Calls Tryz.prog 177 #[] w fun e w'=>∃ Df:Value,e = .returned (Df)/\Kd.R Kd.string 9 w' w.heap.size (fun _=>True) Df r/\Below w.heap.size w w':=by
 have HB:=aa.mk (Below.refl w.heap.size w);have H:=h;clear h;unfold rT.f at H;obtain⟨auU,OZ⟩:∃ y_:List ByteArray,y_=(([(⟨#[77,111,110,100,97,121]⟩:af),(⟨#[84,117,101,115,100,97,121]⟩:af),(⟨#[87,101,100,110,101,115,100,97,121]⟩:af),(⟨#[84,104,117,114,115,100,97,121]⟩:af),(⟨#[70,114,105,100,97,121]⟩:af),(⟨#[83,97,116,117,114,100,97,121]⟩:af),(⟨#[83,117,110,100,97,121]⟩:af)]:List ByteArray)):=⟨_,rfl⟩;replace H:(some auU)=some r:=by first|(rw[OZ];with_reducible exact H)|(have kP:=(ax _ _).symm.trans H;rw[OZ];with_reducible exact kP)|(have kP:=(ax _ _).symm.trans H;with_reducible exact kP)|with_reducible exact H|(rw[OZ];exact H)|exact H
 have ag5:=aa.mk OZ;clear OZ;obtain rfl:=aI H;go_enter Tryz.func177,Tryz.ntmps177;go_wp2_with(((with_reducible refine lT 1 rfl ?_);refine Kd.Re Kd.string _ 9 ?hg (N:=1) ?hd (xs:=([(⟨#[77,111,110,100,97,121]⟩:af),(⟨#[84,117,101,115,100,97,121]⟩:af),(⟨#[87,101,100,110,101,115,100,97,121]⟩:af),(⟨#[84,104,117,114,115,100,97,121]⟩:af),(⟨#[70,114,105,100,97,121]⟩:af),(⟨#[83,97,116,117,114,100,97,121]⟩:af),(⟨#[83,117,110,100,97,121]⟩:af)]:List ByteArray)) (inner:=[.string (⟨#[77,111,110,100,97,121]⟩:af),.string (⟨#[84,117,101,115,100,97,121]⟩:af),.string (⟨#[87,101,100,110,101,115,100,97,121]⟩:af),.string (⟨#[84,104,117,114,115,100,97,121]⟩:af),.string (⟨#[70,114,105,100,97,121]⟩:af),.string (⟨#[83,97,116,117,114,100,97,121]⟩:af),.string (⟨#[83,117,110,100,97,121]⟩:af)]) (ok:=fun _=>True) (okp:=fun _=>True) ?hr ?hp (fun _ hk=>hk) trivial (Below.refl _ _) (Nat.le_refl _) (by simp) ?_;(case hd=>rfl);(case hg=>rfl);(case hr=>first|(go_simp;done)|(go_simp;rfl));(case hp=>exact(fI.one (show Kd.M Kd.string _ _ _ (⟨#[77,111,110,100,97,121]⟩:af) [.string (⟨#[77,111,110,100,97,121]⟩:af)] from rfl) (fI.one (show Kd.M Kd.string _ _ _ (⟨#[84,117,101,115,100,97,121]⟩:af) [.string (⟨#[84,117,101,115,100,97,121]⟩:af)] from rfl) (fI.one (show Kd.M Kd.string _ _ _ (⟨#[87,101,100,110,101,115,100,97,121]⟩:af) [.string (⟨#[87,101,100,110,101,115,100,97,121]⟩:af)] from rfl) (fI.one (show Kd.M Kd.string _ _ _ (⟨#[84,104,117,114,115,100,97,121]⟩:af) [.string (⟨#[84,104,117,114,115,100,97,121]⟩:af)] from rfl) (fI.one (show Kd.M Kd.string _ _ _ (⟨#[70,114,105,100,97,121]⟩:af) [.string (⟨#[70,114,105,100,97,121]⟩:af)] from rfl) (fI.one (show Kd.M Kd.string _ _ _ (⟨#[83,97,116,117,114,100,97,121]⟩:af) [.string (⟨#[83,97,116,117,114,100,97,121]⟩:af)] from rfl) (fI.one (show Kd.M Kd.string _ _ _ (⟨#[83,117,110,100,97,121]⟩:af) [.string (⟨#[83,117,110,100,97,121]⟩:af)] from rfl) (fI.none _ _)))))))));intro aDc gG ho2 hb hg_ hnew_;clear hg_ hnew_;(first|rw[<- ag5.out] at ho2|(simp only[Int.reduceToNat] at ho2;rw[<- ag5.out] at ho2));have azL:=aa.mk (Kd.gu ho2 (aN aX));replace HB:=fw hb;clear hb ho2));go_ret;exact⟨_,jv,qE,aX⟩


def kz.f (a0:Int):Option (Int):=(gW.f a0).bind fun auV=>(if auV=true then(some (Int.tmod (wrap64 ((wrap64 (Int.tdiv a0 86400))+3)) 7)) else(some (-1)))
theorem kz.e0 {p:Prop} (h:p:=by
  obtain rfl:=aI H.out
  go_enter Tryz.func178,Tryz.ntmps178
  go_wp2_with(first|((with_reducible refine cZ 37 rfl ?_);refine mM 4 rfl Tryz.func37 (gW.calls a0 false _ A2.out) fun nd=>?_)|((with_reducible refine cZ 37 rfl ?_);refine mM 4 rfl Tryz.func37 (gW.calls a0 true _ A2.out) fun nd=>?_))
  go_ret
  exact⟨bR,iL⟩):p:=h
theorem kz.calls (a0 r:Int) (w:World) (h:kz.f a0=some r) :
  Calls Tryz.prog 178 #[.int .i64 a0] w fun e w'=>e = .returned (.int .i64 r)/\bH w w':=by
 have H:=aa.mk h;clear h;unfold kz.f at H;rcases lu H with⟨A2,H⟩|⟨A2,H⟩
 ·exact kz.e0
 ·exact kz.e0

def dR.l0 : Nat->Int->Int->ByteArray->Option (ByteArray)
 |0,_,_,_=>none
 |k+1,x0,x1,x5=>if x1>0 then((fT.f (Int.tmod x0 10)).bind fun Xr=>(if Xr.size+x5.size<=9223372036854775807 then(dR.l0 k (wrap64 (Int.tdiv x0 10)) (wrap64 (x1-1)) (Xr++x5)) else(none))) else(some x5)
def dR.f (k:Nat) (a0:Int) (a1:Int):Option (ByteArray):=dR.l0 k a0 a1 (⟨#[]⟩:af)
theorem dR.calls (k:Nat) (a0 a1:Int) (r:ByteArray) (w:World) (h:dR.f k a0 a1=some r) (HT0:mX w) :
  Calls Tryz.prog 179 #[.int .i64 a0,.int .i64 a1] w fun e w'=>e = .returned (.string r)/\Below w.heap.size w w':=by
 have HT:=aa.mk HT0;clear HT0;have HB:=aa.mk (Below.refl w.heap.size w);have H:=aa.mk h;clear h;unfold dR.f at H;go_enter Tryz.func179,Tryz.ntmps179;go_wp2;go_loopg [0,1,5] k (fun kq v0 v1 v5 w'=>∃(qU:Int) (QL:Int) (bu:ByteArray),v0 = .int .i64 qU/\v1 = .int .i64 QL/\v5 = .string bu/\aa (dR.l0 kq qU QL bu=some r)/\aa (kq<=k)/\aa (Below w.heap.size w w'))
 case atStart=>exact⟨(a0),(a1),((⟨#[]⟩:af)),bR,bR,bR,H,⟨Nat.le_refl _⟩,⟨aX⟩⟩
 case round=>
  clear H;obtain⟨qU,QL,bu,rfl,rfl,rfl,HA,ig,HB⟩:=hrel;cases gk with
  |zero=>exact absurd HA.out (by simp[dR.l0])
  |succ k1=>
   have H:=HA;clear HA;simp only[dR.l0] at H;rcases jw H with⟨-,cB,-,H⟩|⟨-,cB,-,H⟩
   ·obtain⟨Xr,A4,H⟩:=nP H;obtain⟨c5,rO,jV,H⟩:=nZ H;try have akA:=eq_false (Nat.not_lt.2 c5)
    go_wp2_with(((with_reducible refine cZ 111 rfl ?_);refine iW 12 rfl Tryz.func111 (fT.calls (Int.tmod qU 10) Xr _ A4.out (dV HT)) fun gG hb HB=>?_;clear hb));go_roundg k1
    case measure=>have:=ig.out;omega
    case rel=>exact⟨(wrap64 (Int.tdiv qU 10)),(wrap64 (QL-1)),(Xr++bu),bR,bR,bR,H,⟨by have:=ig.out;omega⟩,⟨aX⟩⟩
   ·obtain rfl:=aI H.out;go_wp2;go_ret;exact⟨jv,aX⟩

def jE.f (k:Nat) (ak:Int) (au:Int) (az:Int) (aJ:Int) (aD:Int) (di:Int):Option (ByteArray):=(dR.f k aJ 2).bind fun O0=>(if O0.size+1<=9223372036854775807 then((dR.f k aD 2).bind fun Sz=>(if(O0++(⟨#[58]⟩:af)).size+Sz.size<=9223372036854775807 then(if((O0++(⟨#[58]⟩:af))++Sz).size+1<=9223372036854775807 then((dR.f k di 2).bind fun abZ=>(if(((O0++(⟨#[58]⟩:af))++Sz)++(⟨#[58]⟩:af)).size+abZ.size<=9223372036854775807 then(some ((((O0++(⟨#[58]⟩:af))++Sz)++(⟨#[58]⟩:af))++abZ)) else(none))) else(none)) else(none))) else(none))
def jE.T1 : Bool×List (List Nat×List Nat):=(true,[([],[]),([0],[0]),([1],[1]),([2],[2]),([],[]),([4],[4]),([5,2],[5]),([3,6],[3,6]),([7],[7]),([],[]),([9],[9]),([10,6],[10]),([8,11],[8,11]),([12,11,0,1,2,3,4,5,6,7,8,9,10,11,12],[12])])
def jE.B1 : List Nat:=[0,1,3,7,0,16,55,127,255,0,512,1655,4095,8191]
theorem jE.yo : nL .any (opsOf Tryz.f180 1)=jE.T1:=by kernel_rfl
theorem jE.rP : jf jE.T1.2 jE.B1=true:=by kernel_rfl
theorem jE.calls (k:Nat) (ak au:Int) (az aJ:Int) (aD di:Int) (r:ByteArray) (w:World) (h:jE.f k ak au az aJ aD di=some r) (HT0:mX w) :
  Calls Tryz.prog 180 #[.agg #[.int .i64 ak,.int .i64 au,.int .i64 az,.int .i64 aJ,.int .i64 aD,.int .i64 di]] w fun e w'=>e = .returned (.string r)/\Below w.heap.size w w':=by
 have HT:=aa.mk HT0;clear HT0;have zL:=Tryz.underlying117;have HB:=aa.mk (Below.refl w.heap.size w);have H:=aa.mk h;clear h;unfold jE.f at H;obtain⟨O0,A2,H⟩:=nP H;rcases jw H with⟨c3,nE,cB,H⟩|⟨c3,-,-,H⟩
 ·try have Mv:=eq_false (Nat.not_lt.2 c3)
  obtain⟨Sz,A4,H⟩:=nP H;obtain⟨c5,rO,jV,H⟩:=nZ H;try have akA:=eq_false (Nat.not_lt.2 c5)
  try(have GQ:=c5;simp only[ByteArray.size_append,si,List.length_cons,List.length_nil,Nat.zero_add,Nat.reduceAdd] at GQ;replace GQ:=eq_false (Nat.not_lt.2 GQ))
  obtain⟨c6,pq,jy,H⟩:=nZ H;try have agN:=eq_false (Nat.not_lt.2 c6)
  try(have OA:=c6;simp only[ByteArray.size_append,si,List.length_cons,List.length_nil,Nat.zero_add,Nat.reduceAdd] at OA;replace OA:=eq_false (Nat.not_lt.2 OA))
  obtain⟨abZ,A7,H⟩:=nP H;obtain⟨c8,za,mU,H⟩:=nZ H;try have aqV:=eq_false (Nat.not_lt.2 c8)
  try(have aau:=c8;simp only[ByteArray.size_append,si,List.length_cons,List.length_nil,Nat.zero_add,Nat.reduceAdd] at aau;replace aau:=eq_false (Nat.not_lt.2 aau))
  obtain rfl:=aI H.out;go_enter Tryz.func180,Tryz.ntmps180;try go_wp2_with(((with_reducible refine lT 1 rfl ?_);refine Fp #[.int .i64 ak,.int .i64 au,.int .i64 az,.int .i64 aJ,.int .i64 aD,.int .i64 di] 117 ?_;clear HB;intro Cz gG AY azM HB))
  replace AY:=aa.mk (eu AY.out);replace HB:=aa.mk (bE HB.out);refine jP (n:=14) (S:=fun w'=>w'.cell? ⟨Cz,0,none⟩=some (.int .i64 ak)/\w'.cell? ⟨Cz,1,none⟩=some (.int .i64 au)/\w'.cell? ⟨Cz,2,none⟩=some (.int .i64 az)/\w'.cell? ⟨Cz,3,none⟩=some (.int .i64 aJ)/\w'.cell? ⟨Cz,4,none⟩=some (.int .i64 aD)/\w'.cell? ⟨Cz,5,none⟩=some (.int .i64 di)) (ds:=[]) (pI AY) (fun hHeld=>?_);refine dw jE.yo jE.rP (fun HT_ HW_=>?_);generalize gG.drew=jH at AY HB hHeld ⊢;repeat(first|refine lC ?_ (hy:=Or.inl ⟨by rfl,TE⟩)|refine dA ?_)
  refine bq 4 (some 7) ?_;refine fB 5 (some 8) (hy:=Or.inl ⟨by rfl,TE⟩) ?_;refine bq 9 (some 12) ?_;refine fB 10 (some 13) (hy:=Or.inl ⟨by rfl,TE⟩) ?_;refine fG (fun K hK=>?_);refine EY Tryz.func179 (dR.calls k aJ 2 O0 _ A2.out (dV HT)) fun mP hb=>?_;replace AY:=eF (g:=Cz) hb;replace HB:=fw hb;(try clear hb)
  refine hK.out _ _ (pI AY) (fun hHeld=>?_);clear hK K;refine bY ?_;repeat(first|refine dA ?_)
  refine fG (fun K hK=>?_);refine EY Tryz.func179 (dR.calls k aD 2 Sz _ A4.out (dV HT)) fun mP hb=>?_;replace AY:=eF (g:=Cz) hb;replace HB:=fw hb;(try clear hb)
  refine hK.out _ _ (pI AY) (fun hHeld=>?_);clear hK K;refine bY ?_;repeat(first|refine dA ?_)
  refine fG (fun K hK=>?_);refine EY Tryz.func179 (dR.calls k di 2 abZ _ A7.out (dV HT)) fun mP hb=>?_;replace AY:=eF (g:=Cz) hb;replace HB:=fw hb;(try clear hb)
  refine hK.out _ _ (pI AY) (fun hHeld=>?_);clear hK K;refine bY ?_;repeat(first|refine dA ?_)
  refine kI (fP HT_.out dK) ?_;try go_wp2
  go_ret;exact⟨jv,aX⟩
 ·exact absurd H.out (by simp)

end Go.Proofs.YtfhllanhldbkkaaGreatDoor.P
