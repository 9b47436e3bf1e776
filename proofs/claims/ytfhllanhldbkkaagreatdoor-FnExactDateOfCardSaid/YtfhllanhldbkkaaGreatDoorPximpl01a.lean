import Derived.Lib.AtoiAll
import Derived.Lib.AtoiErrMem
import Derived.Test.YtfhllanhldbkkaaGreatDoorShelf
import Derived.Test.YtfhllanhldbkkaaGreatDoorPx0
import Derived.Test.YtfhllanhldbkkaaGreatDoorPxliba
import Derived.Test.YtfhllanhldbkkaaGreatDoorWC
namespace Go.Proofs.YtfhllanhldbkkaaGreatDoor.P
set_option maxHeartbeats 8000000
set_option maxRecDepth 100000
open Go.RowKit Go.Proofs.YtfhllanhldbkkaaGreatDoorW.ax Go.Proofs.YtfhllanhldbkkaaGreatDoorW.aD Go.Proofs.YtfhllanhldbkkaaGreatDoorW.aH
attribute [local go_sem] nZ oh qI qJ mq mr om oo   -- for this text's walks alone
set_option linter.unusedVariables false
set_option linter.unusedSimpArgs false

def o5.f (a0:Int):Option (Bool):=if a0≥65 then(some (decide (a0≤90))) else(some false)
theorem o5.calls (a0:Int) (r:Bool) (w:World) (h:o5.f a0=some r) :
  Calls Tryz.prog 130 #[.int .u8 a0] w fun e w'=>e = .returned (.bool r)∧ed w w':=by
 have H:=h;clear h;unfold o5.f at H;replace H:=gI H;rcases H with⟨c2,-,-,H⟩|⟨c2,-,-,H⟩
 ·have nk:decide (65≤a0)=true:=aT c2;clear c2;obtain rfl:=cu H;go_enter Tryz.func130,Tryz.ntmps130;go_wp2;go_ret;exact⟨fI,lG⟩
 ·have nk:decide (65≤a0)=false:=aN c2;clear c2;obtain rfl:=cu H;go_enter Tryz.func130,Tryz.ntmps130;go_wp2;go_ret;exact⟨fI,lG⟩

theorem Xo (c:Int):o5.f c=some (decide (65≤c∧c≤90)):=by
 unfold o5.f
 by_cases h:c≥65
 ·rw[if_pos h];congr 1;simp[h]
 ·rw[if_neg h];congr 1;simp;omega
def mI.f (a0:ByteArray):Option (ByteArray):=if a0.size≤9223372036854775807 then some (iN a0) else none
theorem mI.calls (a0 r:ByteArray) (w:World) (h:mI.f a0=some r) :
  Calls Tryz.prog 89 #[.string a0] w fun e w'=>e = .returned (.string r)∧Below w.heap.size w w':=by
 unfold mI.f at h;by_cases hs:a0.size≤9223372036854775807
 case neg=>rw[if_neg hs] at h;cases h
 rw[if_pos hs] at h;obtain rfl:=cu h;clear h;have kb:=fun W=>PG (P:=Tryz.prog) 9 100 5 Tryz.underlying9 Tryz.underlying100 Tryz.underlying5 a0 W;have Xp:Fx (Lib.bytesWorld w 5 a0) w.heap.size 5 (Ep a0 0):=by rw[Rb];exact Fx.new w 5 a0
 have hbel0:Below w.heap.size w (Lib.bytesWorld w 5 a0):=PH (Below.refl _ _) (Nat.le_refl _) 5 a0;go_enter Tryz.func89,Tryz.ntmps89;go_wp2;clear kb;go_loopw [10] (fun i wr=>∃ k:Nat,k≤a0.size∧i = .int .i64 k∧Fx wr w.heap.size 5 (Ep a0 k)∧Below w.heap.size w wr) (fun i _=>a0.size-(intOf i).toNat)
 case atStart=>exact⟨0,Nat.zero_le _,rfl,Xp,hbel0⟩
 case round=>
  obtain⟨k,hk,rfl,hrow,hbel⟩:=hrel;clear Xp hbel0;by_cases hlt:k<a0.size
  ·have hcell:=hrow.cell k (by rw[tK];exact hlt);rw[Rc a0 k hlt] at hcell;have hfree:=hrow.free k (by rw[tK];exact hlt);have hr:=dx a0 (k:Int);have hl:=Xo (bt a0 k);have Hrow:=ae.mk hrow;have Hbel:=ae.mk hbel;clear hrow hbel;by_cases hup:65≤bt a0 (k:Int)∧bt a0 (k:Int)≤90
   ·rw[aT hup] at hl;go_wp2_with(go_at_call 130;refine(o5.calls _ _ _ hl).mono ?_;rintro e w' ⟨rfl,⟨nd,rfl⟩⟩);have hlow:low (bt a0 (k:Int))=bt a0 (k:Int)+32:=by unfold low;rw[if_pos hup]
    exact⟨⟨k+1,by omega,by go_num,by rw[← Mx a0 k hlt,hlow];exact(Hrow.out.drewN nd).set k (by rw[tK];exact hlt) _,(FM Hbel.out nd).setCell (Nat.le_refl _) _⟩,by simp[intOf];omega⟩
   ·rw[aN hup] at hl;go_wp2_with(go_at_call 130;refine(o5.calls _ _ _ hl).mono ?_;rintro e w' ⟨rfl,⟨nd,rfl⟩⟩);have hlow:low (bt a0 (k:Int))=bt a0 (k:Int):=by unfold low;rw[if_neg hup]
    exact⟨⟨k+1,by omega,by go_num,by rw[← Zq a0 k hlt hlow];exact Hrow.out.drewN nd,FM Hbel.out nd⟩,by simp[intOf];omega⟩
  ·obtain rfl:k=a0.size:=by omega
   have kc:=fun c=>Fx.str (P:=Tryz.prog) (src:=100) (dst:=9) hrow Tryz.underlying100 Tryz.underlying5 Tryz.underlying9 a0.size c (tK a0 _);rw[Uv] at kc;have Hbel:=ae.mk hbel;clear hrow hbel;go_wp2;go_ret;exact⟨rfl,Hbel.out⟩

def dz.f (a0:Int) (a1:Int) (a2:Int):Option (Bool):=if a1≤a0 then(some (decide (a0≤a2))) else(some false)
theorem dz.calls (a0 a1 a2:Int) (r:Bool) (w:World) (h:dz.f a0 a1 a2=some r) :
  Calls Tryz.prog 65 #[.int .i64 a0,.int .i64 a1,.int .i64 a2] w fun e w'=>e = .returned (.bool r)∧ed w w':=by
 have H:=h;clear h;unfold dz.f at H;replace H:=gI H;rcases H with⟨-,mP,-,H⟩|⟨-,mP,-,H⟩
 ·obtain rfl:=cu H;go_enter Tryz.func65,Tryz.ntmps65;go_wp2;go_ret;exact⟨fI,lG⟩
 ·obtain rfl:=cu H;go_enter Tryz.func65,Tryz.ntmps65;go_wp2;go_ret;exact⟨fI,lG⟩

def tQ.f (a0:Int):Option (ByteArray):=(dz.f a0 0 999999999999999).bind fun aop=>(if aop=true then((ig.f a0).bind fun alh=>(some alh)) else(some (⟨#[]⟩:af)))
theorem tQ.e0 {p:Prop} (h:p:=by
  obtain rfl:=cu H
  go_enter Tryz.func193,Tryz.ntmps193
  go_wp2_with(first|((with_reducible refine ag (f:=65) rfl ?_);refine aG (some 4) rfl rfl Tryz.func65 aK rfl #[.int .i64 a0,.int .i64 0,.int .i64 999999999999999] rfl eu ?_;(with_reducible refine(dz.calls a0 0 999999999999999 false _ A2.out).mono ?_);rintro e w' ⟨rfl,⟨nd,rfl⟩⟩;refine⟨_,rfl,?_⟩)|((with_reducible refine ag (f:=65) rfl ?_);refine aG (some 4) rfl rfl Tryz.func65 aK rfl #[.int .i64 a0,.int .i64 0,.int .i64 999999999999999] rfl eu ?_;(with_reducible refine(dz.calls a0 0 999999999999999 true _ A2.out).mono ?_);rintro e w' ⟨rfl,⟨nd,rfl⟩⟩;refine⟨_,rfl,?_⟩)|((with_reducible refine ag (f:=111) rfl ?_);refine aG (some 7) rfl rfl Tryz.func111 aK rfl #[.int .i64 a0] rfl eu ?_;(with_reducible refine(ig.calls a0 alh _ A4.out ?hT).mono ?_);(case hT=>exact gJ HT);rintro e jm ⟨rfl,hb⟩;refine⟨_,rfl,?_⟩;replace HB:=dS hb;(try clear hb);(try clear hb2);(try clear hk);(try clear hi)))
  go_ret
  exact⟨nG,dN⟩):p:=h
theorem tQ.calls (a0:Int) (r:ByteArray) (w:World) (h:tQ.f a0=some r) (HT0:pY w) :
  Calls Tryz.prog 193 #[.int .i64 a0] w fun e w'=>e = .returned (.string r)∧Below w.heap.size w w':=by
 have HT:=ae.mk HT0;clear HT0;have HB:=ae.mk (Below.refl w.heap.size w);have H:=h;clear h;unfold tQ.f at H;replace H:=gD H;obtain⟨aop,A2,H⟩:=H;replace H:=gB H;rcases H with⟨rfl,H⟩|⟨rfl,H⟩
 ·replace H:=gD H;obtain⟨alh,A4,H⟩:=H;exact tQ.e0
 ·exact tQ.e0

-- IMPORT Shelf Derived.Lib.AtoiAll Derived.Lib.AtoiErrMem
def lC (s:ByteArray):Int×Bool:=match Lib.atoiAll s.data.toList with
 |.ok v=>if 0≤v∧v≤999999999999999∧(gY v).toList=s.toList then(v,true) else(0,false)
 |_=>(0,false)
def nP.f (a0:ByteArray):Option (Int×Bool):=if a0.size≤281474976710656 then some (lC a0) else none
theorem Uo (a0:ByteArray) (hs:a0.size≤281474976710656) (v:Int) (h:Lib.atoiAll a0.data.toList = .ok v) (w:World) :
  Calls Tryz.prog 192 #[.string a0] w fun e w'=>e = .returned (.tuple #[.int .i64 v,.nilIface])∧Below w.heap.size w w':=by
 refine(Tryz.strconv_Atoi_ok a0 aa v h w).mono ?_
 rintro e w' ⟨rfl,rfl|⟨t,rfl⟩⟩
 ·exact⟨rfl,Below.refl _ _⟩
 ·exact⟨rfl,Lib.bytesWorld_below w _ t⟩
theorem Sa (a0:ByteArray) (hs:a0.size≤281474976710656) (h:∀ v,Lib.atoiAll a0.data.toList≠.ok v) (w:World) (HT0:pY w) :
  Calls Tryz.prog 192 #[.string a0] w fun e w'=>∃ n T N,e = .returned (.tuple #[.int .i64 n,.iface T (.pointer (some ⟨N,0,none⟩))])∧Below w.heap.size w w':=by
 obtain⟨_,_,⟨t1,p1,h1⟩,t2,p2,h2⟩:=HT0
 rcases hA:Lib.atoiAll a0.data.toList with v|_|_
 ·exact absurd hA (h v)
 ·refine(Tryz.strconv_Atoi_syntax a0 hs ⟨h,fun e=>by rw[hA] at e;cases e⟩ _ w h1 (.inr ⟨t1,p1,rfl⟩)).mono ?_
  rintro e w' ⟨N,rfl,_,_,hb⟩
  exact⟨_,_,N,rfl,hb⟩
 ·refine(Tryz.strconv_Atoi_range a0 hs hA _ w h2 (.inr ⟨t2,p2,rfl⟩)).mono ?_
  rintro e w' ⟨N,rfl,_,_,hb⟩
  exact⟨_,_,N,rfl,hb⟩
theorem nP.e0 {p:Prop} (h:p:=by
  go_enter Tryz.func151,Tryz.ntmps151
  go_wp2_with(first|(with_reducible refine ag (f:=192) rfl ?_);refine aG (some 8) rfl rfl Tryz.func192 aK rfl #[.string a0] rfl Ru ?_;refine(Sa a0 HS.out HBAD.out _ (gJ HT)).mono ?_;rintro e pU ⟨n,T,N,rfl,hb⟩;refine⟨_,rfl,?_⟩;replace HB:=dS hb;clear hb|((with_reducible refine ag (f:=192) rfl ?_);refine aG (some 8) rfl rfl Tryz.func192 aK rfl #[.string a0] rfl Ru ?_;refine(Uo a0 HS.out v HV.out _).mono ?_;rintro e jm ⟨rfl,hb⟩;refine⟨_,rfl,?_⟩;replace HB:=dS hb;clear hb)|(go_at_call 65;(with_reducible refine(dz.calls v 0 999999999999999 false _ A3.out).mono ?_);rintro e w' ⟨rfl,⟨nd,rfl⟩⟩)|(go_at_call 65;(with_reducible refine(dz.calls v 0 999999999999999 true _ A3.out).mono ?_);rintro e w' ⟨rfl,⟨nd,rfl⟩⟩)|(go_at_call 193;(with_reducible refine(tQ.calls v (gY v) _ A5.out (gJ HT)).mono ?_);rintro e ku ⟨rfl,hb⟩;replace HB:=dS hb;clear hb))
  go_ret2
  exact⟨rfl,asH⟩):p:=h
theorem nP.calls (a0:ByteArray) (r1:Int) (r2:Bool) (w:World) (h:nP.f a0=some (r1,r2)) (HT0:pY w) :
  Calls Tryz.prog 151 #[.string a0] w fun e w'=>e = .returned (.tuple #[.int .i64 r1,.bool r2])∧Below w.heap.size w w':=by
 unfold nP.f at h;by_cases hs:a0.size≤281474976710656
 case neg=>rw[if_neg hs] at h;cases h
 rw[if_pos hs] at h;have HS:=ae.mk hs;clear hs;have huE:=Tryz.underlying104;have HB:=ae.mk (Below.refl w.heap.size w);have HT:=ae.mk HT0;clear HT0;by_cases hok:∃ v,Lib.atoiAll a0.data.toList = .ok v
 ·obtain⟨v,hv⟩:=hok;have HV:=ae.mk hv;by_cases hr:0≤v∧v≤999999999999999
  ·have A3:ae (dz.f v 0 999999999999999=some true):=⟨by unfold dz.f;rw[if_pos hr.1,aT hr.2]⟩;have A5:ae (tQ.f v=some (gY v)):=⟨by unfold tQ.f;rw[A3.out,aj,if_pos rfl];unfold ig.f;rw[if_pos ⟨by omega,by omega⟩];rfl⟩;by_cases he:(gY v).toList=a0.toList
   ·have hd:lC a0=(v,true):=by unfold lC;rw[hv];exact if_pos ⟨hr.1,hr.2,he⟩
    rw[hd] at h;obtain⟨h1,h2⟩:=Prod.mk.inj (cu h);subst h1;subst h2;clear h;have nW:((gY v).toList==a0.toList)=true:=beq_iff_eq.mpr he;have yK:((gY v).toList != a0.toList)=false:=bne_eq_false_iff_eq.mpr he;clear he hr hv hd;exact nP.e0
   ·have hd:lC a0=(0,false):=by unfold lC;rw[hv];exact if_neg (fun x=>he x.2.2)
    rw[hd] at h;obtain⟨h1,h2⟩:=Prod.mk.inj (cu h);subst h1;subst h2;clear h;have nW:((gY v).toList==a0.toList)=false:=beq_eq_false_iff_ne.mpr he;have yK:((gY v).toList != a0.toList)=true:=bne_iff_ne.mpr he;clear he hr hv hd;exact nP.e0
  ·have A3:ae (dz.f v 0 999999999999999=some false):=⟨by
    unfold dz.f;by_cases h0:0≤v
    ·rw[if_pos h0,aN (fun x=>hr ⟨h0,x⟩)]
    ·rw[if_neg h0]⟩
   have hd:lC a0=(0,false):=by unfold lC;rw[hv];exact if_neg (fun x=>hr ⟨x.1,x.2.1⟩)
   rw[hd] at h;obtain⟨h1,h2⟩:=Prod.mk.inj (cu h);subst h1;subst h2;clear h;clear hr hv hd;exact nP.e0
 ·have hbad:∀ v,Lib.atoiAll a0.data.toList≠.ok v:=fun v e=>hok ⟨v,e⟩;have hd:lC a0=(0,false):=by
   unfold lC;rcases hA:Lib.atoiAll a0.data.toList with v|_|_
   ·exact absurd hA (hbad v)
   ·rfl
   ·rfl
  rw[hd] at h;cases h
  have HBAD:=ae.mk hbad;clear hbad hd hok;exact nP.e0

def eZ.f (a0:Int):Option (Bool):=if a0≥48 then(some (decide (a0≤57))) else(some false)
theorem eZ.calls (a0:Int) (r:Bool) (w:World) (h:eZ.f a0=some r) :
  Calls Tryz.prog 166 #[.int .u8 a0] w fun e w'=>e = .returned (.bool r)∧ed w w':=by
 have H:=h;clear h;unfold eZ.f at H;replace H:=gI H;rcases H with⟨c2,-,-,H⟩|⟨c2,-,-,H⟩
 ·have nk:decide (48≤a0)=true:=aT c2;clear c2;obtain rfl:=cu H;go_enter Tryz.func166,Tryz.ntmps166;go_wp2;go_ret;exact⟨fI,lG⟩
 ·have nk:decide (48≤a0)=false:=aN c2;clear c2;obtain rfl:=cu H;go_enter Tryz.func166,Tryz.ntmps166;go_wp2;go_ret;exact⟨fI,lG⟩


def fq.j0 : Nat→Int→Bool→Option (Int)
 |0,_,_=>none
 |k+1,x0,x9=>if x9=true then(some (((x0-97)%256)+10)) else(if x0≥65 then(if x0≤70 then(some (((x0-65)%256)+10)) else(some (-1))) else(some (-1)))
def fq.f (k:Nat) (a0:Int):Option (Int):=(eZ.f a0).bind fun aoq=>(if aoq=true then(some ((a0-48)%256)) else(if a0≥97 then(fq.j0 k a0 (decide (a0≤102))) else(fq.j0 k a0 false)))
theorem fq.Sb : ∀ k,(∀ y0 y1,EN (fq.j0 k y0 y1) (fq.j0 (k+1) y0 y1))
 |0=>fun _ _ r h=>by simp[fq.j0] at h
 |k+1=>by
  have ih0:=fq.Sb k
  ·intro y0 y1
   unfold fq.j0
   repeat' first|(with_reducible first|exact ih0 ..|exact EN.refl ..|exact EN.none ..|refine EN.ite ?_ ?_|refine EN.bind ?_ (fun _=>?_))|exact ih0 ..
theorem fq.mono : ∀ a0 k,EN (fq.f k a0) (fq.f (k+1) a0):=by
 intro a0 k
 have ih0:=fq.Sb k
 unfold fq.f
 repeat' first|(with_reducible first|exact ih0 ..|exact EN.refl ..|exact EN.none ..|refine EN.ite ?_ ?_|refine EN.bind ?_ (fun _=>?_))|exact ih0 ..
theorem fq.calls (k:Nat) (a0 r:Int) (w:World) (h:fq.f k a0=some r) :
  Calls Tryz.prog 219 #[.int .u8 a0] w fun e w'=>e = .returned (.int .i64 r)∧ed w w':=by
 have H:=h;clear h;unfold fq.f at H;replace H:=gD H;obtain⟨aoq,A2,H⟩:=H;replace H:=gB H;rcases H with⟨rfl,H⟩|⟨rfl,H⟩
 ·obtain rfl:=cu H;go_enter Tryz.func219,Tryz.ntmps219;go_wp2_with(((with_reducible refine ag (f:=166) rfl ?_);refine aG (some 5) rfl rfl Tryz.func166 aK rfl #[.int .u8 a0] rfl eu ?_;(with_reducible refine(eZ.calls a0 true _ A2.out).mono ?_);rintro e w' ⟨rfl,⟨nd,rfl⟩⟩;refine⟨_,rfl,?_⟩));go_ret;exact⟨fI,lG⟩
 ·have HC4:=ae.mk H;clear H;go_enter Tryz.func219,Tryz.ntmps219;go_upto_region 3 with(first|((with_reducible refine ag (f:=166) rfl ?_);refine aG (some 5) rfl rfl Tryz.func166 aK rfl #[.int .u8 a0] rfl eu ?_;(with_reducible refine(eZ.calls a0 false _ A2.out).mono ?_);rintro e w' ⟨rfl,⟨nd,rfl⟩⟩;refine⟨_,rfl,?_⟩));(try simp only[Act.put,List.setIfInBounds_toArray,List.set_cons_zero,List.set_cons_succ])
  go_cut [9] (fun v9 wc=>∃(kq:Nat) (ali:Bool),v9 = .bool ali∧ae (fq.j0 kq a0 ali=some r)∧ae (kq≤k)∧ed w wc)
  case first=>
   have H:=HC4.out;clear HC4;replace H:=gI H;rcases H with⟨c5,-,-,H⟩|⟨c5,-,-,H⟩
   ·have qh:decide (97≤a0)=true:=aT c5;clear c5;(first|rw[qh]|(simp only[iE,jF];rw[qh])|skip)
    have H':=ae.mk H;clear H;go_wp2;go_meet
    case rel=>exact⟨_,(decide (a0≤102)),fI,H',⟨EC⟩,lG⟩
   ·have qh:decide (97≤a0)=false:=aN c5;clear c5;(first|rw[qh]|(simp only[iE,jF];rw[qh])|skip)
    have H':=ae.mk H;clear H;go_wp2;go_meet
    case rel=>exact⟨_,(false),fI,H',⟨EC⟩,lG⟩
  case rest=>
   clear HC4;obtain⟨kq,ali,rfl,HA,HJ3,⟨mc3,rfl⟩⟩:=hcut;cases kq with
   |zero=>exact absurd HA.out (by simp[fq.j0])
   |succ kj3=>
    have H:=HA.out;clear HA;simp only[fq.j0] at H;replace H:=gB H;rcases H with⟨rfl,H⟩|⟨rfl,H⟩
    ·obtain rfl:=cu H;go_wp2;go_ret;exact⟨fI,lG⟩
    ·replace H:=gI H;rcases H with⟨c7,-,-,H⟩|⟨c7,-,-,H⟩
     ·have uR:decide (65≤a0)=true:=aT c7;clear c7;replace H:=gI H;rcases H with⟨-,tO,-,H⟩|⟨-,tO,-,H⟩
      ·obtain rfl:=cu H;go_wp2;go_ret;exact⟨fI,lG⟩
      ·obtain rfl:=cu H;go_wp2;go_ret;exact⟨fI,lG⟩
     ·have uR:decide (65≤a0)=false:=aN c7;clear c7;obtain rfl:=cu H;go_wp2;go_ret;exact⟨fI,lG⟩

def nC.f (a0:Int):Option (Bool):=if a0≥97 then(some (decide (a0≤122))) else(some false)
theorem nC.calls (a0:Int) (r:Bool) (w:World) (h:nC.f a0=some r) :
  Calls Tryz.prog 199 #[.int .u8 a0] w fun e w'=>e = .returned (.bool r)∧ed w w':=by
 have H:=h;clear h;unfold nC.f at H;replace H:=gI H;rcases H with⟨c2,-,-,H⟩|⟨c2,-,-,H⟩
 ·have nk:decide (97≤a0)=true:=aT c2;clear c2;obtain rfl:=cu H;go_enter Tryz.func199,Tryz.ntmps199;go_wp2;go_ret;exact⟨fI,lG⟩
 ·have nk:decide (97≤a0)=false:=aN c2;clear c2;obtain rfl:=cu H;go_enter Tryz.func199,Tryz.ntmps199;go_wp2;go_ret;exact⟨fI,lG⟩

def gW.f (a0:Int):Option (Bool):=(nC.f a0).bind fun aor=>(if aor=true then(some true) else((o5.f a0).bind fun aos=>(if aos=true then(some true) else((eZ.f a0).bind fun aot=>(if aot=true then(some true) else(if a0=96 then(some true) else((strings_IndexByte.f (⟨#[33,35,36,37,38,39,42,43,45,46,94,95,124,126]⟩:af) a0).bind fun alj=>(some (decide (alj≥0))))))))))
theorem gW.e0 {p:Prop} (h:p:=by
  obtain rfl:=cu H
  go_enter Tryz.func156,Tryz.ntmps156
  go_wp2_with(first|((with_reducible refine ag (f:=199) rfl ?_);refine aG (some 4) rfl rfl Tryz.func199 aK rfl #[.int .u8 a0] rfl eu ?_;(with_reducible refine(nC.calls a0 false _ A2.out).mono ?_);rintro e w' ⟨rfl,⟨nd,rfl⟩⟩;refine⟨_,rfl,?_⟩)|(go_at_call 130;(with_reducible refine(o5.calls a0 false _ A4.out).mono ?_);rintro e w' ⟨rfl,⟨nd,rfl⟩⟩)|(go_at_call 166;(with_reducible refine(eZ.calls a0 false _ A6.out).mono ?_);rintro e w' ⟨rfl,⟨nd,rfl⟩⟩)|(go_at_call 134;(with_reducible refine(strings_IndexByte.calls (⟨#[33,35,36,37,38,39,42,43,45,46,94,95,124,126]⟩:af) a0 alj _ A9.out).mono ?_);rintro e w' ⟨rfl,⟨nd,rfl⟩⟩)|(go_at_call 166;(with_reducible refine(eZ.calls a0 true _ A6.out).mono ?_);rintro e w' ⟨rfl,⟨nd,rfl⟩⟩)|(go_at_call 130;(with_reducible refine(o5.calls a0 true _ A4.out).mono ?_);rintro e w' ⟨rfl,⟨nd,rfl⟩⟩)|((with_reducible refine ag (f:=199) rfl ?_);refine aG (some 4) rfl rfl Tryz.func199 aK rfl #[.int .u8 a0] rfl eu ?_;(with_reducible refine(nC.calls a0 true _ A2.out).mono ?_);rintro e w' ⟨rfl,⟨nd,rfl⟩⟩;refine⟨_,rfl,?_⟩))
  go_ret
  exact⟨fI,lG⟩):p:=h
theorem gW.calls (a0:Int) (r:Bool) (w:World) (h:gW.f a0=some r) :
  Calls Tryz.prog 156 #[.int .u8 a0] w fun e w'=>e = .returned (.bool r)∧ed w w':=by
 have H:=h;clear h;unfold gW.f at H;replace H:=gD H;obtain⟨aor,A2,H⟩:=H;replace H:=gB H;rcases H with⟨rfl,H⟩|⟨rfl,H⟩
 ·exact gW.e0
 ·replace H:=gD H;obtain⟨aos,A4,H⟩:=H;replace H:=gB H;rcases H with⟨rfl,H⟩|⟨rfl,H⟩
  ·exact gW.e0
  ·replace H:=gD H;obtain⟨aot,A6,H⟩:=H;replace H:=gB H;rcases H with⟨rfl,H⟩|⟨rfl,H⟩
   ·exact gW.e0
   ·replace H:=gI H;rcases H with⟨c8,-,-,H⟩|⟨c8,-,-,H⟩
    ·obtain⟨tO,Iu⟩:=rD c8;clear c8;exact gW.e0
    ·obtain⟨tO,Iu⟩:=rO c8;replace H:=gD H;obtain⟨alj,A9,H⟩:=H;exact gW.e0

def bV.l0 : Nat→ByteArray→Int→Option (Bool)
 |0,_,_=>none
 |k+1,x0,x5=>if x5<(x0.size:Int) then(if 0≤x5 then((gW.f (bt x0 x5)).bind fun aou=>(if aou=true then(bV.l0 k x0 (wrap64 (x5+1))) else(some false))) else(none)) else(some true)
def bV.f (k:Nat) (a0:ByteArray)  : Option (Bool):=bV.l0 k a0 0
theorem bV.calls (k:Nat) (a0:ByteArray)  (r:Bool) (w:World) (h:bV.f k a0=some r) :
  Calls Tryz.prog 107 #[.string a0,.func (.func 156) #[] #[]] w fun e w'=>e = .returned (.bool r)∧ed w w':=by
 have H:=h;clear h;unfold bV.f at H;have H':=ae.mk H;clear H;go_enter Tryz.func107,Tryz.ntmps107;go_wp2;go_loopg [5] k (fun kq v5 w'=>∃(dJ:Int),v5 = .int .i64 dJ∧ae (bV.l0 kq a0 dJ=some r)∧ae (kq≤k)∧ed w w')
 case atStart=>exact⟨(0),fI,H',⟨Nat.le_refl _⟩,lG⟩
 case round=>
  clear H';obtain⟨dJ,rfl,HA,qj,⟨m1,rfl⟩⟩:=hrel;cases gk with
  |zero=>exact absurd HA.out (by simp[bV.l0])
  |succ k1=>
   have H:=HA.out;clear HA;simp only[bV.l0] at H;replace H:=gI H;rcases H with⟨-,gM,-,H⟩|⟨-,gM,-,H⟩
   ·replace H:=gN H;obtain⟨-,mP,-,H⟩:=H;replace H:=gD H;obtain⟨aou,A6,H⟩:=H;replace H:=gB H;rcases H with⟨rfl,H⟩|⟨rfl,H⟩
    ·have H':=ae.mk H;clear H;have p5:0≤(dJ:Int):=bE gL;have q5:dJ<(a0.size:Int):=bE gL;have hx5:=gV a0 dJ;replace p5:=eq_true p5;replace q5:=eq_true q5;go_wp2_with((go_at_call 156;(with_reducible refine(gW.calls (bt a0 dJ) true _ A6.out).mono ?_);rintro e w' ⟨rfl,⟨nd,rfl⟩⟩));go_roundg k1
     case measure=>have:=qj.out;omega
     case rel=>exact⟨(wrap64 (dJ+1)),fI,H',⟨by have:=qj.out;omega⟩,lG⟩
    ·obtain rfl:=cu H;have p5:0≤(dJ:Int):=bE gL;have q5:dJ<(a0.size:Int):=bE gL;have hx5:=gV a0 dJ;replace p5:=eq_true p5;replace q5:=eq_true q5;go_wp2_with((go_at_call 156;(with_reducible refine(gW.calls (bt a0 dJ) false _ A6.out).mono ?_);rintro e w' ⟨rfl,⟨nd,rfl⟩⟩));go_ret;exact⟨fI,lG⟩
   ·obtain rfl:=cu H;go_wp2;go_ret;exact⟨fI,lG⟩


def nA.f (k:Nat) (a0:ByteArray):Option (Bool):=(dz.f (a0.size:Int) 1 4000).bind fun aov=>(if aov=true then((bV.f k a0).bind fun alk=>(some alk)) else(some false))
theorem nA.e0 {p:Prop} (h:p:=by
  obtain rfl:=cu H
  go_enter Tryz.func106,Tryz.ntmps106
  go_wp2_with(first|((with_reducible refine ag (f:=65) rfl ?_);refine aG (some 5) rfl rfl Tryz.func65 aK rfl #[.int .i64 (a0.size:Int),.int .i64 1,.int .i64 4000] rfl eu ?_;(with_reducible refine(dz.calls (a0.size:Int) 1 4000 false _ A2.out).mono ?_);rintro e w' ⟨rfl,⟨nd,rfl⟩⟩;refine⟨_,rfl,?_⟩)|((with_reducible refine ag (f:=65) rfl ?_);refine aG (some 5) rfl rfl Tryz.func65 aK rfl #[.int .i64 (a0.size:Int),.int .i64 1,.int .i64 4000] rfl eu ?_;(with_reducible refine(dz.calls (a0.size:Int) 1 4000 true _ A2.out).mono ?_);rintro e w' ⟨rfl,⟨nd,rfl⟩⟩;refine⟨_,rfl,?_⟩)|(go_at_call 107;(with_reducible refine(bV.calls k a0  alk _ A4.out).mono ?_);rintro e w' ⟨rfl,⟨nd,rfl⟩⟩))
  go_ret
  exact⟨fI,lG⟩):p:=h
theorem nA.calls (k:Nat) (a0:ByteArray) (r:Bool) (w:World) (h:nA.f k a0=some r) :
  Calls Tryz.prog 106 #[.string a0] w fun e w'=>e = .returned (.bool r)∧ed w w':=by
 have H:=h;clear h;unfold nA.f at H;replace H:=gD H;obtain⟨aov,A2,H⟩:=H;replace H:=gB H;rcases H with⟨rfl,H⟩|⟨rfl,H⟩
 ·replace H:=gD H;obtain⟨alk,A4,H⟩:=H;exact nA.e0
 ·exact nA.e0

def pQ.f (a0:Int):Option (Bool):=if a0=9 then(some true) else(if a0≥32 then(some (a0 != 127)) else(some false))
theorem pQ.calls (a0:Int) (r:Bool) (w:World) (h:pQ.f a0=some r) :
  Calls Tryz.prog 108 #[.int .u8 a0] w fun e w'=>e = .returned (.bool r)∧ed w w':=by
 have H:=h;clear h;unfold pQ.f at H;replace H:=gI H;rcases H with⟨c2,-,-,H⟩|⟨c2,-,-,H⟩
 ·obtain⟨nk,wB⟩:=rD c2;clear c2;obtain rfl:=cu H;go_enter Tryz.func108,Tryz.ntmps108;go_wp2;go_ret;exact⟨fI,lG⟩
 ·obtain⟨nk,wB⟩:=rO c2;replace H:=gI H;rcases H with⟨c3,-,-,H⟩|⟨c3,-,-,H⟩
  ·have gM:decide (32≤a0)=true:=aT c3;clear c3;obtain rfl:=cu H;go_enter Tryz.func108,Tryz.ntmps108;go_wp2;go_ret;exact⟨fI,lG⟩
  ·have gM:decide (32≤a0)=false:=aN c3;clear c3;obtain rfl:=cu H;go_enter Tryz.func108,Tryz.ntmps108;go_wp2;go_ret;exact⟨fI,lG⟩

def bT.l0 : Nat→ByteArray→Int→Option (Bool)
 |0,_,_=>none
 |k+1,x0,x5=>if x5<(x0.size:Int) then(if 0≤x5 then((pQ.f (bt x0 x5)).bind fun aow=>(if aow=true then(bT.l0 k x0 (wrap64 (x5+1))) else(some false))) else(none)) else(some true)
def bT.f (k:Nat) (a0:ByteArray)  : Option (Bool):=bT.l0 k a0 0
theorem bT.calls (k:Nat) (a0:ByteArray)  (r:Bool) (w:World) (h:bT.f k a0=some r) :
  Calls Tryz.prog 107 #[.string a0,.func (.func 108) #[] #[]] w fun e w'=>e = .returned (.bool r)∧ed w w':=by
 have H:=h;clear h;unfold bT.f at H;have H':=ae.mk H;clear H;go_enter Tryz.func107,Tryz.ntmps107;go_wp2;go_loopg [5] k (fun kq v5 w'=>∃(dJ:Int),v5 = .int .i64 dJ∧ae (bT.l0 kq a0 dJ=some r)∧ae (kq≤k)∧ed w w')
 case atStart=>exact⟨(0),fI,H',⟨Nat.le_refl _⟩,lG⟩
 case round=>
  clear H';obtain⟨dJ,rfl,HA,qj,⟨m1,rfl⟩⟩:=hrel;cases gk with
  |zero=>exact absurd HA.out (by simp[bT.l0])
  |succ k1=>
   have H:=HA.out;clear HA;simp only[bT.l0] at H;replace H:=gI H;rcases H with⟨-,gM,-,H⟩|⟨-,gM,-,H⟩
   ·replace H:=gN H;obtain⟨-,mP,-,H⟩:=H;replace H:=gD H;obtain⟨aow,A6,H⟩:=H;replace H:=gB H;rcases H with⟨rfl,H⟩|⟨rfl,H⟩
    ·have H':=ae.mk H;clear H;have p5:0≤(dJ:Int):=bE gL;have q5:dJ<(a0.size:Int):=bE gL;have hx5:=gV a0 dJ;replace p5:=eq_true p5;replace q5:=eq_true q5;go_wp2_with((go_at_call 108;(with_reducible refine(pQ.calls (bt a0 dJ) true _ A6.out).mono ?_);rintro e w' ⟨rfl,⟨nd,rfl⟩⟩));go_roundg k1
     case measure=>have:=qj.out;omega
     case rel=>exact⟨(wrap64 (dJ+1)),fI,H',⟨by have:=qj.out;omega⟩,lG⟩
    ·obtain rfl:=cu H;have p5:0≤(dJ:Int):=bE gL;have q5:dJ<(a0.size:Int):=bE gL;have hx5:=gV a0 dJ;replace p5:=eq_true p5;replace q5:=eq_true q5;go_wp2_with((go_at_call 108;(with_reducible refine(pQ.calls (bt a0 dJ) false _ A6.out).mono ?_);rintro e w' ⟨rfl,⟨nd,rfl⟩⟩));go_ret;exact⟨fI,lG⟩
   ·obtain rfl:=cu H;go_wp2;go_ret;exact⟨fI,lG⟩

def nz.f (a0:Int):Option (Bool):=if a0=32 then(some true) else(some (a0==9))
theorem nz.calls (a0:Int) (r:Bool) (w:World) (h:nz.f a0=some r) :
  Calls Tryz.prog 129 #[.int .u8 a0] w fun e w'=>e = .returned (.bool r)∧ed w w':=by
 have H:=h;clear h;unfold nz.f at H;replace H:=gI H;rcases H with⟨c2,-,-,H⟩|⟨c2,-,-,H⟩
 ·obtain⟨nk,wB⟩:=rD c2;clear c2;obtain rfl:=cu H;go_enter Tryz.func129,Tryz.ntmps129;go_wp2;go_ret;exact⟨fI,lG⟩
 ·obtain⟨nk,wB⟩:=rO c2;obtain rfl:=cu H;go_enter Tryz.func129,Tryz.ntmps129;go_wp2;go_ret;exact⟨fI,lG⟩


mutual
def fe.j1 : Nat→ByteArray→Option (ByteArray)
 |0,_=>none
 |k+1,x0=>fe.l1 k x0
def fe.l1 : Nat→ByteArray→Option (ByteArray)
 |0,_=>none
 |k+1,x0=>if x0.toList=([]:List UInt8) then(some x0) else(if 0≤(wrap64 ((x0.size:Int)-1)) then(if(wrap64 ((x0.size:Int)-1))<(x0.size:Int) then((nz.f (bt x0 (wrap64 ((x0.size:Int)-1)))).bind fun aox=>(if aox=true then(if(wrap64 ((x0.size:Int)-1))≤(x0.size:Int) then(fe.l1 k (x0.extract 0 ((wrap64 ((x0.size:Int)-1)):Int).toNat)) else(none)) else(some x0))) else(none)) else(none))
def fe.l0 : Nat→ByteArray→Option (ByteArray)
 |0,_=>none
 |k+1,x0=>if x0.toList=([]:List UInt8) then(fe.j1 k x0) else(if 0<(x0.size:Int) then((nz.f (bt x0 0)).bind fun aoy=>(if aoy=true then(if 1≤(x0.size:Int) then(fe.l0 k (x0.extract 1 x0.size)) else(none)) else(fe.j1 k x0))) else(none))
end
def fe.f (k:Nat) (a0:ByteArray):Option (ByteArray):=fe.l0 k a0
theorem fe.calls (k:Nat) (a0 r:ByteArray) (w:World) (h:fe.f k a0=some r) :
  Calls Tryz.prog 87 #[.string a0] w fun e w'=>e = .returned (.string r)∧ed w w':=by
 have H:=h;clear h;unfold fe.f at H;have xZ:=ae.mk H;clear H;go_enter Tryz.func87,Tryz.ntmps87;go_upto_block 0 with(fail);go_cut [0] (fun v0 wc=>∃(kq:Nat) (wS:ByteArray),v0 = .string wS∧ae (fe.j1 kq wS=some r)∧ae (kq≤k)∧ed w wc)
 case first=>
  have H:=xZ.out;clear xZ;have H':=ae.mk H;clear H;go_wp2;go_loopg [0] k (fun kq v0 w'=>∃(wS:ByteArray),v0 = .string wS∧ae (fe.l0 kq wS=some r)∧ae (kq≤k)∧ed w w')
  case atStart=>exact⟨(a0),fI,H',⟨Nat.le_refl _⟩,lG⟩
  case round=>
   clear H';obtain⟨wS,rfl,HA,qj,⟨m1,rfl⟩⟩:=hrel;cases gk with
   |zero=>exact absurd HA.out (by simp[fe.l0])
   |succ k1=>
    have H:=HA.out;clear HA;simp only[fe.l0] at H;replace H:=gI H;rcases H with⟨c3,-,-,H⟩|⟨c3,-,-,H⟩
    ·have gM:(wS.toList==([]:List UInt8))=true:=beq_iff_eq.mpr c3;have ZO:wS.toList.isEmpty=true:=List.isEmpty_iff.mpr c3;have uX:(wS.toList != ([]:List UInt8))=false:=bne_eq_false_iff_eq.mpr c3;clear c3;(first|rw[gM]|rw[ZO]|(simp only[iE,jF];rw[gM])|skip)
     have H':=ae.mk H;clear H;go_wp2;go_meet
     case rel=>exact⟨_,(wS),fI,H',⟨VP⟩,lG⟩
    ·have gM:(wS.toList==([]:List UInt8))=false:=beq_eq_false_iff_ne.mpr c3;have ZO:wS.toList.isEmpty=false:=Bool.eq_false_iff.mpr (fun h_=>c3 (List.isEmpty_iff.mp h_));have uX:(wS.toList != ([]:List UInt8))=true:=bne_iff_ne.mpr c3;(first|rw[gM]|rw[ZO]|(simp only[iE,jF];rw[gM])|skip)
     replace H:=gN H;obtain⟨c4,mP,-,H⟩:=H;have yH:decide (0<wS.size)=true:=aT aa;clear c4;replace H:=gD H;obtain⟨aoy,A6,H⟩:=H;replace H:=gB H;rcases H with⟨rfl,H⟩|⟨rfl,H⟩
     ·replace H:=gN H;obtain⟨-,Iu,tO,H⟩:=H;have H':=ae.mk H;clear H;have p5:0≤(0:Int):=aa;have q5:0<wS.size:=(by have:(0:Int)<(wS.size:Int):=bE gL;omega);have hx5:∀ h:0<wS.size,((wS[0]'h).toNat:Int)=bt wS 0:=gV wS 0;clear p5;have qi5:(0<(wS.size:Int))=True:=eq_true (bE gL);replace q5:=eq_true q5;go_wp2_with((go_at_call 129;(with_reducible refine(nz.calls (bt wS 0) true _ A6.out).mono ?_);rintro e w' ⟨rfl,⟨nd,rfl⟩⟩));go_roundg k1
      case measure=>have:=qj.out;omega
      case rel=>exact⟨(wS.extract 1 wS.size),fI,H',⟨by have:=qj.out;omega⟩,lG⟩
     ·have H':=ae.mk H;clear H;have p5:0≤(0:Int):=aa;have q5:0<wS.size:=(by have:(0:Int)<(wS.size:Int):=bE gL;omega);have hx5:∀ h:0<wS.size,((wS[0]'h).toNat:Int)=bt wS 0:=gV wS 0;clear p5;have qi5:(0<(wS.size:Int))=True:=eq_true (bE gL);replace q5:=eq_true q5;go_wp2_with((go_at_call 129;(with_reducible refine(nz.calls (bt wS 0) false _ A6.out).mono ?_);rintro e w' ⟨rfl,⟨nd,rfl⟩⟩));go_meet
      case rel=>exact⟨_,(wS),fI,H',⟨VP⟩,lG⟩
 case rest=>
  clear xZ;obtain⟨kq,wS,rfl,HA,Bu,⟨mc1,rfl⟩⟩:=hcut;cases kq with
  |zero=>exact absurd HA.out (by simp[fe.j1])
  |succ uY=>
   have H:=HA.out;clear HA;simp only[fe.j1] at H;have H':=ae.mk H;clear H;go_wp2;go_loopg [0] uY (fun kq v0 w'=>∃(QK:ByteArray),v0 = .string QK∧ae (fe.l1 kq QK=some r)∧ae (kq≤uY)∧ed w w')
   case atStart=>exact⟨(wS),fI,H',⟨Nat.le_refl _⟩,lG⟩
   case round=>
    clear H';obtain⟨QK,rfl,HA,Eo,⟨m2,rfl⟩⟩:=hrel;cases gk with
    |zero=>exact absurd HA.out (by simp[fe.l1])
    |succ k2=>
     have H:=HA.out;clear HA;simp only[fe.l1] at H;replace H:=gI H;rcases H with⟨c9,-,-,H⟩|⟨c9,-,-,H⟩
     ·obtain⟨xY,Gz⟩:=rD c9;clear c9;obtain rfl:=cu H;go_wp2;go_ret;exact⟨fI,lG⟩
     ·obtain⟨xY,Gz⟩:=rO c9;obtain⟨Sc,Xq⟩:∃ j_:Int,(wrap64 ((QK.size:Int)-1))=j_:=⟨_,rfl⟩;(first|rw[Xq] at H|simp only[Xq] at H ⊢)
      have as3:(IntKind.i64.wrap ((QK.size:Int)-1))=Sc:=(iE _).trans Xq;replace H:=gI H;rcases H with⟨-,xA,-,H⟩|⟨c11,-,-,H⟩
      ·replace H:=gN H;obtain⟨-,wO,-,H⟩:=H;replace H:=gD H;obtain⟨aox,A14,H⟩:=H;replace H:=gB H;rcases H with⟨rfl,H⟩|⟨rfl,H⟩
       ·have Ae:=eq_true (bE gL:0≤(Sc));replace H:=gN H;obtain⟨-,JQ,Bh,H⟩:=H;have H':=ae.mk H;clear H;have p13:0≤((Sc):Int):=bE gL;have q13:(Sc)<(QK.size:Int):=bE gL;have as4:=gV QK (Sc);replace p13:=eq_true p13;replace q13:=eq_true q13;go_wp2_with((go_at_call 129;(with_reducible refine(nz.calls (bt QK (Sc)) true _ A14.out).mono ?_);rintro e w' ⟨rfl,⟨nd,rfl⟩⟩));go_roundg k2
        case measure=>have:=Bu.out;have:=Eo.out;omega
        case rel=>exact⟨(QK.extract 0 ((Sc):Int).toNat),(by first|rfl|(simp;done)|(simp only[← Xq] <;> (first|rfl|simp))|(simp[*];done)),H',⟨QE⟩,lG⟩
       ·obtain rfl:=cu H;have p13:0≤((Sc):Int):=bE gL;have q13:(Sc)<(QK.size:Int):=bE gL;have as4:=gV QK (Sc);replace p13:=eq_true p13;replace q13:=eq_true q13;go_wp2_with((go_at_call 129;(with_reducible refine(nz.calls (bt QK (Sc)) false _ A14.out).mono ?_);rintro e w' ⟨rfl,⟨nd,rfl⟩⟩));go_ret;exact⟨by first|rfl|(simp;done)|(simp only[← Xq] <;> (first|rfl|simp))|(simp[*];done),lG⟩
      ·exact absurd H (by simp)

def oN.f (a0:ByteArray) (a1:ByteArray):Option (Bool):=(mI.f a0).bind fun alm=>((mI.f a1).bind fun aln=>(some (alm.toList==aln.toList)))
theorem oN.calls (a0 a1:ByteArray) (r:Bool) (w:World) (h:oN.f a0 a1=some r) :
  Calls Tryz.prog 131 #[.string a0,.string a1] w fun e w'=>e = .returned (.bool r)∧Below w.heap.size w w':=by
 have HB:=ae.mk (Below.refl w.heap.size w);have H:=h;clear h;unfold oN.f at H;replace H:=gD H;obtain⟨alm,A3,H⟩:=H;replace H:=gD H;obtain⟨aln,A4,H⟩:=H;obtain rfl:=cu H;go_enter Tryz.func131,Tryz.ntmps131;go_wp2_with(first|((with_reducible refine ag (f:=89) rfl ?_);refine aG (some 6) rfl rfl Tryz.func89 aK rfl #[.string a0] rfl eu ?_;(with_reducible refine(mI.calls a0 alm _ A3.out).mono ?_);rintro e w5 ⟨rfl,hb⟩;refine⟨_,rfl,?_⟩;replace HB:=dS hb;(try clear hb))|((with_reducible refine ag (f:=89) rfl ?_);refine aG (some 8) rfl rfl Tryz.func89 aK rfl #[.string a1] rfl eu ?_;(with_reducible refine(mI.calls a1 aln _ A4.out).mono ?_);rintro e w6 ⟨rfl,hb⟩;refine⟨_,rfl,?_⟩;replace HB:=dS hb;(try clear hb)));go_ret;exact⟨nG,dN⟩


def eH.l0 : Nat→ByteArray→Int→Option (Bool)
 |0,_,_=>none
 |k+1,x0,x5=>if x5<(x0.size:Int) then(if 0≤x5 then((eZ.f (bt x0 x5)).bind fun ai7=>(if ai7=true then(eH.l0 k x0 (wrap64 (x5+1))) else(some false))) else(none)) else(some true)
def eH.f (k:Nat) (a0:ByteArray)  : Option (Bool):=eH.l0 k a0 0
theorem eH.calls (k:Nat) (a0:ByteArray)  (r:Bool) (w:World) (h:eH.f k a0=some r) :
  Calls Tryz.prog 107 #[.string a0,.func (.func 166) #[] #[]] w fun e w'=>e = .returned (.bool r)∧ed w w':=by
 have H:=h;clear h;unfold eH.f at H;have H':=ae.mk H;clear H;go_enter Tryz.func107,Tryz.ntmps107;go_wp2;go_loopg [5] k (fun kq v5 w'=>∃(dJ:Int),v5 = .int .i64 dJ∧ae (eH.l0 kq a0 dJ=some r)∧ae (kq≤k)∧ed w w')
 case atStart=>exact⟨(0),fI,H',⟨Nat.le_refl _⟩,lG⟩
 case round=>
  clear H';obtain⟨dJ,rfl,HA,qj,⟨m1,rfl⟩⟩:=hrel;cases gk with
  |zero=>exact absurd HA.out (by simp[eH.l0])
  |succ k1=>
   have H:=HA.out;clear HA;simp only[eH.l0] at H;replace H:=gI H;rcases H with⟨-,gM,-,H⟩|⟨-,gM,-,H⟩
   ·replace H:=gN H;obtain⟨-,mP,-,H⟩:=H;replace H:=gD H;obtain⟨ai7,A6,H⟩:=H;replace H:=gB H;rcases H with⟨rfl,H⟩|⟨rfl,H⟩
    ·have H':=ae.mk H;clear H;have p5:0≤(dJ:Int):=bE gL;have q5:dJ<(a0.size:Int):=bE gL;have hx5:=gV a0 dJ;replace p5:=eq_true p5;replace q5:=eq_true q5;go_wp2_with((go_at_call 166;(with_reducible refine(eZ.calls (bt a0 dJ) true _ A6.out).mono ?_);rintro e w' ⟨rfl,⟨nd,rfl⟩⟩));go_roundg k1
     case measure=>have:=qj.out;omega
     case rel=>exact⟨(wrap64 (dJ+1)),fI,H',⟨by have:=qj.out;omega⟩,lG⟩
    ·obtain rfl:=cu H;have p5:0≤(dJ:Int):=bE gL;have q5:dJ<(a0.size:Int):=bE gL;have hx5:=gV a0 dJ;replace p5:=eq_true p5;replace q5:=eq_true q5;go_wp2_with((go_at_call 166;(with_reducible refine(eZ.calls (bt a0 dJ) false _ A6.out).mono ?_);rintro e w' ⟨rfl,⟨nd,rfl⟩⟩));go_ret;exact⟨fI,lG⟩
   ·obtain rfl:=cu H;go_wp2;go_ret;exact⟨fI,lG⟩




def iy.f (a0:Int):Option (Bool):=(dz.f a0 0 253402300799).bind fun alo=>(some alo)
theorem iy.calls (a0:Int) (r:Bool) (w:World) (h:iy.f a0=some r) :
  Calls Tryz.prog 37 #[.int .i64 a0] w fun e w'=>e = .returned (.bool r)∧ed w w':=by
 have H:=h;clear h;unfold iy.f at H;replace H:=gD H;obtain⟨alo,A2,H⟩:=H;obtain rfl:=cu H;go_enter Tryz.func37,Tryz.ntmps37;go_wp2_with(((with_reducible refine ag (f:=65) rfl ?_);refine aG (some 4) rfl rfl Tryz.func65 aK rfl #[.int .i64 a0,.int .i64 0,.int .i64 253402300799] rfl eu ?_;(with_reducible refine(dz.calls a0 0 253402300799 alo _ A2.out).mono ?_);rintro e w' ⟨rfl,⟨nd,rfl⟩⟩;refine⟨_,rfl,?_⟩));go_ret;exact⟨fI,lG⟩

mutual
def bB.l0 : Nat→ByteArray→List Int→Int→Option (List Int)
 |0,_,_,_=>none
 |k+1,x0,x3,x4=>if x4<(x0.size:Int) then(bB.l1 k x0 x3 x4 x4 0) else(some x3)
def bB.l1 : Nat→ByteArray→List Int→Int→Int→Int→Option (List Int)
 |0,_,_,_,_,_=>none
 |k+1,x0,x3,x4,x5,x6=>if x5<(x0.size:Int) then(if 0≤x5 then((eZ.f (bt x0 x5)).bind fun ai8=>(if ai8=true then(if(wrap64 (x5-x4))<9 then(bB.l1 k x0 x3 x4 (wrap64 (x5+1)) (wrap64 ((wrap64 (10*x6))+(((bt x0 x5)-48)%256)))) else(if x5>x4 then(if x3.length<17592186044416 then(bB.l0 k x0 (x3 ++ [x6]) (wrap64 ((wrap64 (x5-1))+1))) else(none)) else(bB.l0 k x0 x3 (wrap64 (x4+1))))) else(if x5>x4 then(if x3.length<17592186044416 then(bB.l0 k x0 (x3 ++ [x6]) (wrap64 ((wrap64 (x5-1))+1))) else(none)) else(bB.l0 k x0 x3 (wrap64 (x4+1)))))) else(none)) else(if x5>x4 then(if x3.length<17592186044416 then(bB.l0 k x0 (x3 ++ [x6]) (wrap64 ((wrap64 (x5-1))+1))) else(none)) else(bB.l0 k x0 x3 (wrap64 (x4+1))))
end
def bB.f (k:Nat) (a0:ByteArray):Option (List Int):=bB.l0 k a0 ([]:List Int) 0
theorem bB.e0 {p:Prop} (h:p:=by
  have H':=ae.mk H
  clear H
  have p5:0≤(kV:Int):=bE gL
  have q5:kV<(a0.size:Int):=bE gL
  have hx5:=gV a0 kV
  replace p5:=eq_true p5
  replace q5:=eq_true q5
  go_wp2_with(first|(go_at_call 166;(with_reducible refine(eZ.calls (bt a0 kV) false _ A6.out).mono ?_);rintro e w' ⟨rfl,⟨nd,rfl⟩⟩)|(go_at_call 166;(with_reducible refine(eZ.calls (bt a0 kV) true _ A6.out).mono ?_);rintro e w' ⟨rfl,⟨nd,rfl⟩⟩))
  go_roundg k2
  case measure=>have:=qj.out;have:=Eo.out;omega
  case rel=>exact⟨(fU),(wrap64 (fT+1)),fI,H',⟨VQ⟩,⟨Ah⟩,⟨dN⟩⟩):p:=h
theorem bB.calls (k:Nat) (a0:ByteArray) (r:List Int) (w:World) (h:bB.f k a0=some r) :
  Calls Tryz.prog 132 #[.string a0] w fun e w'=>∃ PV:Value,e = .returned (PV)∧Kd.R (Kd.int .i64) 3 w' w.heap.size (fun _=>True) PV r∧Below w.heap.size w w':=by
 have HB:=ae.mk (Below.refl w.heap.size w);have H:=h;clear h;unfold bB.f at H;have H':=ae.mk H;clear H;go_enter Tryz.func132,Tryz.ntmps132;go_wp2;go_loopg [3,4] k (fun kq v3 v4 w'=>∃(fU:List Int) (fT:Int),v4 = .int .i64 fT∧ae (bB.l0 kq a0 fU fT=some r)∧ae (kq≤k)∧ae (Kd.R (Kd.int .i64) 3 w' w.heap.size (fun _=>True) v3 fU)∧ae (Below w.heap.size w w'))
 case atStart=>exact⟨(([]:List Int)),(0),fI,H',⟨Nat.le_refl _⟩,⟨Ud⟩,⟨dN⟩⟩
 case round=>
  clear H';obtain⟨fU,fT,rfl,HA,qj,ou,HB⟩:=hrel;cases gk with
  |zero=>exact absurd HA.out (by simp[bB.l0])
  |succ k1=>
   have H:=HA.out;clear HA;simp only[bB.l0] at H;replace H:=gI H;rcases H with⟨-,nk,-,H⟩|⟨-,nk,-,H⟩
   ·have H':=ae.mk H;clear H;go_wp2;go_loopg [5,6] k1 (fun kq v5 v6 w'=>∃(kV:Int) (Jj:Int),v5 = .int .i64 kV∧v6 = .int .i64 Jj∧ae (bB.l1 kq a0 fU fT kV Jj=some r)∧ae (kq≤k1)∧ae (Kd.R (Kd.int .i64) 3 w' w.heap.size (fun _=>True) u3 fU)∧ae (Below w.heap.size w w'))
    case atStart=>exact⟨(fT),(0),fI,fI,H',⟨Nat.le_refl _⟩,⟨Ah⟩,⟨dN⟩⟩
    case round=>
     clear H';try clear nk
     obtain⟨kV,Jj,rfl,rfl,HA,Eo,ou,HB⟩:=hrel;cases gk with
     |zero=>exact absurd HA.out (by simp[bB.l1])
     |succ k2=>
      have H:=HA.out;clear HA;simp only[bB.l1] at H;replace H:=gI H;rcases H with⟨-,gM,-,H⟩|⟨-,gM,-,H⟩
      ·replace H:=gN H;obtain⟨-,mP,-,H⟩:=H;replace H:=gD H;obtain⟨ai8,A6,H⟩:=H;replace H:=gB H;rcases H with⟨rfl,H⟩|⟨rfl,H⟩
       ·replace H:=gI H;rcases H with⟨-,tO,-,H⟩|⟨-,tO,-,H⟩
        ·have H':=ae.mk H;clear H;have p5:0≤(kV:Int):=bE gL;have q5:kV<(a0.size:Int):=bE gL;have hx5:=gV a0 kV;replace p5:=eq_true p5;replace q5:=eq_true q5;go_wp2_with((go_at_call 166;(with_reducible refine(eZ.calls (bt a0 kV) true _ A6.out).mono ?_);rintro e w' ⟨rfl,⟨nd,rfl⟩⟩;have p9:0≤(kV:Int):=bE gL;have q9:kV<(a0.size:Int):=bE gL;have hx9:=gV a0 kV;replace p9:=eq_true p9;replace q9:=eq_true q9));go_roundg k2
         case measure=>have:=qj.out;have:=Eo.out;omega
         case rel=>exact⟨(wrap64 (kV+1)),(wrap64 ((wrap64 (10*Jj))+(((bt a0 kV)-48)%256))),fI,fI,H',⟨VQ⟩,⟨Ah⟩,⟨dN⟩⟩
        ·replace H:=gI H;rcases H with⟨c10,-,-,H⟩|⟨c10,-,-,H⟩
         ·have yS:decide (fT<kV)=true:=aT c10;clear c10;replace H:=gN H;obtain⟨c11,-,-,H⟩:=H;have Xr:=ae.mk c11;clear c11;obtain⟨ai9,Sd⟩:∃ y_:List Int,y_=(fU ++ [Jj]):=⟨_,rfl⟩;replace H:(bB.l0 k2 a0 ai9 (wrap64 ((wrap64 (kV-1))+1)))=some r:=by first|(rw[Sd];with_reducible exact H)|(have rq:=(aj _ _).symm.trans H;rw[Sd];with_reducible exact rq)|(have rq:=(aj _ _).symm.trans H;with_reducible exact rq)|with_reducible exact H|(rw[Sd];exact H)|exact H
          have alp:=ae.mk Sd;clear Sd;have H':=ae.mk H;clear H;have p5:0≤(kV:Int):=bE gL;have q5:kV<(a0.size:Int):=bE gL;have hx5:=gV a0 kV;replace p5:=eq_true p5;replace q5:=eq_true q5;go_wp2_with(first|(go_at_call 166;(with_reducible refine(eZ.calls (bt a0 kV) true _ A6.out).mono ?_);rintro e w' ⟨rfl,⟨nd,rfl⟩⟩)|((with_reducible refine lJ (b:=.append) (xs:=#[.tmp 43,.tmp 45]) rfl ?_);at_builtin;refine Kd.rZ (Kd.int .i64) (w0:=w) w.heap.size rfl (.tmp 43) (.tmp 45) 90 3 (.int .i64 0) 8 rfl Tryz.underlying90 info3 rfl ak aa u3 fU Jj [.int .i64 Jj] (fun _=>True) (fun _=>False) rfl rfl ?aP (fun _ hk=>hk.elim) ?aF ?aO ?aB ?aS ?aL ?_;(case aP=>exact rfl);(case aB=>exact dN);(case aF=>exact(fun _ _=>trivial));(case aO=>exact UC);(case aS=>exact(bY dN));(case aL=>have:=Xr.out;omega);intro av3 jm ho hb hg hat;rw[← alp.out] at ho;have PZ:=ae.mk (hb);have P5:=ae.mk (ho);clear HB;clear ou;have HB:=PZ;have as5:=P5;clear PZ P5;clear ho hb hg hat));go_roundg k2
          case measure=>have:=qj.out;have:=Eo.out;omega
          case rel=>exact⟨(ai9),(wrap64 ((wrap64 (kV-1))+1)),fI,H',⟨VQ⟩,⟨Ah⟩,⟨dN⟩⟩
         ·have yS:decide (fT<kV)=false:=aN c10;clear c10;exact bB.e0
       ·replace H:=gI H;rcases H with⟨c13,-,-,H⟩|⟨c13,-,-,H⟩
        ·have zP:decide (fT<kV)=true:=aT c13;clear c13;replace H:=gN H;obtain⟨c14,-,-,H⟩:=H;have aoz:=ae.mk c14;clear c14;obtain⟨aja,Sg⟩:∃ y_:List Int,y_=(fU ++ [Jj]):=⟨_,rfl⟩;replace H:(bB.l0 k2 a0 aja (wrap64 ((wrap64 (kV-1))+1)))=some r:=by first|(rw[Sg];with_reducible exact H)|(have rq:=(aj _ _).symm.trans H;rw[Sg];with_reducible exact rq)|(have rq:=(aj _ _).symm.trans H;with_reducible exact rq)|with_reducible exact H|(rw[Sg];exact H)|exact H
         have alq:=ae.mk Sg;clear Sg;have H':=ae.mk H;clear H;have p5:0≤(kV:Int):=bE gL;have q5:kV<(a0.size:Int):=bE gL;have hx5:=gV a0 kV;replace p5:=eq_true p5;replace q5:=eq_true q5;go_wp2_with(first|(go_at_call 166;(with_reducible refine(eZ.calls (bt a0 kV) false _ A6.out).mono ?_);rintro e w' ⟨rfl,⟨nd,rfl⟩⟩)|((with_reducible refine lJ (b:=.append) (xs:=#[.tmp 43,.tmp 45]) rfl ?_);at_builtin;refine Kd.rZ (Kd.int .i64) (w0:=w) w.heap.size rfl (.tmp 43) (.tmp 45) 90 3 (.int .i64 0) 8 rfl Tryz.underlying90 info3 rfl ak aa u3 fU Jj [.int .i64 Jj] (fun _=>True) (fun _=>False) rfl rfl ?aP (fun _ hk=>hk.elim) ?aF ?aO ?aB ?aS ?aL ?_;(case aP=>exact rfl);(case aB=>exact dN);(case aF=>exact(fun _ _=>trivial));(case aO=>exact UC);(case aS=>exact(bY dN));(case aL=>have:=aoz.out;omega);intro av4 ku ho hb hg hat;rw[← alq.out] at ho;have KW:=ae.mk (hb);have KX:=ae.mk (ho);clear HB;clear ou;have HB:=KW;have as6:=KX;clear KW KX;clear ho hb hg hat));go_roundg k2
         case measure=>have:=qj.out;have:=Eo.out;omega
         case rel=>exact⟨(aja),(wrap64 ((wrap64 (kV-1))+1)),fI,H',⟨VQ⟩,⟨Ah⟩,⟨dN⟩⟩
        ·have zP:decide (fT<kV)=false:=aN c13;clear c13;exact bB.e0
      ·replace H:=gI H;rcases H with⟨c16,-,-,H⟩|⟨c16,-,-,H⟩
       ·have Ae:decide (fT<kV)=true:=aT c16;clear c16;replace H:=gN H;obtain⟨c17,-,-,H⟩:=H;have aet:=ae.mk c17;clear c17;obtain⟨ajb,Si⟩:∃ y_:List Int,y_=(fU ++ [Jj]):=⟨_,rfl⟩;replace H:(bB.l0 k2 a0 ajb (wrap64 ((wrap64 (kV-1))+1)))=some r:=by first|(rw[Si];with_reducible exact H)|(have rq:=(aj _ _).symm.trans H;rw[Si];with_reducible exact rq)|(have rq:=(aj _ _).symm.trans H;with_reducible exact rq)|with_reducible exact H|(rw[Si];exact H)|exact H
        have alr:=ae.mk Si;clear Si;have H':=ae.mk H;clear H;go_wp2_with(((with_reducible refine lJ (b:=.append) (xs:=#[.tmp 43,.tmp 45]) rfl ?_);at_builtin;refine Kd.rZ (Kd.int .i64) (w0:=w) w.heap.size rfl (.tmp 43) (.tmp 45) 90 3 (.int .i64 0) 8 rfl Tryz.underlying90 info3 rfl ak aa u3 fU Jj [.int .i64 Jj] (fun _=>True) (fun _=>False) rfl rfl ?aP (fun _ hk=>hk.elim) ?aF ?aO ?aB ?aS ?aL ?_;(case aP=>exact rfl);(case aB=>exact dN);(case aF=>exact(fun _ _=>trivial));(case aO=>exact UC);(case aS=>exact(bY dN));(case aL=>have:=aet.out;omega);intro av5 pU ho hb hg hat;rw[← alr.out] at ho;have zR:=ae.mk (hb);have KY:=ae.mk (ho);clear HB;clear ou;have HB:=zR;have as7:=KY;clear zR KY;clear ho hb hg hat));go_roundg k2
        case measure=>have:=qj.out;have:=Eo.out;omega
        case rel=>exact⟨(ajb),(wrap64 ((wrap64 (kV-1))+1)),fI,H',⟨VQ⟩,⟨Ah⟩,⟨dN⟩⟩
       ·have Ae:decide (fT<kV)=false:=aN c16;clear c16;have H':=ae.mk H;clear H;go_wp2;go_roundg k2
        case measure=>have:=qj.out;have:=Eo.out;omega
        case rel=>exact⟨(fU),(wrap64 (fT+1)),fI,H',⟨VQ⟩,⟨Ah⟩,⟨dN⟩⟩
   ·obtain rfl:=cu H;go_wp2;go_ret;exact⟨_,nG,Ah,dN⟩

def pz.f  : Option (List ByteArray):=some (([(⟨#[74,97,110]⟩:af),(⟨#[70,101,98]⟩:af),(⟨#[77,97,114]⟩:af),(⟨#[65,112,114]⟩:af),(⟨#[77,97,121]⟩:af),(⟨#[74,117,110]⟩:af),(⟨#[74,117,108]⟩:af),(⟨#[65,117,103]⟩:af),(⟨#[83,101,112]⟩:af),(⟨#[79,99,116]⟩:af),(⟨#[78,111,118]⟩:af),(⟨#[68,101,99]⟩:af)]:List ByteArray))
theorem pz.calls  (r:List ByteArray) (w:World) (h:pz.f  = some r) :
  Calls Tryz.prog 171 #[] w fun e w'=>∃ PV:Value,e = .returned (PV)∧Kd.R Kd.string 9 w' w.heap.size (fun _=>True) PV r∧Below w.heap.size w w':=by
 have HB:=ae.mk (Below.refl w.heap.size w);have H:=h;clear h;unfold pz.f at H;obtain⟨aoA,Sj⟩:∃ y_:List ByteArray,y_=(([(⟨#[74,97,110]⟩:af),(⟨#[70,101,98]⟩:af),(⟨#[77,97,114]⟩:af),(⟨#[65,112,114]⟩:af),(⟨#[77,97,121]⟩:af),(⟨#[74,117,110]⟩:af),(⟨#[74,117,108]⟩:af),(⟨#[65,117,103]⟩:af),(⟨#[83,101,112]⟩:af),(⟨#[79,99,116]⟩:af),(⟨#[78,111,118]⟩:af),(⟨#[68,101,99]⟩:af)]:List ByteArray)):=⟨_,rfl⟩;replace H:(some aoA)=some r:=by first|(rw[Sj];with_reducible exact H)|(have rq:=(aj _ _).symm.trans H;rw[Sj];with_reducible exact rq)|(have rq:=(aj _ _).symm.trans H;with_reducible exact rq)|with_reducible exact H|(rw[Sj];exact H)|exact H
 have aeu:=ae.mk Sj;clear Sj;obtain rfl:=cu H;go_enter Tryz.func171,Tryz.ntmps171;go_wp2_with(((with_reducible refine aY (N:=1) rfl ?_);refine Kd.Wz Kd.string _ 9 ?hg (N:=1) ?hd (xs:=([(⟨#[74,97,110]⟩:af),(⟨#[70,101,98]⟩:af),(⟨#[77,97,114]⟩:af),(⟨#[65,112,114]⟩:af),(⟨#[77,97,121]⟩:af),(⟨#[74,117,110]⟩:af),(⟨#[74,117,108]⟩:af),(⟨#[65,117,103]⟩:af),(⟨#[83,101,112]⟩:af),(⟨#[79,99,116]⟩:af),(⟨#[78,111,118]⟩:af),(⟨#[68,101,99]⟩:af)]:List ByteArray)) (inner:=[.string (⟨#[74,97,110]⟩:af),.string (⟨#[70,101,98]⟩:af),.string (⟨#[77,97,114]⟩:af),.string (⟨#[65,112,114]⟩:af),.string (⟨#[77,97,121]⟩:af),.string (⟨#[74,117,110]⟩:af),.string (⟨#[74,117,108]⟩:af),.string (⟨#[65,117,103]⟩:af),.string (⟨#[83,101,112]⟩:af),.string (⟨#[79,99,116]⟩:af),.string (⟨#[78,111,118]⟩:af),.string (⟨#[68,101,99]⟩:af)]) (ok:=fun _=>True) (okp:=fun _=>True) ?hr ?hp (fun _ hk=>hk) trivial (Below.refl _ _) (Nat.le_refl _) (by simp) ?_;(case hd=>rfl);(case hg=>rfl);(case hr=>first|(go_simp;done)|(go_simp;rfl));(case hp=>exact(jK.one (show Kd.M Kd.string _ _ _ (⟨#[74,97,110]⟩:af) [.string (⟨#[74,97,110]⟩:af)] from rfl) (jK.one (show Kd.M Kd.string _ _ _ (⟨#[70,101,98]⟩:af) [.string (⟨#[70,101,98]⟩:af)] from rfl) (jK.one (show Kd.M Kd.string _ _ _ (⟨#[77,97,114]⟩:af) [.string (⟨#[77,97,114]⟩:af)] from rfl) (jK.one (show Kd.M Kd.string _ _ _ (⟨#[65,112,114]⟩:af) [.string (⟨#[65,112,114]⟩:af)] from rfl) (jK.one (show Kd.M Kd.string _ _ _ (⟨#[77,97,121]⟩:af) [.string (⟨#[77,97,121]⟩:af)] from rfl) (jK.one (show Kd.M Kd.string _ _ _ (⟨#[74,117,110]⟩:af) [.string (⟨#[74,117,110]⟩:af)] from rfl) (jK.one (show Kd.M Kd.string _ _ _ (⟨#[74,117,108]⟩:af) [.string (⟨#[74,117,108]⟩:af)] from rfl) (jK.one (show Kd.M Kd.string _ _ _ (⟨#[65,117,103]⟩:af) [.string (⟨#[65,117,103]⟩:af)] from rfl) (jK.one (show Kd.M Kd.string _ _ _ (⟨#[83,101,112]⟩:af) [.string (⟨#[83,101,112]⟩:af)] from rfl) (jK.one (show Kd.M Kd.string _ _ _ (⟨#[79,99,116]⟩:af) [.string (⟨#[79,99,116]⟩:af)] from rfl) (jK.one (show Kd.M Kd.string _ _ _ (⟨#[78,111,118]⟩:af) [.string (⟨#[78,111,118]⟩:af)] from rfl) (jK.one (show Kd.M Kd.string _ _ _ (⟨#[68,101,99]⟩:af) [.string (⟨#[68,101,99]⟩:af)] from rfl) (jK.none _ _))))))))))))));intro av6 jm ho2 hb hg_ hnew_;clear hg_ hnew_;(first|rw[← aeu.out] at ho2|(simp only[Int.reduceToNat] at ho2;rw[← aeu.out] at ho2));have as8:=ae.mk (Kd.iT ho2 (bY dN));replace HB:=dS hb;clear hb ho2));go_ret;exact⟨_,nG,Ah,dN⟩


def gU.l0 : Nat→ByteArray→List ByteArray→Int→Int→Option (Int)
 |0,_,_,_,_=>none
 |k+1,x0,x5,x6,x7=>if x7<x6 then(if 0≤x7 then(if x7<(x5.length:Int) then((strings_Contains.f x0 (cZ ByteArray.empty x5 x7)).bind fun ajc=>(if ajc=true then(some (wrap64 (x7+1))) else(gU.l0 k x0 x5 x6 (wrap64 (x7+1))))) else(none)) else(none)) else(some 0)
def gU.f (k:Nat) (a0:ByteArray):Option (Int):=(pz.f).bind fun Ia=>(gU.l0 k a0 Ia (Ia.length:Int) 0)
theorem gU.calls (k:Nat) (a0:ByteArray) (r:Int) (w:World) (h:gU.f k a0=some r) (HT0:pY w) :
  Calls Tryz.prog 133 #[.string a0] w fun e w'=>e = .returned (.int .i64 r)∧Below w.heap.size w w':=by
 have HT:=ae.mk HT0;clear HT0;have HB:=ae.mk (Below.refl w.heap.size w);have H:=h;clear h;unfold gU.f at H;replace H:=gD H;obtain⟨Ia,A2,H⟩:=H;have H':=ae.mk H;clear H;go_enter Tryz.func133,Tryz.ntmps133;go_wp2_with(first|((with_reducible refine ag (f:=171) rfl ?_);refine aG (some 5) rfl rfl Tryz.func171 aK rfl #[] rfl eu ?_;(with_reducible refine(pz.calls  Ia _ A2.out).mono ?_);rintro e w3 ⟨av7,rfl,ho0,hb⟩;refine⟨_,rfl,?_⟩;have als:=ae.mk (Kd.iT ho0 (bY dN));replace HB:=dS hb;(try clear hb);(try clear ho0);obtain⟨Ao4,co4,eo4⟩:=Kd.iA als.out;subst eo4));go_loopg [7] k (fun kq v7 w'=>∃(xD:Int),v7 = .int .i64 xD∧ae (gU.l0 kq a0 Ia (Ia.length:Int) xD=some r)∧ae (kq≤k)∧ae (Kd.R Kd.string 9 w' w.heap.size (fun _=>True) (.slice Ao4 Ia.length co4) Ia)∧ae (Below w.heap.size w w'))
 case atStart=>exact⟨(0),fI,H',⟨Nat.le_refl _⟩,⟨Ah⟩,⟨dN⟩⟩
 case round=>
  clear H';obtain⟨xD,rfl,HA,qj,yX,HB⟩:=hrel;cases gk with
  |zero=>exact absurd HA.out (by simp[gU.l0])
  |succ k1=>
   have H:=HA.out;clear HA;simp only[gU.l0] at H;replace H:=gI H;rcases H with⟨-,qh,-,H⟩|⟨-,qh,-,H⟩
   ·replace H:=gN H;obtain⟨-,nW,-,H⟩:=H;replace H:=gN H;obtain⟨-,uR,-,H⟩:=H;replace H:=gD H;obtain⟨ajc,A8,H⟩:=H;replace H:=gB H;rcases H with⟨rfl,H⟩|⟨rfl,H⟩
    ·obtain rfl:=cu H;have Sk:0≤(xD:Int):=bE gL;have Sl:xD<(Ia.length:Int):=bE gL;obtain⟨alu,aev,aew⟩:=Kd.iV (Kd.bC yX.out).2.2 xD Sk Sl;cases aev
     replace Sk:=eq_true Sk;replace Sl:=eq_true Sl;go_wp2_with(((with_reducible refine ag (f:=148) rfl ?_);refine aG (some 14) rfl rfl Tryz.func148 aK rfl #[.string a0,.string (cZ ByteArray.empty Ia xD)] rfl eu ?_;(with_reducible refine(strings_Contains.calls a0 (cZ ByteArray.empty Ia xD) true _ A8.out ?hT).mono ?_);(case hT=>exact gJ HT);rintro e w' ⟨rfl,⟨nd,rfl⟩⟩;refine⟨_,rfl,?_⟩));go_ret;exact⟨nG,dN⟩
    ·have H':=ae.mk H;clear H;have Sk:0≤(xD:Int):=bE gL;have Sl:xD<(Ia.length:Int):=bE gL;obtain⟨alu,aev,aew⟩:=Kd.iV (Kd.bC yX.out).2.2 xD Sk Sl;cases aev
     replace Sk:=eq_true Sk;replace Sl:=eq_true Sl;go_wp2_with(((with_reducible refine ag (f:=148) rfl ?_);refine aG (some 14) rfl rfl Tryz.func148 aK rfl #[.string a0,.string (cZ ByteArray.empty Ia xD)] rfl eu ?_;(with_reducible refine(strings_Contains.calls a0 (cZ ByteArray.empty Ia xD) false _ A8.out ?hT).mono ?_);(case hT=>exact gJ HT);rintro e w' ⟨rfl,⟨nd,rfl⟩⟩;refine⟨_,rfl,?_⟩));go_roundg k1
     case measure=>have:=qj.out;omega
     case rel=>exact⟨(wrap64 (xD+1)),fI,H',⟨by have:=qj.out;omega⟩,⟨Ah⟩,⟨dN⟩⟩
   ·obtain rfl:=cu H;go_wp2;go_ret;exact⟨nG,dN⟩

def fM.j0 : Nat→Int→Bool→Option (Int)
 |0,_,_=>none
 |k+1,x1,x5=>if x5=true then(some 29) else(if x1=2 then(some 28) else(if x1=4 then(some 30) else(if x1=6 then(some 30) else(if x1=9 then(some 30) else(if x1=11 then(some 30) else(some 31))))))
def fM.f (k:Nat) (a0:Int) (a1:Int):Option (Int):=if a1=2 then(if(Int.tmod a0 4)=0 then(if(Int.tmod a0 100)=0 then(fM.j0 k a1 ((Int.tmod a0 400)==0)) else(fM.j0 k a1 true)) else(fM.j0 k a1 ((Int.tmod a0 400)==0))) else(fM.j0 k a1 false)
theorem fM.e0 {p:Prop} (h:p:=by
  have H':=ae.mk H
  clear H
  go_wp2
  go_meet
  case rel=>exact⟨_,(((Int.tmod a0 400)==0)),fI,H',⟨EC⟩,lG⟩):p:=h
theorem fM.calls (k:Nat) (a0 a1 r:Int) (w:World) (h:fM.f k a0 a1=some r) :
  Calls Tryz.prog 175 #[.int .i64 a0,.int .i64 a1] w fun e w'=>e = .returned (.int .i64 r)∧ed w w':=by
 have H:=h;clear h;unfold fM.f at H;have ZT:=ae.mk H;clear H;go_enter Tryz.func175,Tryz.ntmps175;go_upto_region 1 with(fail);go_cut [5] (fun v5 wc=>∃(kq:Nat) (kV:Bool),v5 = .bool kV∧ae (fM.j0 kq a1 kV=some r)∧ae (kq≤k)∧ed w wc)
 case first=>
  have H:=ZT.out;clear ZT;replace H:=gI H;rcases H with⟨c4,-,-,H⟩|⟨c4,-,-,H⟩
  ·obtain⟨mP,yH⟩:=rD c4;clear c4;(first|rw[mP]|(simp only[iE,jF];rw[mP])|skip)
   replace H:=gI H;rcases H with⟨c5,-,-,H⟩|⟨c5,-,-,H⟩
   ·obtain⟨qh,Al⟩:=rD c5;clear c5;replace H:=gI H;rcases H with⟨c6,-,-,H⟩|⟨c6,-,-,H⟩
    ·obtain⟨nW,yK⟩:=rD c6;clear c6;exact fM.e0
    ·obtain⟨nW,yK⟩:=rO c6;have H':=ae.mk H;clear H;go_wp2;go_meet
     case rel=>exact⟨_,(true),fI,H',⟨EC⟩,lG⟩
   ·obtain⟨qh,Al⟩:=rO c5;exact fM.e0
  ·obtain⟨mP,yH⟩:=rO c4;(first|rw[mP]|(simp only[iE,jF];rw[mP])|skip)
   have H':=ae.mk H;clear H;go_wp2;go_meet
   case rel=>exact⟨_,(false),fI,H',⟨EC⟩,lG⟩
 case rest=>
  clear ZT;obtain⟨kq,kV,rfl,HA,HJ2,⟨mc2,rfl⟩⟩:=hcut;cases kq with
  |zero=>exact absurd HA.out (by simp[fM.j0])
  |succ MO=>
   have H:=HA.out;clear HA;simp only[fM.j0] at H;replace H:=gB H;rcases H with⟨rfl,H⟩|⟨rfl,H⟩
   ·obtain rfl:=cu H;go_wp2;go_ret;exact⟨fI,lG⟩
   ·replace H:=gI H;rcases H with⟨c8,-,-,H⟩|⟨c8,-,-,H⟩
    ·obtain⟨tO,Iu⟩:=rD c8;clear c8;obtain rfl:=cu H;go_wp2;go_ret;exact⟨fI,lG⟩
    ·obtain⟨tO,Iu⟩:=rO c8;replace H:=gI H;rcases H with⟨c9,-,-,H⟩|⟨c9,-,-,H⟩
     ·obtain⟨xY,Gz⟩:=rD c9;clear c9;obtain rfl:=cu H;go_wp2;go_ret;exact⟨fI,lG⟩
     ·obtain⟨xY,Gz⟩:=rO c9;replace H:=gI H;rcases H with⟨c10,-,-,H⟩|⟨c10,-,-,H⟩
      ·obtain⟨yS,L6⟩:=rD c10;clear c10;obtain rfl:=cu H;go_wp2;go_ret;exact⟨fI,lG⟩
      ·obtain⟨yS,L6⟩:=rO c10;replace H:=gI H;rcases H with⟨c11,-,-,H⟩|⟨c11,-,-,H⟩
       ·obtain⟨xA,JO⟩:=rD c11;clear c11;obtain rfl:=cu H;go_wp2;go_ret;exact⟨fI,lG⟩
       ·obtain⟨xA,JO⟩:=rO c11;replace H:=gI H;rcases H with⟨c12,-,-,H⟩|⟨c12,-,-,H⟩
        ·obtain⟨wO,KZ⟩:=rD c12;clear c12;obtain rfl:=cu H;go_wp2;go_ret;exact⟨fI,lG⟩
        ·obtain⟨wO,KZ⟩:=rO c12;obtain rfl:=cu H;go_wp2;go_ret;exact⟨fI,lG⟩

end Go.Proofs.YtfhllanhldbkkaaGreatDoor.P
