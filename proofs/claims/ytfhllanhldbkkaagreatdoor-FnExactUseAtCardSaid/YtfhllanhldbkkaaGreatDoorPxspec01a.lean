import Derived.Test.YtfhllanhldbkkaaGreatDoorPx0
set_option maxHeartbeats 8000000
set_option maxRecDepth 100000
namespace Go.Proofs.YtfhllanhldbkkaaGreatDoor.P
open Go.RowKit Go.Proofs.YtfhllanhldbkkaaGreatDoorW.aW Go.Proofs.YtfhllanhldbkkaaGreatDoorW.eQ Go.Proofs.YtfhllanhldbkkaaGreatDoorW.fO
attribute [local go_sem] kV kW mE mF jP jQ kX kY dZ E8 E9 Fa Fb oU oV
set_option linter.unusedVariables false
set_option linter.unusedSimpArgs false

def kP.f (a0:Int):Option (Int):=if a0>=65 then(if a0<=90 then(some ((a0+32)%256)) else(some a0)) else(some a0)
theorem kP.calls (a0 r:Int) (w:World) (h:kP.f a0=some r) :
  Calls Tryz.prog 125 #[.int .u8 a0] w fun e w'=>e = .returned (.int .u8 r)/\bL w w':=by
 unfold kP.f at h;exact uA
@[reducible,instance] def kP.c:=jM.of 0 Tryz.func125 @kP.calls

theorem abZ (c:Int) (h0:0<=c) (h1:c<=255):kP.f c=some (low c):=by
 unfold kP.f low
 by_cases h:c>=65
 ·rw[if_pos h]
  by_cases h2:c<=90
  ·rw[if_pos h2,if_pos ⟨by omega,h2⟩];congr 1;omega
  ·rw[if_neg h2,if_neg aa]
 ·rw[if_neg h,if_neg aa]
def jk.f (a0:ByteArray):Option (ByteArray):=if a0.size<=9223372036854775807 then some (ig a0) else none
theorem jk.calls (a0 r:ByteArray) (w:World) (h:jk.f a0=some r) :
  Calls Tryz.prog 83 #[.string a0] w fun e w'=>e = .returned (.string r)/\Below w.heap.size w w':=by
 unfold jk.f at h;by_cases hs:a0.size<=9223372036854775807
 case neg=>rw[if_neg hs] at h;cases h
 rw[if_pos hs] at h;obtain rfl:=gK h;clear h;have kb:=fun W=>RD (P:=Tryz.prog) 9 100 5 Tryz.underlying9 Tryz.underlying100 Tryz.underlying5 a0 W;have aaV:DY (Lib.bytesWorld w 5 a0) w.heap.size 5 (Cg a0 0):=by rw[Tz];exact DY.new w 5 a0
 have hbel0:Below w.heap.size w (Lib.bytesWorld w 5 a0):=RF (Below.refl _ _) (Nat.le_refl _) 5 a0;go_enter Tryz.func83,Tryz.ntmps83;go_wp2;clear kb;go_loopw [4] (fun i wr=>∃ k:Nat,k<=a0.size/\i = .int .i64 k/\DY wr w.heap.size 5 (Cg a0 k)/\Below w.heap.size w wr) (fun i _=>a0.size-(intOf i).toNat)
 case atStart=>exact⟨0,Nat.zero_le _,rfl,aaV,hbel0⟩
 case round=>
  obtain⟨k,hk,rfl,hrow,hbel⟩:=hrel;clear aaV hbel0;by_cases hlt:k<a0.size
  ·have hcell:=hrow.cell k (by rw[rC];exact hlt);rw[TA a0 k hlt] at hcell;have hfree:=hrow.free k (by rw[rC];exact hlt);have hr:=eT a0 (k:Int);have hl:=abZ (bt a0 k) hr.1 hr.2;have Hrow:=ae.mk hrow;have Hbel:=ae.mk hbel;clear hrow hbel;go_wp2_with(go_at_call 125;refine(kP.calls _ _ _ hl).mono ?_;rintro e w' ⟨rfl,⟨nd,rfl⟩⟩);exact⟨⟨k+1,by omega,by go_num,by rw[<- NG a0 k hlt];exact(Hrow.out.drewN nd).set k (by rw[rC];exact hlt) _,(EB Hbel.out nd).setCell (Nat.le_refl _) _⟩,by simp[intOf];omega⟩
  ·obtain rfl:k=a0.size:=by omega
   have kc:=fun c=>DY.str (P:=Tryz.prog) (src:=100) (dst:=9) hrow Tryz.underlying100 Tryz.underlying5 Tryz.underlying9 a0.size c (rC a0 _);rw[Xb] at kc;have Hbel:=ae.mk hbel;clear hrow hbel;go_wp2;go_ret;exact⟨rfl,Hbel.out⟩
@[reducible,instance] def jk.c:=jM.of 0 Tryz.func83 @jk.calls

def dQ.f (a0:Int):Option (Bool):=if a0>=48 then(some (decide (a0<=57))) else(some false)
theorem dQ.calls (a0:Int) (r:Bool) (w:World) (h:dQ.f a0=some r) :
  Calls Tryz.prog 77 #[.int .u8 a0] w fun e w'=>e = .returned (.bool r)/\bL w w':=by
 unfold dQ.f at h;exact uA
@[reducible,instance] def dQ.c:=jM.of 0 Tryz.func77 @dQ.calls


mutual
def bX.j0 : Nat->Int->Bool->Option (ByteArray)
 |0,_,_=>none
 |k+1,x0,x8=>if x8=true then(some (⟨#[]⟩:af)) else(if x0<10 then(some (strOfNums (([(wrap64 (48+x0))%256]:List Int)))) else((bX.f k (wrap64 (Int.tdiv x0 10))).bind fun t197=>((some (([(wrap64 (48+(Int.tmod x0 10)))%256]:List Int):List Int)).bind fun ab0=>(if t197.size+(strOfNums ab0).size<=9223372036854775807 then(some (t197++(strOfNums ab0))) else(none)))))
def bX.f : Nat->Int->Option (ByteArray)
 |0,_=>none
 |k+1,a0=>if a0<0 then(bX.j0 k a0 true) else(bX.j0 k a0 (decide (a0>999999999999999)))
end
def bX.T5 : Bool×List (List Nat×List Nat):=(true,[([],[]),([0],[0]),([1],[1]),([],[]),([3],[3]),([4],[4]),([5],[5]),([6],[6]),([7],[7]),([2,8],[2,8]),([9,2,0,1,2,3,4,5,6,7,8,9],[9])])
def bX.B5 : List Nat:=[0,1,3,0,8,24,56,120,248,511,1023]
theorem bX.atE : pX .any (opsOf Tryz.f102 5)=bX.T5:=by kernel_rfl
theorem bX.ako : jK bX.T5.2 bX.B5=true:=by kernel_rfl
theorem bX.calls (k:Nat):∀(a0:Int) (r:ByteArray) (w:World) (h:bX.f k a0=some r),
  Calls Tryz.prog 102 #[.int .i64 a0] w fun e w'=>e = .returned (.string r)/\Below w.heap.size w w':=by
 induction k using Nat.strongRecOn with
 |_ k ih=>
 intro a0 r w h;cases k with
 |zero=>exact absurd h (by simp[bX.f])
 |succ k=>
 simp only[bX.f] at h;have HB:=ae.mk (Below.refl w.heap.size w);have H:(if a0<0 then(bX.j0 k a0 true) else(bX.j0 k a0 (decide (a0>999999999999999))))=some r:=h;clear h;have vv:=ae.mk H;clear H;go_enter Tryz.func102,Tryz.ntmps102;go_upto_region 1 with(fail);go_cut [8] (fun v8 wc=>∃(kq:Nat) (Vi:Bool),v8 = .bool Vi/\ae (bX.j0 kq a0 Vi=some r)/\ae (kq<=k)/\ae (Below w.heap.size w wc))
 case first=>
  have H:=vv.out;clear vv;replace H:=gI H;rcases H with⟨-,nS,-,H⟩|⟨-,nS,-,H⟩
  ·(first|rw[nS]|(simp only[jJ,lY];rw[nS])|skip)
   replace H:=ae.mk H;go_wp2;go_meet
   case rel=>exact⟨_,(true),kD,H,⟨Ld⟩,⟨dL⟩⟩
  ·(first|rw[nS]|(simp only[jJ,lY];rw[nS])|skip)
   replace H:=ae.mk H;go_wp2;go_meet
   case rel=>exact⟨_,(decide (a0>999999999999999)),kD,H,⟨Ld⟩,⟨dL⟩⟩
 case rest=>
  clear vv;obtain⟨kq,Vi,rfl,HA,Ch,HB⟩:=hcut;cases kq with
  |zero=>exact absurd HA.out (by simp[bX.j0])
  |succ vC=>
   have H:=HA.out;clear HA;simp only[bX.j0] at H;replace H:=gB H;rcases H with⟨rfl,H⟩|⟨rfl,H⟩
   ·obtain rfl:=gK H;go_wp2;go_ret;exact⟨su,dL⟩
   ·replace H:=gI H;rcases H with⟨-,xW,-,H⟩|⟨-,xW,-,H⟩
    ·obtain⟨aDq,ab1⟩:∃ y_:List Int,y_=(([(wrap64 (48+a0))%256]:List Int)):=⟨_,rfl⟩;replace H:(some (strOfNums aDq))=some r:=by first|(rw[ab1];with_reducible exact H)|(have mW:=(aj _ _).symm.trans H;rw[ab1];with_reducible exact mW)|(have mW:=(aj _ _).symm.trans H;with_reducible exact mW)|with_reducible exact H|(rw[ab1];exact H)|exact H
     have aqQ:=ae.mk ab1;clear ab1;obtain rfl:=gK H;go_wp2_with(first|((with_reducible refine vJ 14 rfl ?_);refine Kd.Xf (Kd.int .u8) _ 5 ?hg (N:=14) ?hd (xs:=([(wrap64 (48+a0))%256]:List Int)) (inner:=[.int .u8 ((wrap64 (48+a0))%256)]) (ok:=fun _=>True) (okp:=fun _=>True) ?hr ?hp (fun _ hk=>hk) trivial (Below.refl _ _) (Nat.le_refl _) (by simp) ?_;(case hd=>rfl);(case hg=>rfl);(case hr=>first|(go_simp;done)|(go_simp;rfl));(case hp=>exact(iB.one (show Kd.M (Kd.int .u8) _ _ _ ((wrap64 (48+a0))%256) [.int .u8 ((wrap64 (48+a0))%256)] from rfl) (iB.none _ _)));intro aJl w6 ho7 hb hg_ hnew_;clear hg_ hnew_;(first|rw[<- aqQ.out] at ho7|(simp only[Int.reduceToNat] at ho7;rw[<- aqQ.out] at ho7));have axV:=ae.mk (Kd.gZ ho7 (bq dL));replace HB:=iC hb;clear hb ho7;have aJm:=xH (P:=Tryz.prog) Tryz.underlying100 Tryz.underlying5 Tryz.underlying9 (Kd.Ao axV.out)));go_ret;exact⟨su,dL⟩
    ·replace H:=gD H;obtain⟨t197,A9,H⟩:=H;obtain⟨ab0,ab2⟩:∃ y_:List Int,y_=(([(wrap64 (48+(Int.tmod a0 10)))%256]:List Int)):=⟨_,rfl⟩;replace H:(if t197.size+(strOfNums ab0).size<=9223372036854775807 then(some (t197++(strOfNums ab0))) else(none))=some r:=by first|(rw[ab2];with_reducible exact H)|(have mW:=(aj _ _).symm.trans H;rw[ab2];with_reducible exact mW)|(have mW:=(aj _ _).symm.trans H;with_reducible exact mW)|with_reducible exact H|(rw[ab2];exact H)|exact H
     have afm:=ae.mk ab2;clear ab2;replace H:=gI H;rcases H with⟨c10,aeY,Cm,H⟩|⟨c10,-,-,H⟩
     ·try have aqP:=eq_false (Nat.not_lt.2 c10)
      obtain rfl:=gK H;try go_wp2
      replace HB:=ae.mk (bn HB.out);refine Ct (n:=11) (S:=fun w'=>True) (ds:=[]) #[false,false,false,false,false,false,false,false,false,false,false] eB rfl rfl trivial (fun hHeld=>?_);refine dY bX.atE bX.ako (fun HT_ HW_=>?_);generalize wc.drew=Oh at HB hHeld ⊢;refine bN 0 (some 16) ?_;refine bN 1 (some 17) ?_;refine bN 3 (some 19) ?_;refine bN 4 (some 20) ?_;refine bN 5 (some 21) ?_;refine bN 6 (some 22) ?_;refine apC (σ:=Value) 2 #[true,true,true,true,true,true,true,true,true,false,false] (fun s_=>[(18,.string t197),(23,s_),(24,.string (strOfNums ab0))]) (fun s_ w'=>(Kd.R (Kd.int .u8) 5 w' w.heap.size (fun _=>True) s_ ab0)/\(Below w.heap.size w w')) ?_ ?_;rotate_left
      ·intro hCont;refine alc (i:=2) (j:=7) (Ni:=some 18) (Nj:=some 23) #[true,true,true,true,true,true,true,false,false,false,false] #[true,true,false,true,true,true,true,true,false,false,false] rfl rfl rfl rfl (YD HT_.out eB) av av (fun K hK=>?_) (fun K hK=>?_)
       ·skip
        refine zrl Tryz.func102 (ih vC (by have:=Ch.out;omega) (wrap64 (Int.tdiv a0 10)) t197 _ A9.out) ?_;rintro e Kk ⟨rfl,hb⟩;refine⟨_,rfl,?_⟩;replace HB:=iC hb;(try clear hb)
        refine hK.out _ _ trivial (fun hHeld=>?_);clear hK K;refine tK (some 18) ?_;refine Cf (i:=7) (N:=some 23) #[true,true,true,true,true,true,true,true,false,false,false] rfl rfl (wD HT_.out eB) av (fun K hK=>?_);refine Kd.Jy (Kd.int .u8) _ 5 ?hg (N:=23) ?hd (xs:=([(wrap64 (48+(Int.tmod a0 10)))%256]:List Int)) (inner:=[.int .u8 ((wrap64 (48+(Int.tmod a0 10)))%256)]) (ok:=fun _=>True) (okp:=fun _=>True) ?hr ?hp (fun _ hk=>hk) trivial (Below.refl _ _) (Nat.le_refl _) (by simp) ?_;(case hd=>rfl);(case hg=>rfl);(case hr=>first|(go_simp;done)|(go_simp;rfl));(case hp=>exact(iB.one (show Kd.M (Kd.int .u8) _ _ _ ((wrap64 (48+(Int.tmod a0 10)))%256) [.int .u8 ((wrap64 (48+(Int.tmod a0 10)))%256)] from rfl) (iB.none _ _)));intro agI Kg akp hb hg_ hnew_;clear hg_ hnew_;(first|rw[<- afm.out] at akp|(simp only[Int.reduceToNat] at akp;rw[<- afm.out] at akp))
        have RJ:=ae.mk (Kd.gZ akp (bq dL));replace HB:=iC hb;clear hb akp;refine hK.out _ _ trivial (fun hHeld=>?_);clear hK K;refine tK (some 23) ?_;refine Cf (i:=8) (N:=some 24) #[true,true,true,true,true,true,true,true,true,false,false] rfl rfl (wD HT_.out eB) av (fun K hK=>?_);have akq:=xH (P:=Tryz.prog) Tryz.underlying100 Tryz.underlying5 Tryz.underlying9 (Kd.Ao RJ.out);refine acT (w1:=?_) (v:=?_) (by rfl) rfl ?_ ?_;rotate_left 2
        ·go_simp
         constructor
         ·rfl
         ·rfl
        clear akq;refine hK.out _ _ trivial (fun hHeld=>?_);clear hK K;refine tK (some 24) ?_;exact Nf agf (hCont (agI) _ ⟨aho,dL⟩)
       ·skip
        refine Kd.Jy (Kd.int .u8) _ 5 ?hg (N:=23) ?hd (xs:=([(wrap64 (48+(Int.tmod a0 10)))%256]:List Int)) (inner:=[.int .u8 ((wrap64 (48+(Int.tmod a0 10)))%256)]) (ok:=fun _=>True) (okp:=fun _=>True) ?hr ?hp (fun _ hk=>hk) trivial (Below.refl _ _) (Nat.le_refl _) (by simp) ?_;(case hd=>rfl);(case hg=>rfl);(case hr=>first|(go_simp;done)|(go_simp;rfl));(case hp=>exact(iB.one (show Kd.M (Kd.int .u8) _ _ _ ((wrap64 (48+(Int.tmod a0 10)))%256) [.int .u8 ((wrap64 (48+(Int.tmod a0 10)))%256)] from rfl) (iB.none _ _)));intro agI Kk akr hb hg_ hnew_;clear hg_ hnew_;(first|rw[<- afm.out] at akr|(simp only[Int.reduceToNat] at akr;rw[<- afm.out] at akr))
        have RJ:=ae.mk (Kd.gZ akr (bq dL));replace HB:=iC hb;clear hb akr;refine hK.out _ _ trivial (fun hHeld=>?_);clear hK K;refine tK (some 23) ?_;refine alc (i:=2) (j:=8) (Ni:=some 18) (Nj:=some 24) #[true,true,true,true,true,true,true,true,false,false,false] #[true,true,false,true,true,true,true,true,true,false,false] rfl rfl rfl rfl (YD HT_.out eB) av av (fun K hK=>?_) (fun K hK=>?_)
        ·skip
         refine zrl Tryz.func102 (ih vC (by have:=Ch.out;omega) (wrap64 (Int.tdiv a0 10)) t197 _ A9.out) ?_;rintro e w14 ⟨rfl,hb⟩;refine⟨_,rfl,?_⟩;replace RJ:=ae.mk (Kd.bz aho hb);replace HB:=iC hb;(try clear hb)
         (try clear hk)
         refine hK.out _ _ trivial (fun hHeld=>?_);clear hK K;refine tK (some 18) ?_;refine Cf (i:=8) (N:=some 24) #[true,true,true,true,true,true,true,true,true,false,false] rfl rfl (wD HT_.out eB) av (fun K hK=>?_);have akq:=xH (P:=Tryz.prog) Tryz.underlying100 Tryz.underlying5 Tryz.underlying9 (Kd.Ao RJ.out);refine acT (w1:=?_) (v:=?_) (by rfl) rfl ?_ ?_;rotate_left 2
         ·go_simp
          constructor
          ·rfl
          ·rfl
         clear akq;refine hK.out _ _ trivial (fun hHeld=>?_);clear hK K;refine tK (some 24) ?_;exact Nf agf (hCont (agI) _ ⟨aho,dL⟩)
        ·skip
         have axW:=xH (P:=Tryz.prog) Tryz.underlying100 Tryz.underlying5 Tryz.underlying9 (Kd.Ao RJ.out);refine acT (w1:=?_) (v:=?_) (by rfl) rfl ?_ ?_;rotate_left 2
         ·go_simp
          constructor
          ·rfl
          ·rfl
         clear axW;refine hK.out _ _ trivial (fun hHeld=>?_);clear hK K;refine tK (some 24) ?_;refine Cf (i:=2) (N:=some 18) #[true,true,true,true,true,true,true,true,true,false,false] rfl rfl (wD HT_.out eB) av (fun K hK=>?_);refine zrl Tryz.func102 (ih vC (by have:=Ch.out;omega) (wrap64 (Int.tdiv a0 10)) t197 _ A9.out) ?_;rintro e w15 ⟨rfl,hb⟩;refine⟨_,rfl,?_⟩;replace RJ:=ae.mk (Kd.bz aho hb);replace HB:=iC hb;(try clear hb)
         (try clear hk)
         refine hK.out _ _ trivial (fun hHeld=>?_);clear hK K;refine tK (some 18) ?_;exact Nf agf (hCont (agI) _ ⟨aho,dL⟩)
      rintro agI w16 ⟨Lg,Xl⟩;have qb:ae (Kd.R (Kd.int .u8) 5 w16 w.heap.size (fun _=>True) agI ab0):=⟨Lg⟩;have qU:ae (Below w.heap.size w w16):=⟨Xl⟩;clear HB;clear Lg Xl;have RJ:=qb;have HB:=qU;clear qb qU;have hHeld:=trivial;refine Nf (a':=?_) ?_ ?_;rotate_left
      ·simp only[QA,Act.put,List.setIfInBounds_toArray,List.set_cons_zero,List.set_cons_succ];rfl
      refine bN 9 (some 25) ?_;refine bN 10 (some 2) ?_;refine lh (gP HT_.out eB) ?_;try go_wp2
      go_ret;exact⟨su,dL⟩
     ·exact absurd H (by simp)
@[reducible,instance] def bX.c:=jM.of 0 Tryz.func102 @bX.calls


mutual
def eP.j0 : Nat->ByteArray->Bool->Option (Int×Bool)
 |0,_,_=>none
 |k+1,x0,x13=>if x13=true then(some (0,false)) else(eP.l0 k x0 0 0)
def eP.l0 : Nat->ByteArray->Int->Int->Option (Int×Bool)
 |0,_,_,_=>none
 |k+1,x0,x4,x5=>if x5<(x0.size:Int) then(if 0<=x5 then((dQ.f (bt x0 x5)).bind fun t201=>(if t201=true then(eP.l0 k x0 (wrap64 ((wrap64 (x4*10))+(((bt x0 x5)-48)%256))) (wrap64 (x5+1))) else(some (0,false)))) else(none)) else((bX.f k x4).bind fun t202=>(if t202.toList=x0.toList then(some (x4,true)) else(some (0,false))))
end
def eP.f (k:Nat) (a0:ByteArray):Option (Int×Bool):=if(a0.size:Int)=0 then(eP.j0 k a0 true) else(eP.j0 k a0 (decide ((a0.size:Int)>15)))
theorem eP.calls (k:Nat) (a0:ByteArray) (r1:Int) (r2:Bool) (w:World) (h:eP.f k a0=some (r1,r2)) :
  Calls Tryz.prog 141 #[.string a0] w fun e w'=>e = .returned (.tuple #[.int .i64 r1,.bool r2])/\Below w.heap.size w w':=by
 have HB:=ae.mk (Below.refl w.heap.size w);have H:=h;clear h;unfold eP.f at H;have vv:=ae.mk H;clear H;go_enter Tryz.func141,Tryz.ntmps141;go_upto_region 1 with(fail);go_cut [13] (fun v13 wc=>∃(kq:Nat) (vT:Bool),v13 = .bool vT/\ae (eP.j0 kq a0 vT=some (r1,r2))/\ae (kq<=k)/\ae (Below w.heap.size w wc))
 case first=>
  have H:=vv;clear vv;exact uW
 case rest=>
  clear vv;obtain⟨kq,vT,rfl,HA,Ch,HB⟩:=hcut;cases kq with
  |zero=>exact absurd HA.out (by simp[eP.j0])
  |succ vC=>
   have H:=HA.out;clear HA;simp only[eP.j0] at H;replace H:=gB H;rcases H with⟨rfl,H⟩|⟨rfl,H⟩
   ·replace H:=ae.mk H;exact uW
   ·replace H:=ae.mk H;go_wp2;go_loopg [4,5] vC (fun kq v4 v5 w'=>∃(lF:Int) (pE:Int),v4 = .int .i64 lF/\v5 = .int .i64 pE/\ae (eP.l0 kq a0 lF pE=some (r1,r2))/\ae (kq<=vC)/\ae (Below w.heap.size w w'))
    case atStart=>exact⟨(0),(0),kD,kD,H,⟨Nat.le_refl _⟩,⟨dL⟩⟩
    case round=>
     clear H;obtain⟨lF,pE,rfl,rfl,HA,Cv,HB⟩:=hrel;cases gk with
     |zero=>exact absurd HA.out (by simp[eP.l0])
     |succ k2=>
      have H:=HA;clear HA;simp only[eP.l0] at H;exact uW
@[reducible,instance] def eP.c:=jM.of 0 Tryz.func141 @eP.calls


mutual
def dM.j0 : Nat->ByteArray->Bool->Option (Int×Bool)
 |0,_,_=>none
 |k+1,x0,x14=>if x14=true then(some (0,false)) else(dM.l0 k x0 0 0)
def dM.l0 : Nat->ByteArray->Int->Int->Option (Int×Bool)
 |0,_,_,_=>none
 |k+1,x0,x4,x5=>if x5<(x0.size:Int) then(if 0<=x5 then((kP.f (bt x0 x5)).bind fun t218=>((dQ.f t218).bind fun t219=>(if t219=true then(dM.l0 k x0 (wrap64 ((wrap64 (x4*16))+((t218-48)%256))) (wrap64 (x5+1))) else(if t218>=97 then(if t218<=102 then(dM.l0 k x0 (wrap64 ((wrap64 ((wrap64 (x4*16))+((t218-97)%256)))+10)) (wrap64 (x5+1))) else(some (0,false))) else(some (0,false)))))) else(none)) else(some (x4,true))
end
def dM.f (k:Nat) (a0:ByteArray):Option (Int×Bool):=if(a0.size:Int)=0 then(dM.j0 k a0 true) else(dM.j0 k a0 (decide ((a0.size:Int)>7)))
theorem dM.calls (k:Nat) (a0:ByteArray) (r1:Int) (r2:Bool) (w:World) (h:dM.f k a0=some (r1,r2)) :
  Calls Tryz.prog 211 #[.string a0] w fun e w'=>e = .returned (.tuple #[.int .i64 r1,.bool r2])/\bL w w':=by
 have H:=h;clear h;unfold dM.f at H;have vv:=ae.mk H;clear H;go_enter Tryz.func211,Tryz.ntmps211;go_upto_region 1 with(fail);go_cut [14] (fun v14 wc=>∃(kq:Nat) (VL:Bool),v14 = .bool VL/\ae (dM.j0 kq a0 VL=some (r1,r2))/\ae (kq<=k)/\bL w wc)
 case first=>
  have H:=vv;clear vv;exact uW
 case rest=>
  clear vv;obtain⟨kq,VL,rfl,HA,Ch,⟨mc1,rfl⟩⟩:=hcut;cases kq with
  |zero=>exact absurd HA.out (by simp[dM.j0])
  |succ vC=>
   have H:=HA.out;clear HA;simp only[dM.j0] at H;replace H:=gB H;rcases H with⟨rfl,H⟩|⟨rfl,H⟩
   ·replace H:=ae.mk H;exact uW
   ·replace H:=ae.mk H;go_wp2;go_loopg [4,5] vC (fun kq v4 v5 w'=>∃(lF:Int) (pE:Int),v4 = .int .i64 lF/\v5 = .int .i64 pE/\ae (dM.l0 kq a0 lF pE=some (r1,r2))/\ae (kq<=vC)/\bL w w')
    case atStart=>exact⟨(0),(0),kD,kD,H,⟨Nat.le_refl _⟩,TP⟩
    case round=>
     clear H;obtain⟨lF,pE,rfl,rfl,HA,Cv,⟨m2,rfl⟩⟩:=hrel;cases gk with
     |zero=>exact absurd HA.out (by simp[dM.l0])
     |succ k2=>
      have H:=HA;clear HA;simp only[dM.l0] at H;exact uW
@[reducible,instance] def dM.c:=jM.of 0 Tryz.func211 @dM.calls

def iY.l0 : Nat->ByteArray->Int->Int->Option (Bool)
 |0,_,_,_=>none
 |k+1,x0,x1,x5=>if x5<(x0.size:Int) then(if 0<=x5 then(if(bt x0 x5)=x1 then(some true) else(iY.l0 k x0 x1 (wrap64 (x5+1)))) else(none)) else(some false)
def iY.f (k:Nat) (a0:ByteArray) (a1:Int):Option (Bool):=iY.l0 k a0 a1 0
theorem iY.Vb : ∀ k,(∀ y0 y1 y2,MR (iY.l0 k y0 y1 y2) (iY.l0 (k+1) y0 y1 y2))
 |0=>fun _ _ _ r h=>by simp[iY.l0] at h
 |k+1=>by
  have ih0:=iY.Vb k
  ·intro y0 y1 y2
   unfold iY.l0
   exact uO
theorem iY.mono : ∀ a0 a1 k,MR (iY.f k a0 a1) (iY.f (k+1) a0 a1):=by
 intro a0 a1 k
 have ih0:=iY.Vb k
 unfold iY.f
 exact uO
theorem iY.calls (k:Nat) (a0:ByteArray) (a1:Int) (r:Bool) (w:World) (h:iY.f k a0 a1=some r) :
  Calls Tryz.prog 186 #[.string a0,.int .u8 a1] w fun e w'=>e = .returned (.bool r)/\bL w w':=by
 have H:=ae.mk h;clear h;unfold iY.f at H;go_enter Tryz.func186,Tryz.ntmps186;go_wp2;go_loopg [5] k (fun kq v5 w'=>∃(gH:Int),v5 = .int .i64 gH/\ae (iY.l0 kq a0 a1 gH=some r)/\ae (kq<=k)/\bL w w')
 case atStart=>exact⟨(0),kD,H,⟨Nat.le_refl _⟩,TP⟩
 case round=>
  clear H;obtain⟨gH,rfl,HA,mh,⟨m1,rfl⟩⟩:=hrel;cases gk with
  |zero=>exact absurd HA.out (by simp[iY.l0])
  |succ k1=>
   have H:=HA;clear HA;simp only[iY.l0] at H;exact uW
@[reducible,instance] def iY.c:=jM.of 0 Tryz.func186 @iY.calls


def ko.f (k:Nat) (a0:Int):Option (Bool):=(kP.f a0).bind fun axX=>(if axX>=97 then(if axX<=122 then(some true) else((dQ.f a0).bind fun aDr=>(if aDr=true then(some true) else(if a0=96 then(some true) else((iY.f k (⟨#[33,35,36,37,38,39,42,43,45,46,94,95,124,126]⟩:af) a0).bind fun aDs=>(some aDs)))))) else((dQ.f a0).bind fun aDt=>(if aDt=true then(some true) else(if a0=96 then(some true) else((iY.f k (⟨#[33,35,36,37,38,39,42,43,45,46,94,95,124,126]⟩:af) a0).bind fun aDu=>(some aDu))))))
theorem ko.mono : ∀ a0 k,MR (ko.f k a0) (ko.f (k+1) a0):=by
 intro a0 k
 have m0:=@iY.mono
 unfold ko.f
 exact uO
theorem ko.calls (k:Nat) (a0:Int) (r:Bool) (w:World) (h:ko.f k a0=some r) :
  Calls Tryz.prog 145 #[.int .u8 a0] w fun e w'=>e = .returned (.bool r)/\bL w w':=by
 unfold ko.f at h;exact uA
@[reducible,instance] def ko.c:=jM.of 0 Tryz.func145 @ko.calls

mutual
def eO.j0 : Nat->ByteArray->Bool->Option (Bool)
 |0,_,_=>none
 |k+1,x0,x11=>if x11=true then(some false) else(eO.l0 k x0 0)
def eO.l0 : Nat->ByteArray->Int->Option (Bool)
 |0,_,_=>none
 |k+1,x0,x3=>if x3<(x0.size:Int) then(if 0<=x3 then((ko.f k (bt x0 x3)).bind fun aDv=>(if aDv=true then(eO.l0 k x0 (wrap64 (x3+1))) else(some false))) else(none)) else(some true)
end
def eO.f (k:Nat) (a0:ByteArray):Option (Bool):=if(a0.size:Int)=0 then(eO.j0 k a0 true) else(eO.j0 k a0 (decide ((a0.size:Int)>4000)))
theorem eO.calls (k:Nat) (a0:ByteArray) (r:Bool) (w:World) (h:eO.f k a0=some r) :
  Calls Tryz.prog 97 #[.string a0] w fun e w'=>e = .returned (.bool r)/\bL w w':=by
 have H:=h;clear h;unfold eO.f at H;have vv:=ae.mk H;clear H;go_enter Tryz.func97,Tryz.ntmps97;go_upto_region 1 with(fail);go_cut [11] (fun v11 wc=>∃(kq:Nat) (VB:Bool),v11 = .bool VB/\ae (eO.j0 kq a0 VB=some r)/\ae (kq<=k)/\bL w wc)
 case first=>
  have H:=vv;clear vv;exact uW
 case rest=>
  clear vv;obtain⟨kq,VB,rfl,HA,Ch,⟨mc1,rfl⟩⟩:=hcut;cases kq with
  |zero=>exact absurd HA.out (by simp[eO.j0])
  |succ vC=>
   have H:=HA.out;clear HA;simp only[eO.j0] at H;replace H:=gB H;rcases H with⟨rfl,H⟩|⟨rfl,H⟩
   ·replace H:=ae.mk H;exact uW
   ·replace H:=ae.mk H;go_wp2;go_loopg [3] vC (fun kq v3 w'=>∃(rA:Int),v3 = .int .i64 rA/\ae (eO.l0 kq a0 rA=some r)/\ae (kq<=vC)/\bL w w')
    case atStart=>exact⟨(0),kD,H,⟨Nat.le_refl _⟩,TP⟩
    case round=>
     clear H;obtain⟨rA,rfl,HA,Cv,⟨m2,rfl⟩⟩:=hrel;cases gk with
     |zero=>exact absurd HA.out (by simp[eO.l0])
     |succ k2=>
      have H:=HA;clear HA;simp only[eO.l0] at H;exact uW
@[reducible,instance] def eO.c:=jM.of 0 Tryz.func97 @eO.calls

def mf.f (a0:Int):Option (Bool):=if a0=9 then(some true) else(if a0>=32 then(some (a0 != 127)) else(some false))
theorem mf.calls (a0:Int) (r:Bool) (w:World) (h:mf.f a0=some r) :
  Calls Tryz.prog 146 #[.int .u8 a0] w fun e w'=>e = .returned (.bool r)/\bL w w':=by
 unfold mf.f at h;exact uA
@[reducible,instance] def mf.c:=jM.of 0 Tryz.func146 @mf.calls


def rU.f (a0:Int):Option (Bool):=if a0=32 then(some true) else(some (a0==9))
theorem rU.calls (a0:Int) (r:Bool) (w:World) (h:rU.f a0=some r) :
  Calls Tryz.prog 147 #[.int .u8 a0] w fun e w'=>e = .returned (.bool r)/\bL w w':=by
 unfold rU.f at h;exact uA
@[reducible,instance] def rU.c:=jM.of 0 Tryz.func147 @rU.calls

mutual
def cz.j1 : Nat->ByteArray->Int->Option (ByteArray)
 |0,_,_=>none
 |k+1,x0,x3=>cz.l1 k x0 x3 (x0.size:Int)
def cz.l1 : Nat->ByteArray->Int->Int->Option (ByteArray)
 |0,_,_,_=>none
 |k+1,x0,x3,x4=>if x4>x3 then(if 0<=(wrap64 (x4-1)) then(if(wrap64 (x4-1))<(x0.size:Int) then((rU.f (bt x0 (wrap64 (x4-1)))).bind fun aDw=>(if aDw=true then(cz.l1 k x0 x3 (wrap64 (x4-1))) else(if 0<=x3 then(if x3<=x4 then(if x4<=(x0.size:Int) then(some (x0.extract (x3:Int).toNat (x4:Int).toNat)) else(none)) else(none)) else(none)))) else(none)) else(none)) else(if 0<=x3 then(if x3<=x4 then(if x4<=(x0.size:Int) then(some (x0.extract (x3:Int).toNat (x4:Int).toNat)) else(none)) else(none)) else(none))
def cz.l0 : Nat->ByteArray->Int->Option (ByteArray)
 |0,_,_=>none
 |k+1,x0,x3=>if x3<(x0.size:Int) then(if 0<=x3 then((rU.f (bt x0 x3)).bind fun aDx=>(if aDx=true then(cz.l0 k x0 (wrap64 (x3+1))) else(cz.j1 k x0 x3))) else(none)) else(cz.j1 k x0 x3)
end
def cz.f (k:Nat) (a0:ByteArray):Option (ByteArray):=cz.l0 k a0 0
theorem cz.calls (k:Nat) (a0 r:ByteArray) (w:World) (h:cz.f k a0=some r) :
  Calls Tryz.prog 99 #[.string a0] w fun e w'=>e = .returned (.string r)/\bL w w':=by
 have H:=ae.mk h;clear h;unfold cz.f at H;have vv:=H;clear H;go_enter Tryz.func99,Tryz.ntmps99;go_upto_block 0 with(fail);go_cut [3] (fun v3 wc=>∃(kq:Nat) (jD:Int),v3 = .int .i64 jD/\ae (cz.j1 kq a0 jD=some r)/\ae (kq<=k)/\bL w wc)
 case first=>
  have H:=vv;clear vv;go_wp2;go_loopg [3] k (fun kq v3 w'=>∃(jD:Int),v3 = .int .i64 jD/\ae (cz.l0 kq a0 jD=some r)/\ae (kq<=k)/\bL w w')
  case atStart=>exact⟨(0),kD,H,⟨Nat.le_refl _⟩,TP⟩
  case round=>
   clear H;obtain⟨jD,rfl,HA,mh,⟨m1,rfl⟩⟩:=hrel;cases gk with
   |zero=>exact absurd HA.out (by simp[cz.l0])
   |succ k1=>
    have H:=HA;clear HA;simp only[cz.l0] at H;exact uW
 case rest=>
  clear vv;obtain⟨kq,jD,rfl,HA,Ch,⟨mc1,rfl⟩⟩:=hcut;cases kq with
  |zero=>exact absurd HA.out (by simp[cz.j1])
  |succ vC=>
   have H:=HA;clear HA;simp only[cz.j1] at H;go_wp2;go_loopg [4] vC (fun kq v4 w'=>∃(lF:Int),v4 = .int .i64 lF/\ae (cz.l1 kq a0 jD lF=some r)/\ae (kq<=vC)/\bL w w')
   case atStart=>exact⟨((a0.size:Int)),kD,H,⟨Nat.le_refl _⟩,TP⟩
   case round=>
    clear H;obtain⟨lF,rfl,HA,Cv,⟨m2,rfl⟩⟩:=hrel;cases gk with
    |zero=>exact absurd HA.out (by simp[cz.l1])
    |succ k2=>
     have H:=HA;clear HA;simp only[cz.l1] at H;exact uW
@[reducible,instance] def cz.c:=jM.of 0 Tryz.func99 @cz.calls

def mZ.f (a0:ByteArray) (a1:ByteArray):Option (Bool):=(jk.f a0).bind fun axY=>((jk.f a1).bind fun axZ=>(some (axY.toList==axZ.toList)))
theorem mZ.calls (a0 a1:ByteArray) (r:Bool) (w:World) (h:mZ.f a0 a1=some r) :
  Calls Tryz.prog 120 #[.string a0,.string a1] w fun e w'=>e = .returned (.bool r)/\Below w.heap.size w w':=by
 unfold mZ.f at h;exact uA
@[reducible,instance] def mZ.c:=jM.of 0 Tryz.func120 @mZ.calls


mutual
def aY.l0 : Nat->ByteArray->List ByteArray->Int->Bool->Int->Option (List ByteArray)
 |0,_,_,_,_,_=>none
 |k+1,x0,x3,x4,x5,x6=>if x6<=(x0.size:Int) then(if x6=(x0.size:Int) then(aY.j1 k x0 x3 x4 x5 x6 true) else(if x5=true then(aY.j1 k x0 x3 x4 x5 x6 false) else(if 0<=x6 then(if x6<(x0.size:Int) then(aY.j1 k x0 x3 x4 x5 x6 ((bt x0 x6)==44)) else(none)) else(none)))) else(some x3)
def aY.j1 : Nat->ByteArray->List ByteArray->Int->Bool->Int->Bool->Option (List ByteArray)
 |0,_,_,_,_,_,_=>none
 |k+1,x0,x3,x4,x5,x6,x30=>if x30=true then(if 0<=x4 then(if x4<=x6 then(if x6<=(x0.size:Int) then((cz.f k (x0.extract (x4:Int).toNat (x6:Int).toNat)).bind fun K8=>(if(K8.size:Int)>0 then(if x3.length<8796093022208 then(aY.l0 k x0 (x3 ++ [K8]) (wrap64 (x6+1)) x5 (wrap64 (x6+1))) else(none)) else(aY.l0 k x0 x3 (wrap64 (x6+1)) x5 (wrap64 (x6+1))))) else(none)) else(none)) else(none)) else(if 0<=x6 then(if x6<(x0.size:Int) then(if(bt x0 x6)=34 then(aY.l0 k x0 x3 x4 (!x5) (wrap64 (x6+1))) else(if x5=true then(if(bt x0 x6)=92 then(if(wrap64 (x6+1))<(x0.size:Int) then(aY.l0 k x0 x3 x4 x5 (wrap64 ((wrap64 (x6+1))+1))) else(aY.l0 k x0 x3 x4 x5 (wrap64 (x6+1)))) else(aY.l0 k x0 x3 x4 x5 (wrap64 (x6+1)))) else(aY.l0 k x0 x3 x4 x5 (wrap64 (x6+1))))) else(none)) else(none))
end
def aY.f (k:Nat) (a0:ByteArray):Option (List ByteArray):=if(a0.size:Int)>4000 then(some ([]:List ByteArray)) else(aY.l0 k a0 ([]:List ByteArray) 0 false 0)
theorem aY.e0 {p:Prop} (h:p:=by
  replace H:=ae.mk H
  have p20:0<=(lN:Int):=aX gq
  have q20:lN<(a0.size:Int):=aX gq
  have atF:=dZ a0 lN
  replace p20:=eq_true p20
  replace q20:=eq_true q20
  have p23:0<=(lN:Int):=aX gq
  have q23:lN<(a0.size:Int):=aX gq
  have atG:=dZ a0 lN
  replace p23:=eq_true p23
  replace q23:=eq_true q23
  go_wp2
  go_roundg kj3
  case measure=>have:=mh.out;have:=HJ3.out;omega
  case rel=>exact⟨(jD),(gJ),(true),(wrap64 (lN+1)),kD,kD,kD,H,⟨agj⟩,⟨wh⟩,⟨dL⟩⟩):p:=h
theorem aY.calls (k:Nat) (a0:ByteArray) (r:List ByteArray) (w:World) (h:aY.f k a0=some r) :
  Calls Tryz.prog 122 #[.string a0] w fun e w'=>∃ KW:Value,e = .returned (KW)/\Kd.R Kd.string 9 w' w.heap.size (fun _=>True) KW r/\Below w.heap.size w w':=by
 have HB:=ae.mk (Below.refl w.heap.size w);have H:=h;clear h;unfold aY.f at H;replace H:=gI H;rcases H with⟨c2,-,-,H⟩|⟨c2,-,-,H⟩
 ·have xU:decide (4000<(a0.size:Int))=true:=aQ c2;have EG:decide (4000<a0.size)=true:=aQ aa;clear c2;obtain rfl:=gK H;go_enter Tryz.func122,Tryz.ntmps122;go_wp2;go_ret;exact⟨_,su,Pe,dL⟩
 ·have xU:decide (4000<(a0.size:Int))=false:=aT c2;have EG:decide (4000<a0.size)=false:=aT aa;clear c2;replace H:=ae.mk H;go_enter Tryz.func122,Tryz.ntmps122;go_wp2;go_loopg [3,4,5,6] k (fun kq v3 v4 v5 v6 w'=>∃(jD:List ByteArray) (gJ:Int) (gH:Bool) (lN:Int),v4 = .int .i64 gJ/\v5 = .bool gH/\v6 = .int .i64 lN/\ae (aY.l0 kq a0 jD gJ gH lN=some r)/\ae (kq<=k)/\ae (Kd.R Kd.string 9 w' w.heap.size (fun _=>True) v3 jD)/\ae (Below w.heap.size w w'))
  case atStart=>exact⟨(([]:List ByteArray)),(0),(false),(0),kD,kD,kD,H,⟨Nat.le_refl _⟩,⟨Pe⟩,⟨dL⟩⟩
  case round=>
   clear H;try clear c2
   try clear xU
   try clear EG
   obtain⟨jD,gJ,gH,lN,rfl,rfl,rfl,HA,mh,jY,HB⟩:=hrel;cases gk with
   |zero=>exact absurd HA.out (by simp[aY.l0])
   |succ k1=>
    have H:=HA.out;clear HA;simp only[aY.l0] at H;replace H:=gI H;rcases H with⟨-,nS,-,H⟩|⟨-,nS,-,H⟩
    ·have HC4:=ae.mk H;clear H;go_upto_region 9 with(fail);go_cut [30] (fun v30 wc=>∃(kq:Nat) (aks:Bool),v30 = .bool aks/\ae (aY.j1 kq a0 jD gJ gH lN aks=some r)/\ae (kq<=k1)/\ae (Kd.R Kd.string 9 wc w.heap.size (fun _=>True) u3 jD)/\ae (Below w.heap.size w wc))
     case first=>
      have H:=HC4.out;clear HC4;replace H:=gI H;rcases H with⟨c5,-,-,H⟩|⟨c5,-,-,H⟩
      ·obtain⟨xW,LW⟩:=Cu c5;clear c5;(first|rw[xW]|(simp only[jJ,lY];rw[xW])|skip)
       replace H:=ae.mk H;go_wp2;go_meet
       case rel=>exact⟨_,(true),kD,H,⟨aai⟩,⟨wh⟩,⟨dL⟩⟩
      ·obtain⟨xW,LW⟩:=Di c5;(first|rw[xW]|(simp only[jJ,lY];rw[xW])|skip)
       replace H:=gB H;rcases H with⟨rfl,H⟩|⟨rfl,H⟩
       ·replace H:=ae.mk H;go_wp2;go_meet
        case rel=>exact⟨_,(false),kD,H,⟨aai⟩,⟨wh⟩,⟨dL⟩⟩
       ·replace H:=gN H;obtain⟨-,Am,-,H⟩:=H;replace H:=gN H;obtain⟨-,zS,-,H⟩:=H;replace H:=ae.mk H;have p9:0<=(lN:Int):=aX gq;have q9:lN<(a0.size:Int):=aX gq;have hx9:=dZ a0 lN;replace p9:=eq_true p9;replace q9:=eq_true q9;go_wp2;go_meet
        case rel=>exact⟨_,(((bt a0 lN)==44)),kD,H,⟨aai⟩,⟨wh⟩,⟨dL⟩⟩
     case rest=>
      clear HC4;try clear c2
      try clear xU
      try clear EG
      try clear nS
      obtain⟨kq,aks,rfl,HA,HJ3,jY,HB⟩:=hcut;cases kq with
      |zero=>exact absurd HA.out (by simp[aY.j1])
      |succ kj3=>
       have H:=HA.out;clear HA;simp only[aY.j1] at H;replace H:=gB H;rcases H with⟨rfl,H⟩|⟨rfl,H⟩
       ·replace H:=gN H;obtain⟨-,aa8,EA,H⟩:=H;replace H:=gN H;obtain⟨-,Nk,Ab,H⟩:=H;replace H:=gN H;obtain⟨-,GX,zi,H⟩:=H;replace H:=gD H;obtain⟨K8,A14,H⟩:=H;replace H:=gI H;rcases H with⟨c15,-,-,H⟩|⟨c15,-,-,H⟩
        ·have Cj:decide (0<(K8.size:Int))=true:=aQ c15;have Vm:decide (0<K8.size)=true:=aQ aa;clear c15;replace H:=gN H;obtain⟨c16,-,-,H⟩:=H;have ax0:=ae.mk c16;clear c16;obtain⟨aqR,VM⟩:∃ y_:List ByteArray,y_=(jD ++ [K8]):=⟨_,rfl⟩;replace H:(aY.l0 kj3 a0 aqR (wrap64 (lN+1)) gH (wrap64 (lN+1)))=some r:=by first|(rw[VM];with_reducible exact H)|(have mW:=(aj _ _).symm.trans H;rw[VM];with_reducible exact mW)|(have mW:=(aj _ _).symm.trans H;with_reducible exact mW)|with_reducible exact H|(rw[VM];exact H)|exact H
         have atH:=ae.mk VM;clear VM;replace H:=ae.mk H;go_wp2_with(first|((with_reducible refine lS 99 rfl ?_);refine MW 35 rfl Tryz.func99 (cz.calls kj3 (a0.extract (gJ:Int).toNat (lN:Int).toNat) K8 _ A14.out) fun nd=>?_)|((with_reducible refine iF (b:=.append) (xs:=#[.tmp 39,.tmp 41]) rfl ?_);(try(refine mH (by rfl) ?_;dsimp only));at_builtin;refine Kd.mG Kd.string (w0:=w) w.heap.size rfl (.tmp 39) (.tmp 41) 76 9 (.string ⟨#[]⟩) 16 rfl Tryz.underlying76 Iy rfl av aa u3 jD K8 [.string K8] (fun _=>True) (fun _=>False) rfl rfl ?aP (fun _ hk=>hk.elim) ?aF ?aO ?aB ?aS ?aL ?_;(case aP=>exact rfl);(case aB=>exact dL);(case aF=>exact(fun _ _=>trivial));(case aO=>exact SG);(case aS=>exact(bq dL));(case aL=>have:=ax0.out;omega);intro aHa mo ho hb hg hat;rw[<- atH.out] at ho;have LX:=ae.mk (hb);have LY:=ae.mk (ho);clear HB;clear jY;have HB:=LX;have aDy:=LY;clear LX LY;clear ho hb hg hat));go_roundg kj3
         case measure=>have:=mh.out;have:=HJ3.out;omega
         case rel=>exact⟨(aqR),(wrap64 (lN+1)),(gH),(wrap64 (lN+1)),kD,kD,kD,H,⟨agj⟩,⟨wh⟩,⟨dL⟩⟩
        ·have Cj:decide (0<(K8.size:Int))=false:=aT c15;have Vm:decide (0<K8.size)=false:=aT aa;clear c15;replace H:=ae.mk H;go_wp2_with(((with_reducible refine lS 99 rfl ?_);refine MW 35 rfl Tryz.func99 (cz.calls kj3 (a0.extract (gJ:Int).toNat (lN:Int).toNat) K8 _ A14.out) fun nd=>?_));go_roundg kj3
         case measure=>have:=mh.out;have:=HJ3.out;omega
         case rel=>exact⟨(jD),(wrap64 (lN+1)),(gH),(wrap64 (lN+1)),kD,kD,kD,H,⟨agj⟩,⟨wh⟩,⟨dL⟩⟩
       ·replace H:=gN H;obtain⟨-,PM,-,H⟩:=H;replace H:=gN H;obtain⟨-,KY,-,H⟩:=H;replace H:=gI H;rcases H with⟨c21,-,-,H⟩|⟨c21,-,-,H⟩
        ·obtain⟨Ac,K3⟩:=Cu c21;clear c21;replace H:=ae.mk H;have p20:0<=(lN:Int):=aX gq;have q20:lN<(a0.size:Int):=aX gq;have atF:=dZ a0 lN;replace p20:=eq_true p20;replace q20:=eq_true q20;go_wp2;go_roundg kj3
         case measure=>have:=mh.out;have:=HJ3.out;omega
         case rel=>exact⟨(jD),(gJ),(!gH),(wrap64 (lN+1)),kD,kD,kD,H,⟨agj⟩,⟨wh⟩,⟨dL⟩⟩
        ·obtain⟨Ac,K3⟩:=Di c21;replace H:=gB H;rcases H with⟨rfl,H⟩|⟨rfl,H⟩
         ·replace H:=gI H;rcases H with⟨c24,-,-,H⟩|⟨c24,-,-,H⟩
          ·obtain⟨GZ,Vp⟩:=Cu c24;clear c24;replace H:=gI H;rcases H with⟨-,Ck,-,H⟩|⟨-,Ck,-,H⟩
           ·replace H:=ae.mk H;have p20:0<=(lN:Int):=aX gq;have q20:lN<(a0.size:Int):=aX gq;have atF:=dZ a0 lN;replace p20:=eq_true p20;replace q20:=eq_true q20;have p23:0<=(lN:Int):=aX gq;have q23:lN<(a0.size:Int):=aX gq;have atG:=dZ a0 lN;replace p23:=eq_true p23;replace q23:=eq_true q23;go_wp2;go_roundg kj3
            case measure=>have:=mh.out;have:=HJ3.out;omega
            case rel=>exact⟨(jD),(gJ),(true),(wrap64 ((wrap64 (lN+1))+1)),kD,kD,kD,H,⟨agj⟩,⟨wh⟩,⟨dL⟩⟩
           ·exact aY.e0
          ·obtain⟨GZ,Vp⟩:=Di c24;exact aY.e0
         ·replace H:=ae.mk H;have p20:0<=(lN:Int):=aX gq;have q20:lN<(a0.size:Int):=aX gq;have atF:=dZ a0 lN;replace p20:=eq_true p20;replace q20:=eq_true q20;go_wp2;go_roundg kj3
          case measure=>have:=mh.out;have:=HJ3.out;omega
          case rel=>exact⟨(jD),(gJ),(false),(wrap64 (lN+1)),kD,kD,kD,H,⟨agj⟩,⟨wh⟩,⟨dL⟩⟩
    ·obtain rfl:=gK H;go_wp2;go_ret;exact⟨_,su,wh,dL⟩
@[reducible,instance] def aY.c:=jM.of 0 Tryz.func122 @aY.calls


mutual
def dz.j0 : Nat->ByteArray->Bool->Option (ByteArray×Bool)
 |0,_,_=>none
 |k+1,x0,x27=>if x27=true then(some ((⟨#[]⟩:af),false)) else(if 1<=(wrap64 ((x0.size:Int)-1)) then(if(wrap64 ((x0.size:Int)-1))<=(x0.size:Int) then(dz.l0 k ([]:List Int) (x0.extract 1 ((wrap64 ((x0.size:Int)-1)):Int).toNat) 0) else(none)) else(none))
def dz.l0 : Nat->List Int->ByteArray->Int->Option (ByteArray×Bool)
 |0,_,_,_=>none
 |k+1,x4,x5,x6=>if x6<(x5.size:Int) then(if 0<=x6 then(if(bt x5 x6)=92 then(if(wrap64 (x6+1))=(x5.size:Int) then(some ((⟨#[]⟩:af),false)) else(if 0<=(wrap64 (x6+1)) then(if(wrap64 (x6+1))<(x5.size:Int) then((mf.f (bt x5 (wrap64 (x6+1)))).bind fun ax1=>(if ax1=true then(if x4.length<140737488355328 then(dz.l0 k (x4 ++ [bt x5 (wrap64 (x6+1))]) x5 (wrap64 ((wrap64 (x6+1))+1))) else(none)) else(some ((⟨#[]⟩:af),false)))) else(none)) else(none))) else(if(bt x5 x6)=34 then(some ((⟨#[]⟩:af),false)) else((mf.f (bt x5 x6)).bind fun ax2=>(if ax2=true then(if x4.length<140737488355328 then(dz.l0 k (x4 ++ [bt x5 x6]) x5 (wrap64 (x6+1))) else(none)) else(some ((⟨#[]⟩:af),false)))))) else(none)) else(if(x4.length:Int)>4000 then(some ((⟨#[]⟩:af),false)) else(some (strOfNums x4,true)))
end
def dz.f (k:Nat) (a0:ByteArray):Option (ByteArray×Bool):=if(a0.size:Int)<2 then(dz.j0 k a0 true) else(if(a0.size:Int)>8002 then(dz.j0 k a0 true) else(if 0<(a0.size:Int) then(if(bt a0 0)=34 then(if 0<=(wrap64 ((a0.size:Int)-1)) then(if(wrap64 ((a0.size:Int)-1))<(a0.size:Int) then(dz.j0 k a0 ((bt a0 (wrap64 ((a0.size:Int)-1))) != 34)) else(none)) else(none)) else(dz.j0 k a0 true)) else(none)))
theorem dz.calls (k:Nat) (a0 r1:ByteArray) (r2:Bool) (w:World) (h:dz.f k a0=some (r1,r2)) :
  Calls Tryz.prog 205 #[.string a0] w fun e w'=>e = .returned (.tuple #[.string r1,.bool r2])/\Below w.heap.size w w':=by
 have HB:=ae.mk (Below.refl w.heap.size w);have H:=h;clear h;unfold dz.f at H;have vv:=ae.mk H;clear H;go_enter Tryz.func205,Tryz.ntmps205;go_upto_region 1 with(fail);go_cut [27] (fun v27 wc=>∃(kq:Nat) (VN:Bool),v27 = .bool VN/\ae (dz.j0 kq a0 VN=some (r1,r2))/\ae (kq<=k)/\ae (Below w.heap.size w wc))
 case first=>
  have H:=vv.out;clear vv;replace H:=gI H;rcases H with⟨c3,nS,-,H⟩|⟨c3,nS,-,H⟩
  ·have GI:decide (a0.size<2)=true:=aQ aa;clear c3;(first|rw[nS]|(simp only[jJ,lY];rw[nS])|skip)
   replace H:=ae.mk H;go_wp2;go_meet
   case rel=>exact⟨_,(true),kD,H,⟨Ld⟩,⟨dL⟩⟩
  ·have GI:decide (a0.size<2)=false:=aT aa;clear c3;(first|rw[nS]|(simp only[jJ,lY];rw[nS])|skip)
   replace H:=gI H;rcases H with⟨c4,-,-,H⟩|⟨c4,-,-,H⟩
   ·have yE:decide (8002<(a0.size:Int))=true:=aQ c4;have Kh:decide (8002<a0.size)=true:=aQ aa;clear c4;replace H:=ae.mk H;go_wp2;go_meet
    case rel=>exact⟨_,(true),kD,H,⟨Ld⟩,⟨dL⟩⟩
   ·have yE:decide (8002<(a0.size:Int))=false:=aT c4;have Kh:decide (8002<a0.size)=false:=aT aa;clear c4;replace H:=gN H;obtain⟨c5,xW,-,H⟩:=H;have LW:decide (0<a0.size)=true:=aQ aa;clear c5;replace H:=gI H;rcases H with⟨c7,-,-,H⟩|⟨c7,-,-,H⟩
    ·obtain⟨Am,Zt⟩:=Cu c7;clear c7;obtain⟨ji8,abr⟩:∃ j_:Int,(wrap64 ((a0.size:Int)-1))=j_:=⟨_,rfl⟩;(first|rw[abr] at H|simp only[abr] at H ⊢)
     have awZ:(IntKind.i64.wrap ((a0.size:Int)-1))=ji8:=(jJ _).trans abr;replace H:=gN H;obtain⟨-,LH,-,H⟩:=H;replace H:=gN H;obtain⟨-,Cm,-,H⟩:=H;replace H:=ae.mk H;have p6:0<=(0:Int):=aa;have q6:0<a0.size:=(by have:(0:Int)<(a0.size:Int):=aX gq;omega);have hx6:∀ h:0<a0.size,((a0[0]'h).toNat:Int)=bt a0 0:=dZ a0 0;clear p6;have qi6:(0<(a0.size:Int))=True:=eq_true (aX gq);replace q6:=eq_true q6;have p11:0<=((ji8):Int):=aX gq;have q11:(ji8)<(a0.size:Int):=aX gq;have aw0:=dZ a0 (ji8);replace p11:=eq_true p11;replace q11:=eq_true q11;go_wp2;go_meet
     case rel=>exact⟨_,(((bt a0 (ji8)) != 34)),(by first|rfl|(simp;done)|(simp only[<- abr] <;> (first|rfl|simp))|(simp[*];done)),H,⟨Ld⟩,⟨dL⟩⟩
    ·obtain⟨Am,Zt⟩:=Di c7;replace H:=ae.mk H;have p6:0<=(0:Int):=aa;have q6:0<a0.size:=(by have:(0:Int)<(a0.size:Int):=aX gq;omega);have hx6:∀ h:0<a0.size,((a0[0]'h).toNat:Int)=bt a0 0:=dZ a0 0;clear p6;have qi6:(0<(a0.size:Int))=True:=eq_true (aX gq);replace q6:=eq_true q6;go_wp2;go_meet
     case rel=>exact⟨_,(true),kD,H,⟨Ld⟩,⟨dL⟩⟩
 case rest=>
  clear vv;obtain⟨kq,VN,rfl,HA,Ch,HB⟩:=hcut;cases kq with
  |zero=>exact absurd HA.out (by simp[dz.j0])
  |succ vC=>
   have H:=HA.out;clear HA;simp only[dz.j0] at H;replace H:=gB H;rcases H with⟨rfl,H⟩|⟨rfl,H⟩
   ·simp only[Option.some.injEq,Prod.mk.injEq] at H;obtain⟨rfl,rfl⟩:=H;go_wp2;go_ret2;exact⟨su,dL⟩
   ·replace H:=gI H;rcases H with⟨-,GX,zi,H⟩|⟨c13,-,-,H⟩
    ·replace H:=gN H;obtain⟨-,R5,FV,H⟩:=H;replace H:=ae.mk H;go_wp2;generalize(a0.extract 1 ((wrap64 ((a0.size:Int)-1)):Int).toNat)=sG at H ⊢;go_loopg [4,6] vC (fun kq v4 v6 w'=>∃(lF:List Int) (ib:Int),v6 = .int .i64 ib/\ae (dz.l0 kq lF sG ib=some (r1,r2))/\ae (kq<=vC)/\ae (Kd.R (Kd.int .u8) 5 w' w.heap.size (fun _=>True) v4 lF)/\ae (Below w.heap.size w w'))
     case atStart=>exact⟨(([]:List Int)),(0),kD,H,⟨Nat.le_refl _⟩,⟨Pe⟩,⟨dL⟩⟩
     case round=>
      clear H;try clear c13
      try clear zi
      try clear GX
      try clear FV
      try clear R5
      obtain⟨lF,ib,rfl,HA,Cv,xc,HB⟩:=hrel;cases gk with
      |zero=>exact absurd HA.out (by simp[dz.l0])
      |succ k2=>
       have H:=HA.out;clear HA;simp only[dz.l0] at H;replace H:=gI H;rcases H with⟨-,Cj,-,H⟩|⟨-,Cj,-,H⟩
       ·replace H:=gN H;obtain⟨-,DD,-,H⟩:=H;replace H:=gI H;rcases H with⟨c18,-,-,H⟩|⟨c18,-,-,H⟩
        ·obtain⟨PM,akt⟩:=Cu c18;clear c18;replace H:=gI H;rcases H with⟨c19,-,-,H⟩|⟨c19,-,-,H⟩
         ·obtain⟨KY,Py⟩:=Cu c19;clear c19;simp only[Option.some.injEq,Prod.mk.injEq] at H;obtain⟨rfl,rfl⟩:=H;have Yb:0<=(ib:Int):=aX gq;have Yc:ib<(sG.size:Int):=aX gq;have agF:=dZ sG ib;replace Yb:=eq_true Yb;replace Yc:=eq_true Yc;go_wp2;go_ret2;exact⟨su,dL⟩
         ·obtain⟨KY,Py⟩:=Di c19;obtain⟨Ku,P9⟩:∃ j_:Int,(wrap64 (ib+1))=j_:=⟨_,rfl⟩;(first|rw[P9] at H|simp only[P9] at H ⊢)
          (try rw[P9] at KY)
          (try rw[P9] at Py)
          have aDz:(IntKind.i64.wrap (ib+1))=Ku:=(jJ _).trans P9;replace H:=gN H;obtain⟨-,Ac,-,H⟩:=H;replace H:=gN H;obtain⟨-,RU,-,H⟩:=H;replace H:=WU H;rcases H with⟨A24,H⟩|⟨A24,H⟩
          ·replace H:=gN H;obtain⟨c27,-,-,H⟩:=H;have ajr:=ae.mk c27;clear c27;obtain⟨aqS,VO⟩:∃ y_:List Int,y_=(lF ++ [bt sG (Ku)]):=⟨_,rfl⟩;replace H:(dz.l0 k2 aqS sG (wrap64 ((Ku)+1)))=some (r1,r2):=by first|(rw[VO];with_reducible exact H)|(have mW:=(aj _ _).symm.trans H;rw[VO];with_reducible exact mW)|(have mW:=(aj _ _).symm.trans H;with_reducible exact mW)|with_reducible exact H|(rw[VO];exact H)|exact H
           have atI:=ae.mk VO;clear VO;replace H:=ae.mk H;have Yb:0<=(ib:Int):=aX gq;have Yc:ib<(sG.size:Int):=aX gq;have agF:=dZ sG ib;replace Yb:=eq_true Yb;replace Yc:=eq_true Yc;have p23:0<=((Ku):Int):=aX gq;have q23:(Ku)<(sG.size:Int):=aX gq;have atG:=dZ sG (Ku);replace p23:=eq_true p23;replace q23:=eq_true q23;go_wp2_with(first|((with_reducible refine lS 146 rfl ?_);refine wC (some 56) rfl rfl Tryz.func146 eB rfl #[.int .u8 (bt sG (Ku))] rfl (by(try simp only[List.map_toArray,List.map_cons,List.map_nil]);first|done|(simp only[P9];rfl)|rfl|(simp only[List.length_drop,List.length_take];rfl)) ?_;(with_reducible refine(mf.calls (bt sG (Ku)) true _ A24.out).mono ?_);rintro e w' ⟨rfl,⟨nd,rfl⟩⟩;refine⟨_,rfl,?_⟩;have p26:0<=((Ku):Int):=aX gq;have q26:(Ku)<(sG.size:Int):=aX gq;have aJn:=dZ sG (Ku);replace p26:=eq_true p26;replace q26:=eq_true q26)|((with_reducible refine iF (b:=.append) (xs:=#[.tmp 58,.tmp 62]) rfl ?_);(try(refine mH (by rfl) ?_;dsimp only));at_builtin;refine Kd.mG (Kd.int .u8) (w0:=w) w.heap.size rfl (.tmp 58) (.tmp 62) 100 5 (.int .u8 0) 1 rfl Tryz.underlying100 info5 rfl av aa u4 lF (bt sG (Ku)) [.int .u8 (bt sG (Ku))] (fun _=>True) (fun _=>False) rfl rfl ?aP (fun _ hk=>hk.elim) ?aF ?aO ?aB ?aS ?aL ?_;(case aP=>exact rfl);(case aB=>exact dL);(case aF=>exact(fun _ _=>trivial));(case aO=>exact WR);(case aS=>exact(bq dL));(case aL=>have:=ajr.out;omega);intro aHb w28 ho hb hg hat;rw[<- atI.out] at ho;have qb:=ae.mk (hb);have qU:=ae.mk (ho);clear HB;clear xc;have HB:=qb;have aDA:=qU;clear qb qU;clear ho hb hg hat));go_roundg k2
           case measure=>have:=Ch.out;have:=Cv.out;omega
           case rel=>exact⟨(aqS),(wrap64 ((Ku)+1)),(by first|rfl|(simp;done)|(simp only[<- P9] <;> (first|rfl|simp))|(simp[*];done)),H,⟨aaj⟩,⟨wh⟩,⟨dL⟩⟩
          ·simp only[Option.some.injEq,Prod.mk.injEq] at H;obtain⟨rfl,rfl⟩:=H;have Yb:0<=(ib:Int):=aX gq;have Yc:ib<(sG.size:Int):=aX gq;have agF:=dZ sG ib;replace Yb:=eq_true Yb;replace Yc:=eq_true Yc;have p23:0<=((Ku):Int):=aX gq;have q23:(Ku)<(sG.size:Int):=aX gq;have atG:=dZ sG (Ku);replace p23:=eq_true p23;replace q23:=eq_true q23;go_wp2_with(first|((with_reducible refine lS 146 rfl ?_);refine wC (some 56) rfl rfl Tryz.func146 eB rfl #[.int .u8 (bt sG (Ku))] rfl (by(try simp only[List.map_toArray,List.map_cons,List.map_nil]);first|done|(simp only[P9];rfl)|rfl|(simp only[List.length_drop,List.length_take];rfl)) ?_;(with_reducible refine(mf.calls (bt sG (Ku)) false _ A24.out).mono ?_);rintro e w' ⟨rfl,⟨nd,rfl⟩⟩;refine⟨_,rfl,?_⟩));go_ret2;exact⟨by first|rfl|(simp[iN,iO] <;> rfl)|(simp only[<- P9];first|rfl|(simp[iN,iO] <;> rfl))|(simp[*,iN,iO] <;> rfl),dL⟩
        ·obtain⟨PM,akt⟩:=Di c18;replace H:=gI H;rcases H with⟨Z0,-,-,H⟩|⟨Z0,-,-,H⟩
         ·obtain⟨RY,Vf⟩:=Cu Z0;clear Z0;simp only[Option.some.injEq,Prod.mk.injEq] at H;obtain⟨rfl,rfl⟩:=H;have Yb:0<=(ib:Int):=aX gq;have Yc:ib<(sG.size:Int):=aX gq;have agF:=dZ sG ib;replace Yb:=eq_true Yb;replace Yc:=eq_true Yc;have p29:0<=(ib:Int):=aX gq;have q29:ib<(sG.size:Int):=aX gq;have hx29:=dZ sG ib;replace p29:=eq_true p29;replace q29:=eq_true q29;go_wp2;go_ret2;exact⟨su,dL⟩
         ·obtain⟨RY,Vf⟩:=Di Z0;replace H:=WU H;rcases H with⟨A32,H⟩|⟨A32,H⟩
          ·replace H:=gN H;obtain⟨c35,-,-,H⟩:=H;have aiG:=ae.mk c35;clear c35;obtain⟨aqT,VP⟩:∃ y_:List Int,y_=(lF ++ [bt sG ib]):=⟨_,rfl⟩;replace H:(dz.l0 k2 aqT sG (wrap64 (ib+1)))=some (r1,r2):=by first|(rw[VP];with_reducible exact H)|(have mW:=(aj _ _).symm.trans H;rw[VP];with_reducible exact mW)|(have mW:=(aj _ _).symm.trans H;with_reducible exact mW)|with_reducible exact H|(rw[VP];exact H)|exact H
           have atJ:=ae.mk VP;clear VP;replace H:=ae.mk H;have Yb:0<=(ib:Int):=aX gq;have Yc:ib<(sG.size:Int):=aX gq;have agF:=dZ sG ib;replace Yb:=eq_true Yb;replace Yc:=eq_true Yc;have p29:0<=(ib:Int):=aX gq;have q29:ib<(sG.size:Int):=aX gq;have hx29:=dZ sG ib;replace p29:=eq_true p29;replace q29:=eq_true q29;have p31:0<=(ib:Int):=aX gq;have q31:ib<(sG.size:Int):=aX gq;have hx31:=dZ sG ib;replace p31:=eq_true p31;replace q31:=eq_true q31;go_wp2_with(first|((with_reducible refine lS 146 rfl ?_);refine MW 56 rfl Tryz.func146 (mf.calls (bt sG ib) true _ A32.out) fun nd=>?_;have p34:0<=(ib:Int):=aX gq;have q34:ib<(sG.size:Int):=aX gq;have hx34:=dZ sG ib;replace p34:=eq_true p34;replace q34:=eq_true q34)|((with_reducible refine iF (b:=.append) (xs:=#[.tmp 58,.tmp 62]) rfl ?_);(try(refine mH (by rfl) ?_;dsimp only));at_builtin;refine Kd.mG (Kd.int .u8) (w0:=w) w.heap.size rfl (.tmp 58) (.tmp 62) 100 5 (.int .u8 0) 1 rfl Tryz.underlying100 info5 rfl av aa u4 lF (bt sG ib) [.int .u8 (bt sG ib)] (fun _=>True) (fun _=>False) rfl rfl ?aP (fun _ hk=>hk.elim) ?aF ?aO ?aB ?aS ?aL ?_;(case aP=>exact rfl);(case aB=>exact dL);(case aF=>exact(fun _ _=>trivial));(case aO=>exact WR);(case aS=>exact(bq dL));(case aL=>have:=aiG.out;omega);intro aHc w36 ho hb hg hat;rw[<- atJ.out] at ho;have qb:=ae.mk (hb);have qU:=ae.mk (ho);clear HB;clear xc;have HB:=qb;have aDB:=qU;clear qb qU;clear ho hb hg hat));go_roundg k2
           case measure=>have:=Ch.out;have:=Cv.out;omega
           case rel=>exact⟨(aqT),(wrap64 (ib+1)),kD,H,⟨aaj⟩,⟨wh⟩,⟨dL⟩⟩
          ·simp only[Option.some.injEq,Prod.mk.injEq] at H;obtain⟨rfl,rfl⟩:=H;have Yb:0<=(ib:Int):=aX gq;have Yc:ib<(sG.size:Int):=aX gq;have agF:=dZ sG ib;replace Yb:=eq_true Yb;replace Yc:=eq_true Yc;have p29:0<=(ib:Int):=aX gq;have q29:ib<(sG.size:Int):=aX gq;have hx29:=dZ sG ib;replace p29:=eq_true p29;replace q29:=eq_true q29;have p31:0<=(ib:Int):=aX gq;have q31:ib<(sG.size:Int):=aX gq;have hx31:=dZ sG ib;replace p31:=eq_true p31;replace q31:=eq_true q31;go_wp2_with(first|((with_reducible refine lS 146 rfl ?_);refine MW 56 rfl Tryz.func146 (mf.calls (bt sG ib) false _ A32.out) fun nd=>?_));go_ret2;exact⟨su,dL⟩
       ·replace H:=gI H;rcases H with⟨c37,-,-,H⟩|⟨c37,-,-,H⟩
        ·have aeU:decide (4000<(lF.length:Int))=true:=aQ c37;have aiH:decide (4000<lF.length)=true:=aQ aa;clear c37;simp only[Option.some.injEq,Prod.mk.injEq] at H;obtain⟨rfl,rfl⟩:=H;obtain⟨Km,Kn,aaW⟩:=Kd.dE xc.out;subst aaW;go_wp2;go_ret2;exact⟨su,dL⟩
        ·have aeU:decide (4000<(lF.length:Int))=false:=aT c37;have aiH:decide (4000<lF.length)=false:=aT aa;clear c37;simp only[Option.some.injEq,Prod.mk.injEq] at H;obtain⟨rfl,rfl⟩:=H;obtain⟨Ko,Kq,aaX⟩:=Kd.dE xc.out;subst aaX;have awp:=xH (P:=Tryz.prog) Tryz.underlying100 Tryz.underlying5 Tryz.underlying9 (Kd.Ao xc.out);go_wp2;go_ret2;exact⟨su,dL⟩
    ·exact absurd H (by simp)
@[reducible,instance] def dz.c:=jM.of 0 Tryz.func205 @dz.calls

end Go.Proofs.YtfhllanhldbkkaaGreatDoor.P
