import Derived.Test.YtfhllanhldbkkaaGreatDoorPx0
import Derived.Test.YtfhllanhldbkkaaGreatDoorWC
namespace Go.Proofs.YtfhllanhldbkkaaGreatDoor.P
set_option maxHeartbeats 8000000
set_option maxRecDepth 100000
open Go.RowKit Go.Proofs.YtfhllanhldbkkaaGreatDoorW.ax Go.Proofs.YtfhllanhldbkkaaGreatDoorW.aD Go.Proofs.YtfhllanhldbkkaaGreatDoorW.aH
attribute [local go_sem] nZ oh qI qJ mq mr om oo   -- for this text's walks alone
set_option linter.unusedVariables false
set_option linter.unusedSimpArgs false

def jf.f (a0:Int):Option (Int):=if a0≥65 then(if a0≤90 then(some ((a0+32)%256)) else(some a0)) else(some a0)
theorem jf.calls (a0 r:Int) (w:World) (h:jf.f a0=some r) :
  Calls Tryz.prog 125 #[.int .u8 a0] w fun e w'=>e = .returned (.int .u8 r)∧ed w w':=by
 have H:=h;clear h;unfold jf.f at H;replace H:=gI H;rcases H with⟨c2,-,-,H⟩|⟨c2,-,-,H⟩
 ·have nk:decide (65≤a0)=true:=aT c2;clear c2;replace H:=gI H;rcases H with⟨-,gM,-,H⟩|⟨-,gM,-,H⟩
  ·obtain rfl:=cu H;go_enter Tryz.func125,Tryz.ntmps125;go_wp2;go_ret;exact⟨fI,lG⟩
  ·obtain rfl:=cu H;go_enter Tryz.func125,Tryz.ntmps125;go_wp2;go_ret;exact⟨fI,lG⟩
 ·have nk:decide (65≤a0)=false:=aN c2;clear c2;obtain rfl:=cu H;go_enter Tryz.func125,Tryz.ntmps125;go_wp2;go_ret;exact⟨fI,lG⟩

theorem YO (c:Int) (h0:0≤c) (h1:c≤255):jf.f c=some (low c):=by
 unfold jf.f low
 by_cases h:c≥65
 ·rw[if_pos h]
  by_cases h2:c≤90
  ·rw[if_pos h2,if_pos ⟨by omega,h2⟩];congr 1;omega
  ·rw[if_neg h2,if_neg aa]
 ·rw[if_neg h,if_neg aa]
def lq.f (a0:ByteArray):Option (ByteArray):=if a0.size≤9223372036854775807 then some (iN a0) else none
theorem lq.calls (a0 r:ByteArray) (w:World) (h:lq.f a0=some r) :
  Calls Tryz.prog 83 #[.string a0] w fun e w'=>e = .returned (.string r)∧Below w.heap.size w w':=by
 unfold lq.f at h;by_cases hs:a0.size≤9223372036854775807
 case neg=>rw[if_neg hs] at h;cases h
 rw[if_pos hs] at h;obtain rfl:=cu h;clear h;have kb:=fun W=>PG (P:=Tryz.prog) 9 100 5 Tryz.underlying9 Tryz.underlying100 Tryz.underlying5 a0 W;have Xp:Fx (Lib.bytesWorld w 5 a0) w.heap.size 5 (Ep a0 0):=by rw[Rb];exact Fx.new w 5 a0
 have hbel0:Below w.heap.size w (Lib.bytesWorld w 5 a0):=PH (Below.refl _ _) (Nat.le_refl _) 5 a0;go_enter Tryz.func83,Tryz.ntmps83;go_wp2;clear kb;go_loopw [4] (fun i wr=>∃ k:Nat,k≤a0.size∧i = .int .i64 k∧Fx wr w.heap.size 5 (Ep a0 k)∧Below w.heap.size w wr) (fun i _=>a0.size-(intOf i).toNat)
 case atStart=>exact⟨0,Nat.zero_le _,rfl,Xp,hbel0⟩
 case round=>
  obtain⟨k,hk,rfl,hrow,hbel⟩:=hrel;clear Xp hbel0;by_cases hlt:k<a0.size
  ·have hcell:=hrow.cell k (by rw[tK];exact hlt);rw[Rc a0 k hlt] at hcell;have hfree:=hrow.free k (by rw[tK];exact hlt);have hr:=dx a0 (k:Int);have hl:=YO (bt a0 k) hr.1 hr.2;have Hrow:=ae.mk hrow;have Hbel:=ae.mk hbel;clear hrow hbel;go_wp2_with(go_at_call 125;refine(jf.calls _ _ _ hl).mono ?_;rintro e w' ⟨rfl,⟨nd,rfl⟩⟩);exact⟨⟨k+1,by omega,by go_num,by rw[← Mx a0 k hlt];exact(Hrow.out.drewN nd).set k (by rw[tK];exact hlt) _,(FM Hbel.out nd).setCell (Nat.le_refl _) _⟩,by simp[intOf];omega⟩
  ·obtain rfl:k=a0.size:=by omega
   have kc:=fun c=>Fx.str (P:=Tryz.prog) (src:=100) (dst:=9) hrow Tryz.underlying100 Tryz.underlying5 Tryz.underlying9 a0.size c (tK a0 _);rw[Uv] at kc;have Hbel:=ae.mk hbel;clear hrow hbel;go_wp2;go_ret;exact⟨rfl,Hbel.out⟩

def bS.f (a0:Int):Option (Bool):=if a0≥48 then(some (decide (a0≤57))) else(some false)
theorem bS.calls (a0:Int) (r:Bool) (w:World) (h:bS.f a0=some r) :
  Calls Tryz.prog 77 #[.int .u8 a0] w fun e w'=>e = .returned (.bool r)∧ed w w':=by
 have H:=h;clear h;unfold bS.f at H;replace H:=gI H;rcases H with⟨c2,-,-,H⟩|⟨c2,-,-,H⟩
 ·have nk:decide (48≤a0)=true:=aT c2;clear c2;obtain rfl:=cu H;go_enter Tryz.func77,Tryz.ntmps77;go_wp2;go_ret;exact⟨fI,lG⟩
 ·have nk:decide (48≤a0)=false:=aN c2;clear c2;obtain rfl:=cu H;go_enter Tryz.func77,Tryz.ntmps77;go_wp2;go_ret;exact⟨fI,lG⟩


mutual
def bU.j0 : Nat→Int→Bool→Option (ByteArray)
 |0,_,_=>none
 |k+1,x0,x8=>if x8=true then(some (⟨#[]⟩:af)) else(if x0<10 then(some (strOfNums (([(wrap64 (48+x0))%256]:List Int)))) else((bU.f k (wrap64 (Int.tdiv x0 10))).bind fun t197=>((some (([(wrap64 (48+(Int.tmod x0 10)))%256]:List Int):List Int)).bind fun Wi=>(if t197.size+(strOfNums Wi).size≤9223372036854775807 then(some (t197++(strOfNums Wi))) else(none)))))
def bU.f : Nat→Int→Option (ByteArray)
 |0,_=>none
 |k+1,a0=>if a0<0 then(bU.j0 k a0 true) else(bU.j0 k a0 (decide (a0>999999999999999)))
end
def bU.T5 : Bool×List (List Nat×List Nat):=(true,[([],[]),([0],[0]),([1],[1]),([],[]),([3],[3]),([4],[4]),([5],[5]),([6],[6]),([7],[7]),([2,8],[2,8]),([9,2,0,1,2,3,4,5,6,7,8,9],[9])])
def bU.B5 : List Nat:=[0,1,3,0,8,24,56,120,248,511,1023]
theorem bU.amr : rP .any (opsOf Tryz.f102 5)=bU.T5:=by kernel_rfl
theorem bU.afZ : kD bU.T5.2 bU.B5=true:=by kernel_rfl
theorem bU.calls (k:Nat):∀(a0:Int) (r:ByteArray) (w:World) (h:bU.f k a0=some r),
  Calls Tryz.prog 102 #[.int .i64 a0] w fun e w'=>e = .returned (.string r)∧Below w.heap.size w w':=by
 induction k using Nat.strongRecOn with
 |_ k ih=>
 intro a0 r w h;cases k with
 |zero=>exact absurd h (by simp[bU.f])
 |succ k=>
 simp only[bU.f] at h;have HB:=ae.mk (Below.refl w.heap.size w);have H:(if a0<0 then(bU.j0 k a0 true) else(bU.j0 k a0 (decide (a0>999999999999999))))=some r:=h;clear h;have xZ:=ae.mk H;clear H;go_enter Tryz.func102,Tryz.ntmps102;go_upto_region 1 with(fail);go_cut [8] (fun v8 wc=>∃(kq:Nat) (Od:Bool),v8 = .bool Od∧ae (bU.j0 kq a0 Od=some r)∧ae (kq≤k)∧ae (Below w.heap.size w wc))
 case first=>
  have H:=xZ.out;clear xZ;replace H:=gI H;rcases H with⟨-,gM,-,H⟩|⟨-,gM,-,H⟩
  ·(first|rw[gM]|(simp only[iE,jF];rw[gM])|skip)
   have H':=ae.mk H;clear H;go_wp2;go_meet
   case rel=>exact⟨_,(true),fI,H',⟨EC⟩,⟨dN⟩⟩
  ·(first|rw[gM]|(simp only[iE,jF];rw[gM])|skip)
   have H':=ae.mk H;clear H;go_wp2;go_meet
   case rel=>exact⟨_,(decide (a0>999999999999999)),fI,H',⟨EC⟩,⟨dN⟩⟩
 case rest=>
  clear xZ;obtain⟨kq,Od,rfl,HA,Bu,HB⟩:=hcut;cases kq with
  |zero=>exact absurd HA.out (by simp[bU.j0])
  |succ uY=>
   have H:=HA.out;clear HA;simp only[bU.j0] at H;replace H:=gB H;rcases H with⟨rfl,H⟩|⟨rfl,H⟩
   ·obtain rfl:=cu H;go_wp2;go_ret;exact⟨nG,dN⟩
   ·replace H:=gI H;rcases H with⟨-,qh,-,H⟩|⟨-,qh,-,H⟩
    ·obtain⟨auo,YP⟩:∃ y_:List Int,y_=(([(wrap64 (48+a0))%256]:List Int)):=⟨_,rfl⟩;replace H:(some (strOfNums auo))=some r:=by first|(rw[YP];with_reducible exact H)|(have rq:=(aj _ _).symm.trans H;rw[YP];with_reducible exact rq)|(have rq:=(aj _ _).symm.trans H;with_reducible exact rq)|with_reducible exact H|(rw[YP];exact H)|exact H
     have ajX:=ae.mk YP;clear YP;obtain rfl:=cu H;go_wp2_with(first|((with_reducible refine aY (N:=14) rfl ?_);refine Kd.Wz (Kd.int .u8) _ 5 ?hg (N:=14) ?hd (xs:=([(wrap64 (48+a0))%256]:List Int)) (inner:=[.int .u8 ((wrap64 (48+a0))%256)]) (ok:=fun _=>True) (okp:=fun _=>True) ?hr ?hp (fun _ hk=>hk) trivial (Below.refl _ _) (Nat.le_refl _) (by simp) ?_;(case hd=>rfl);(case hg=>rfl);(case hr=>first|(go_simp;done)|(go_simp;rfl));(case hp=>exact(jK.one (show Kd.M (Kd.int .u8) _ _ _ ((wrap64 (48+a0))%256) [.int .u8 ((wrap64 (48+a0))%256)] from rfl) (jK.none _ _)));intro azn w6 ho7 hb hg_ hnew_;clear hg_ hnew_;(first|rw[← ajX.out] at ho7|(simp only[Int.reduceToNat] at ho7;rw[← ajX.out] at ho7));have arj:=ae.mk (Kd.iT ho7 (bY dN));replace HB:=dS hb;clear hb ho7;have azo:=EA (P:=Tryz.prog) Tryz.underlying100 Tryz.underlying5 Tryz.underlying9 (Kd.II arj.out)));go_ret;exact⟨nG,dN⟩
    ·replace H:=gD H;obtain⟨t197,A9,H⟩:=H;obtain⟨Wi,YQ⟩:∃ y_:List Int,y_=(([(wrap64 (48+(Int.tmod a0 10)))%256]:List Int)):=⟨_,rfl⟩;replace H:(if t197.size+(strOfNums Wi).size≤9223372036854775807 then(some (t197++(strOfNums Wi))) else(none))=some r:=by first|(rw[YQ];with_reducible exact H)|(have rq:=(aj _ _).symm.trans H;rw[YQ];with_reducible exact rq)|(have rq:=(aj _ _).symm.trans H;with_reducible exact rq)|with_reducible exact H|(rw[YQ];exact H)|exact H
     have ab1:=ae.mk YQ;clear YQ;replace H:=gI H;rcases H with⟨c10,L6,yS,H⟩|⟨c10,-,-,H⟩
     ·try have ajY:(9223372036854775807<t197.size+(strOfNums Wi).size)=False:=eq_false (Nat.not_lt.2 c10)
      obtain rfl:=cu H;try go_wp2
      replace HB:=ae.mk (di HB.out);refine F6 (n:=11) (S:=fun w'=>True) (ds:=[]) #[false,false,false,false,false,false,false,false,false,false,false] aK rfl rfl trivial (fun hHeld=>?_);refine fu bU.amr bU.afZ (fun HT_ HW_=>?_);generalize wc.drew=w11 at HB hHeld ⊢;refine dn 0 (some 16) ?_;refine dn 1 (some 17) ?_;refine dn 3 (some 19) ?_;refine dn 4 (some 20) ?_;refine dn 5 (some 21) ?_;refine dn 6 (some 22) ?_;refine anw (σ:=Value) 2 #[true,true,true,true,true,true,true,true,true,false,false] (fun s_=>[(18,.string t197),(23,s_),(24,.string (strOfNums Wi))]) (fun s_ w'=>(Kd.R (Kd.int .u8) 5 w' w.heap.size (fun _=>True) s_ Wi)∧(Below w.heap.size w w')) ?_ ?_;rotate_left
      ·intro hCont;refine anv (i:=2) (j:=7) (Ni:=some 18) (Nj:=some 23) #[true,true,true,true,true,true,true,false,false,false,false] #[true,true,false,true,true,true,true,true,false,false,false] rfl rfl rfl rfl (adj HT_.out aK) ak ak (fun K hK=>?_) (fun K hK=>?_)
       ·skip
        refine dV Tryz.func102 aK rfl #[.int .i64 (wrap64 (Int.tdiv a0 10))] (by rfl) rfl rfl eu ?_;(with_reducible refine(ih uY (by have:=Bu.out;omega) (wrap64 (Int.tdiv a0 10)) t197 _ A9.out).mono ?_);rintro e w12 ⟨rfl,hb⟩;refine⟨_,rfl,?_⟩;replace HB:=dS hb;(try clear hb)
        refine hK.out _ _ trivial (fun hHeld=>?_);clear hK K;refine Cx (some 18) ?_;refine IL (i:=7) (N:=some 23) #[true,true,true,true,true,true,true,true,false,false,false] rfl rfl (Cw HT_.out aK) ak (fun K hK=>?_);refine Kd.Js (Kd.int .u8) _ 5 ?hg (N:=23) ?hd (xs:=([(wrap64 (48+(Int.tmod a0 10)))%256]:List Int)) (inner:=[.int .u8 ((wrap64 (48+(Int.tmod a0 10)))%256)]) (ok:=fun _=>True) (okp:=fun _=>True) ?hr ?hp (fun _ hk=>hk) trivial (Below.refl _ _) (Nat.le_refl _) (by simp) ?_;(case hd=>rfl);(case hg=>rfl);(case hr=>first|(go_simp;done)|(go_simp;rfl));(case hp=>exact(jK.one (show Kd.M (Kd.int .u8) _ _ _ ((wrap64 (48+(Int.tmod a0 10)))%256) [.int .u8 ((wrap64 (48+(Int.tmod a0 10)))%256)] from rfl) (jK.none _ _)));intro acN w13 af9 hb hg_ hnew_;clear hg_ hnew_;(first|rw[← ab1.out] at af9|(simp only[Int.reduceToNat] at af9;rw[← ab1.out] at af9))
        have PM:=ae.mk (Kd.iT af9 (bY dN));replace HB:=dS hb;clear hb af9;refine hK.out _ _ trivial (fun hHeld=>?_);clear hK K;refine Cx (some 23) ?_;refine IL (i:=8) (N:=some 24) #[true,true,true,true,true,true,true,true,true,false,false] rfl rfl (Cw HT_.out aK) ak (fun K hK=>?_);have aga:=EA (P:=Tryz.prog) Tryz.underlying100 Tryz.underlying5 Tryz.underlying9 (Kd.II PM.out);refine Zy (w1:=?_) (v:=?_) (by rfl) rfl ?_ ?_;rotate_left 2
        ·go_simp
         constructor
         ·rfl
         ·rfl
        clear aga;refine hK.out _ _ trivial (fun hHeld=>?_);clear hK K;refine Cx (some 24) ?_;exact Uy akL (hCont (acN) _ ⟨adw,dN⟩)
       ·skip
        refine Kd.Js (Kd.int .u8) _ 5 ?hg (N:=23) ?hd (xs:=([(wrap64 (48+(Int.tmod a0 10)))%256]:List Int)) (inner:=[.int .u8 ((wrap64 (48+(Int.tmod a0 10)))%256)]) (ok:=fun _=>True) (okp:=fun _=>True) ?hr ?hp (fun _ hk=>hk) trivial (Below.refl _ _) (Nat.le_refl _) (by simp) ?_;(case hd=>rfl);(case hg=>rfl);(case hr=>first|(go_simp;done)|(go_simp;rfl));(case hp=>exact(jK.one (show Kd.M (Kd.int .u8) _ _ _ ((wrap64 (48+(Int.tmod a0 10)))%256) [.int .u8 ((wrap64 (48+(Int.tmod a0 10)))%256)] from rfl) (jK.none _ _)));intro acN w12 agb hb hg_ hnew_;clear hg_ hnew_;(first|rw[← ab1.out] at agb|(simp only[Int.reduceToNat] at agb;rw[← ab1.out] at agb))
        have PM:=ae.mk (Kd.iT agb (bY dN));replace HB:=dS hb;clear hb agb;refine hK.out _ _ trivial (fun hHeld=>?_);clear hK K;refine Cx (some 23) ?_;refine anv (i:=2) (j:=8) (Ni:=some 18) (Nj:=some 24) #[true,true,true,true,true,true,true,true,false,false,false] #[true,true,false,true,true,true,true,true,true,false,false] rfl rfl rfl rfl (adj HT_.out aK) ak ak (fun K hK=>?_) (fun K hK=>?_)
        ·skip
         refine dV Tryz.func102 aK rfl #[.int .i64 (wrap64 (Int.tdiv a0 10))] (by rfl) rfl rfl eu ?_;(with_reducible refine(ih uY (by have:=Bu.out;omega) (wrap64 (Int.tdiv a0 10)) t197 _ A9.out).mono ?_);rintro e w14 ⟨rfl,hb⟩;refine⟨_,rfl,?_⟩;replace PM:=ae.mk (Kd.dF adw hb);replace HB:=dS hb;(try clear hb)
         (try clear hk)
         refine hK.out _ _ trivial (fun hHeld=>?_);clear hK K;refine Cx (some 18) ?_;refine IL (i:=8) (N:=some 24) #[true,true,true,true,true,true,true,true,true,false,false] rfl rfl (Cw HT_.out aK) ak (fun K hK=>?_);have aga:=EA (P:=Tryz.prog) Tryz.underlying100 Tryz.underlying5 Tryz.underlying9 (Kd.II PM.out);refine Zy (w1:=?_) (v:=?_) (by rfl) rfl ?_ ?_;rotate_left 2
         ·go_simp
          constructor
          ·rfl
          ·rfl
         clear aga;refine hK.out _ _ trivial (fun hHeld=>?_);clear hK K;refine Cx (some 24) ?_;exact Uy akL (hCont (acN) _ ⟨adw,dN⟩)
        ·skip
         have ark:=EA (P:=Tryz.prog) Tryz.underlying100 Tryz.underlying5 Tryz.underlying9 (Kd.II PM.out);refine Zy (w1:=?_) (v:=?_) (by rfl) rfl ?_ ?_;rotate_left 2
         ·go_simp
          constructor
          ·rfl
          ·rfl
         clear ark;refine hK.out _ _ trivial (fun hHeld=>?_);clear hK K;refine Cx (some 24) ?_;refine IL (i:=2) (N:=some 18) #[true,true,true,true,true,true,true,true,true,false,false] rfl rfl (Cw HT_.out aK) ak (fun K hK=>?_);refine dV Tryz.func102 aK rfl #[.int .i64 (wrap64 (Int.tdiv a0 10))] (by rfl) rfl rfl eu ?_;(with_reducible refine(ih uY (by have:=Bu.out;omega) (wrap64 (Int.tdiv a0 10)) t197 _ A9.out).mono ?_);rintro e w15 ⟨rfl,hb⟩;refine⟨_,rfl,?_⟩;replace PM:=ae.mk (Kd.dF adw hb);replace HB:=dS hb;(try clear hb)
         (try clear hk)
         refine hK.out _ _ trivial (fun hHeld=>?_);clear hK K;refine Cx (some 18) ?_;exact Uy akL (hCont (acN) _ ⟨adw,dN⟩)
      rintro acN w16 ⟨h0_,h1_⟩;have o7:ae (Kd.R (Kd.int .u8) 5 w16 w.heap.size (fun _=>True) acN Wi):=⟨h0_⟩;have qG:ae (Below w.heap.size w w16):=⟨h1_⟩;clear HB;clear h0_ h1_;have PM:=o7;have HB:=qG;clear o7 qG;have hHeld:=trivial;refine Uy (a':=?_) ?_ ?_;rotate_left
      ·simp only[Rp,Act.put,List.setIfInBounds_toArray,List.set_cons_zero,List.set_cons_succ];rfl
      refine dn 9 (some 25) ?_;refine dn 10 (some 2) ?_;refine mW (iR HT_.out aK) ?_;try go_wp2
      go_ret;exact⟨nG,dN⟩
     ·exact absurd H (by simp)


mutual
def dK.j0 : Nat→ByteArray→Bool→Option (Int×Bool)
 |0,_,_=>none
 |k+1,x0,x13=>if x13=true then(some (0,false)) else(dK.l0 k x0 0 0)
def dK.l0 : Nat→ByteArray→Int→Int→Option (Int×Bool)
 |0,_,_,_=>none
 |k+1,x0,x4,x5=>if x5<(x0.size:Int) then(if 0≤x5 then((bS.f (bt x0 x5)).bind fun t201=>(if t201=true then(dK.l0 k x0 (wrap64 ((wrap64 (x4*10))+(((bt x0 x5)-48)%256))) (wrap64 (x5+1))) else(some (0,false)))) else(none)) else((bU.f k x4).bind fun t202=>(if t202.toList=x0.toList then(some (x4,true)) else(some (0,false))))
end
def dK.f (k:Nat) (a0:ByteArray):Option (Int×Bool):=if(a0.size:Int)=0 then(dK.j0 k a0 true) else(dK.j0 k a0 (decide ((a0.size:Int)>15)))
theorem dK.e0 {p:Prop} (h:p:=by
  go_wp2_with(first|((with_reducible refine ag (f:=102) rfl ?_);refine aG (some 34) rfl rfl Tryz.func102 aK rfl #[.int .i64 kv] rfl eu ?_;(with_reducible refine(bU.calls k2 kv t202 _ UG.out).mono ?_);rintro e jm ⟨rfl,hb⟩;refine⟨_,rfl,?_⟩;replace HB:=dS hb;(try clear hb);(try clear hb2);(try clear hk);(try clear hi))|((with_reducible refine ag (f:=77) rfl ?_);refine aG (some 23) rfl rfl Tryz.func77 aK rfl #[.int .u8 (bt a0 kV)] rfl eu ?_;(with_reducible refine(bS.calls (bt a0 kV) false _ A8.out).mono ?_);rintro e w' ⟨rfl,⟨nd,rfl⟩⟩;refine⟨_,rfl,?_⟩))
  go_ret2
  exact⟨nG,dN⟩):p:=h
theorem dK.calls (k:Nat) (a0:ByteArray) (r1:Int) (r2:Bool) (w:World) (h:dK.f k a0=some (r1,r2)) :
  Calls Tryz.prog 141 #[.string a0] w fun e w'=>e = .returned (.tuple #[.int .i64 r1,.bool r2])∧Below w.heap.size w w':=by
 have HB:=ae.mk (Below.refl w.heap.size w);have H:=h;clear h;unfold dK.f at H;have xZ:=ae.mk H;clear H;go_enter Tryz.func141,Tryz.ntmps141;go_upto_region 1 with(fail);go_cut [13] (fun v13 wc=>∃(kq:Nat) (wC:Bool),v13 = .bool wC∧ae (dK.j0 kq a0 wC=some (r1,r2))∧ae (kq≤k)∧ae (Below w.heap.size w wc))
 case first=>
  have H:=xZ.out;clear xZ;replace H:=gI H;rcases H with⟨c3,-,-,H⟩|⟨c3,-,-,H⟩
  ·obtain⟨gM,uX⟩:=rD c3;clear c3;(first|rw[gM]|(simp only[iE,jF];rw[gM])|skip)
   have H':=ae.mk H;clear H;go_wp2;go_meet
   case rel=>exact⟨_,(true),fI,H',⟨EC⟩,⟨dN⟩⟩
  ·obtain⟨gM,uX⟩:=rO c3;(first|rw[gM]|(simp only[iE,jF];rw[gM])|skip)
   have H':=ae.mk H;clear H;go_wp2;go_meet
   case rel=>exact⟨_,(decide ((a0.size:Int)>15)),fI,H',⟨EC⟩,⟨dN⟩⟩
 case rest=>
  clear xZ;obtain⟨kq,wC,rfl,HA,Bu,HB⟩:=hcut;cases kq with
  |zero=>exact absurd HA.out (by simp[dK.j0])
  |succ uY=>
   have H:=HA.out;clear HA;simp only[dK.j0] at H;replace H:=gB H;rcases H with⟨rfl,H⟩|⟨rfl,H⟩
   ·simp only[Option.some.injEq,Prod.mk.injEq] at H;obtain⟨rfl,rfl⟩:=H;go_wp2;go_ret2;exact⟨nG,dN⟩
   ·have H':=ae.mk H;clear H;go_wp2;go_loopg [4,5] uY (fun kq v4 v5 w'=>∃(kv:Int) (kV:Int),v4 = .int .i64 kv∧v5 = .int .i64 kV∧ae (dK.l0 kq a0 kv kV=some (r1,r2))∧ae (kq≤uY)∧ae (Below w.heap.size w w'))
    case atStart=>exact⟨(0),(0),fI,fI,H',⟨Nat.le_refl _⟩,⟨dN⟩⟩
    case round=>
     clear H';obtain⟨kv,kV,rfl,rfl,HA,Eo,HB⟩:=hrel;cases gk with
     |zero=>exact absurd HA.out (by simp[dK.l0])
     |succ k2=>
      have H:=HA.out;clear HA;simp only[dK.l0] at H;replace H:=gI H;rcases H with⟨-,qh,-,H⟩|⟨-,qh,-,H⟩
      ·replace H:=gN H;obtain⟨-,nW,-,H⟩:=H;replace H:=gD H;obtain⟨t201,A8,H⟩:=H;replace H:=gB H;rcases H with⟨rfl,H⟩|⟨rfl,H⟩
       ·have H':=ae.mk H;clear H;have p7:0≤(kV:Int):=bE gL;have q7:kV<(a0.size:Int):=bE gL;have hx7:=gV a0 kV;replace p7:=eq_true p7;replace q7:=eq_true q7;go_wp2_with(((with_reducible refine ag (f:=77) rfl ?_);refine aG (some 23) rfl rfl Tryz.func77 aK rfl #[.int .u8 (bt a0 kV)] rfl eu ?_;(with_reducible refine(bS.calls (bt a0 kV) true _ A8.out).mono ?_);rintro e w' ⟨rfl,⟨nd,rfl⟩⟩;refine⟨_,rfl,?_⟩;have p10:0≤(kV:Int):=bE gL;have q10:kV<(a0.size:Int):=bE gL;have aup:=gV a0 kV;replace p10:=eq_true p10;replace q10:=eq_true q10));go_roundg k2
        case measure=>have:=Bu.out;have:=Eo.out;omega
        case rel=>exact⟨(wrap64 ((wrap64 (kv*10))+(((bt a0 kV)-48)%256))),(wrap64 (kV+1)),fI,fI,H',⟨QE⟩,⟨dN⟩⟩
       ·simp only[Option.some.injEq,Prod.mk.injEq] at H;obtain⟨rfl,rfl⟩:=H;have p7:0≤(kV:Int):=bE gL;have q7:kV<(a0.size:Int):=bE gL;have hx7:=gV a0 kV;replace p7:=eq_true p7;replace q7:=eq_true q7;exact dK.e0
      ·replace H:=gD H;obtain⟨t202,UG,H⟩:=H;replace H:=gI H;rcases H with⟨c12,-,-,H⟩|⟨c12,-,-,H⟩
       ·obtain⟨wO,KZ⟩:=rD c12;clear c12;simp only[Option.some.injEq,Prod.mk.injEq] at H;obtain⟨rfl,rfl⟩:=H;exact dK.e0
       ·obtain⟨wO,KZ⟩:=rO c12;simp only[Option.some.injEq,Prod.mk.injEq] at H;obtain⟨rfl,rfl⟩:=H;exact dK.e0


mutual
def dG.j0 : Nat→ByteArray→Bool→Option (Int×Bool)
 |0,_,_=>none
 |k+1,x0,x14=>if x14=true then(some (0,false)) else(dG.l0 k x0 0 0)
def dG.l0 : Nat→ByteArray→Int→Int→Option (Int×Bool)
 |0,_,_,_=>none
 |k+1,x0,x4,x5=>if x5<(x0.size:Int) then(if 0≤x5 then((jf.f (bt x0 x5)).bind fun t218=>((bS.f t218).bind fun t219=>(if t219=true then(dG.l0 k x0 (wrap64 ((wrap64 (x4*16))+((t218-48)%256))) (wrap64 (x5+1))) else(if t218≥97 then(if t218≤102 then(dG.l0 k x0 (wrap64 ((wrap64 ((wrap64 (x4*16))+((t218-97)%256)))+10)) (wrap64 (x5+1))) else(some (0,false))) else(some (0,false)))))) else(none)) else(some (x4,true))
end
def dG.f (k:Nat) (a0:ByteArray):Option (Int×Bool):=if(a0.size:Int)=0 then(dG.j0 k a0 true) else(dG.j0 k a0 (decide ((a0.size:Int)>7)))
theorem dG.e0 {p:Prop} (h:p:=by
  go_wp2_with(first|((with_reducible refine ag (f:=125) rfl ?_);refine aG (some 24) rfl rfl Tryz.func125 aK rfl #[.int .u8 (bt a0 kV)] rfl eu ?_;(with_reducible refine(jf.calls (bt a0 kV) t218 _ A8.out).mono ?_);rintro e w' ⟨rfl,⟨nd,rfl⟩⟩;refine⟨_,rfl,?_⟩)|((with_reducible refine ag (f:=77) rfl ?_);refine aG (some 27) rfl rfl Tryz.func77 aK rfl #[.int .u8 t218] rfl eu ?_;(with_reducible refine(bS.calls t218 false _ A9.out).mono ?_);rintro e w' ⟨rfl,⟨nd,rfl⟩⟩;refine⟨_,rfl,?_⟩))
  go_ret2
  exact⟨fI,lG⟩):p:=h
theorem dG.calls (k:Nat) (a0:ByteArray) (r1:Int) (r2:Bool) (w:World) (h:dG.f k a0=some (r1,r2)) :
  Calls Tryz.prog 211 #[.string a0] w fun e w'=>e = .returned (.tuple #[.int .i64 r1,.bool r2])∧ed w w':=by
 have H:=h;clear h;unfold dG.f at H;have xZ:=ae.mk H;clear H;go_enter Tryz.func211,Tryz.ntmps211;go_upto_region 1 with(fail);go_cut [14] (fun v14 wc=>∃(kq:Nat) (Tm:Bool),v14 = .bool Tm∧ae (dG.j0 kq a0 Tm=some (r1,r2))∧ae (kq≤k)∧ed w wc)
 case first=>
  have H:=xZ.out;clear xZ;replace H:=gI H;rcases H with⟨c3,-,-,H⟩|⟨c3,-,-,H⟩
  ·obtain⟨gM,uX⟩:=rD c3;clear c3;(first|rw[gM]|(simp only[iE,jF];rw[gM])|skip)
   have H':=ae.mk H;clear H;go_wp2;go_meet
   case rel=>exact⟨_,(true),fI,H',⟨EC⟩,lG⟩
  ·obtain⟨gM,uX⟩:=rO c3;(first|rw[gM]|(simp only[iE,jF];rw[gM])|skip)
   have H':=ae.mk H;clear H;go_wp2;go_meet
   case rel=>exact⟨_,(decide ((a0.size:Int)>7)),fI,H',⟨EC⟩,lG⟩
 case rest=>
  clear xZ;obtain⟨kq,Tm,rfl,HA,Bu,⟨mc1,rfl⟩⟩:=hcut;cases kq with
  |zero=>exact absurd HA.out (by simp[dG.j0])
  |succ uY=>
   have H:=HA.out;clear HA;simp only[dG.j0] at H;replace H:=gB H;rcases H with⟨rfl,H⟩|⟨rfl,H⟩
   ·simp only[Option.some.injEq,Prod.mk.injEq] at H;obtain⟨rfl,rfl⟩:=H;go_wp2;go_ret2;exact⟨fI,lG⟩
   ·have H':=ae.mk H;clear H;go_wp2;go_loopg [4,5] uY (fun kq v4 v5 w'=>∃(kv:Int) (kV:Int),v4 = .int .i64 kv∧v5 = .int .i64 kV∧ae (dG.l0 kq a0 kv kV=some (r1,r2))∧ae (kq≤uY)∧ed w w')
    case atStart=>exact⟨(0),(0),fI,fI,H',⟨Nat.le_refl _⟩,lG⟩
    case round=>
     clear H';obtain⟨kv,kV,rfl,rfl,HA,Eo,⟨m2,rfl⟩⟩:=hrel;cases gk with
     |zero=>exact absurd HA.out (by simp[dG.l0])
     |succ k2=>
      have H:=HA.out;clear HA;simp only[dG.l0] at H;replace H:=gI H;rcases H with⟨-,qh,-,H⟩|⟨-,qh,-,H⟩
      ·replace H:=gN H;obtain⟨-,nW,-,H⟩:=H;replace H:=gD H;obtain⟨t218,A8,H⟩:=H;replace H:=gD H;obtain⟨t219,A9,H⟩:=H;replace H:=gB H;rcases H with⟨rfl,H⟩|⟨rfl,H⟩
       ·have H':=ae.mk H;clear H;have p7:0≤(kV:Int):=bE gL;have q7:kV<(a0.size:Int):=bE gL;have hx7:=gV a0 kV;replace p7:=eq_true p7;replace q7:=eq_true q7;go_wp2_with(first|((with_reducible refine ag (f:=125) rfl ?_);refine aG (some 24) rfl rfl Tryz.func125 aK rfl #[.int .u8 (bt a0 kV)] rfl eu ?_;(with_reducible refine(jf.calls (bt a0 kV) t218 _ A8.out).mono ?_);rintro e w' ⟨rfl,⟨nd,rfl⟩⟩;refine⟨_,rfl,?_⟩)|((with_reducible refine ag (f:=77) rfl ?_);refine aG (some 27) rfl rfl Tryz.func77 aK rfl #[.int .u8 t218] rfl eu ?_;(with_reducible refine(bS.calls t218 true _ A9.out).mono ?_);rintro e w' ⟨rfl,⟨nd,rfl⟩⟩;refine⟨_,rfl,?_⟩));go_roundg k2
        case measure=>have:=Bu.out;have:=Eo.out;omega
        case rel=>exact⟨(wrap64 ((wrap64 (kv*16))+((t218-48)%256))),(wrap64 (kV+1)),fI,fI,H',⟨QE⟩,lG⟩
       ·replace H:=gI H;rcases H with⟨c11,-,-,H⟩|⟨c11,-,-,H⟩
        ·have xA:decide (97≤t218)=true:=aT c11;clear c11;replace H:=gI H;rcases H with⟨-,wO,-,H⟩|⟨-,wO,-,H⟩
         ·have H':=ae.mk H;clear H;have p7:0≤(kV:Int):=bE gL;have q7:kV<(a0.size:Int):=bE gL;have hx7:=gV a0 kV;replace p7:=eq_true p7;replace q7:=eq_true q7;go_wp2_with(first|((with_reducible refine ag (f:=125) rfl ?_);refine aG (some 24) rfl rfl Tryz.func125 aK rfl #[.int .u8 (bt a0 kV)] rfl eu ?_;(with_reducible refine(jf.calls (bt a0 kV) t218 _ A8.out).mono ?_);rintro e w' ⟨rfl,⟨nd,rfl⟩⟩;refine⟨_,rfl,?_⟩)|((with_reducible refine ag (f:=77) rfl ?_);refine aG (some 27) rfl rfl Tryz.func77 aK rfl #[.int .u8 t218] rfl eu ?_;(with_reducible refine(bS.calls t218 false _ A9.out).mono ?_);rintro e w' ⟨rfl,⟨nd,rfl⟩⟩;refine⟨_,rfl,?_⟩));go_roundg k2
          case measure=>have:=Bu.out;have:=Eo.out;omega
          case rel=>exact⟨(wrap64 ((wrap64 ((wrap64 (kv*16))+((t218-97)%256)))+10)),(wrap64 (kV+1)),fI,fI,H',⟨QE⟩,lG⟩
         ·simp only[Option.some.injEq,Prod.mk.injEq] at H;obtain⟨rfl,rfl⟩:=H;have p7:0≤(kV:Int):=bE gL;have q7:kV<(a0.size:Int):=bE gL;have hx7:=gV a0 kV;replace p7:=eq_true p7;replace q7:=eq_true q7;exact dG.e0
        ·have xA:decide (97≤t218)=false:=aN c11;clear c11;simp only[Option.some.injEq,Prod.mk.injEq] at H;obtain⟨rfl,rfl⟩:=H;have p7:0≤(kV:Int):=bE gL;have q7:kV<(a0.size:Int):=bE gL;have hx7:=gV a0 kV;replace p7:=eq_true p7;replace q7:=eq_true q7;exact dG.e0
      ·simp only[Option.some.injEq,Prod.mk.injEq] at H;obtain⟨rfl,rfl⟩:=H;go_wp2;go_ret2;exact⟨fI,lG⟩

def jb.l0 : Nat→ByteArray→Int→Int→Option (Bool)
 |0,_,_,_=>none
 |k+1,x0,x1,x5=>if x5<(x0.size:Int) then(if 0≤x5 then(if(bt x0 x5)=x1 then(some true) else(jb.l0 k x0 x1 (wrap64 (x5+1)))) else(none)) else(some false)
def jb.f (k:Nat) (a0:ByteArray) (a1:Int):Option (Bool):=jb.l0 k a0 a1 0
theorem jb.Sb : ∀ k,(∀ y0 y1 y2,EN (jb.l0 k y0 y1 y2) (jb.l0 (k+1) y0 y1 y2))
 |0=>fun _ _ _ r h=>by simp[jb.l0] at h
 |k+1=>by
  have ih0:=jb.Sb k
  ·intro y0 y1 y2
   unfold jb.l0
   repeat' first|(with_reducible first|exact ih0 ..|exact EN.refl ..|exact EN.none ..|refine EN.ite ?_ ?_|refine EN.bind ?_ (fun _=>?_))|exact ih0 ..
theorem jb.mono : ∀ a0 a1 k,EN (jb.f k a0 a1) (jb.f (k+1) a0 a1):=by
 intro a0 a1 k
 have ih0:=jb.Sb k
 unfold jb.f
 repeat' first|(with_reducible first|exact ih0 ..|exact EN.refl ..|exact EN.none ..|refine EN.ite ?_ ?_|refine EN.bind ?_ (fun _=>?_))|exact ih0 ..
theorem jb.calls (k:Nat) (a0:ByteArray) (a1:Int) (r:Bool) (w:World) (h:jb.f k a0 a1=some r) :
  Calls Tryz.prog 186 #[.string a0,.int .u8 a1] w fun e w'=>e = .returned (.bool r)∧ed w w':=by
 have H:=h;clear h;unfold jb.f at H;have H':=ae.mk H;clear H;go_enter Tryz.func186,Tryz.ntmps186;go_wp2;go_loopg [5] k (fun kq v5 w'=>∃(dJ:Int),v5 = .int .i64 dJ∧ae (jb.l0 kq a0 a1 dJ=some r)∧ae (kq≤k)∧ed w w')
 case atStart=>exact⟨(0),fI,H',⟨Nat.le_refl _⟩,lG⟩
 case round=>
  clear H';obtain⟨dJ,rfl,HA,qj,⟨m1,rfl⟩⟩:=hrel;cases gk with
  |zero=>exact absurd HA.out (by simp[jb.l0])
  |succ k1=>
   have H:=HA.out;clear HA;simp only[jb.l0] at H;replace H:=gI H;rcases H with⟨-,gM,-,H⟩|⟨-,gM,-,H⟩
   ·replace H:=gN H;obtain⟨-,mP,-,H⟩:=H;replace H:=gI H;rcases H with⟨c6,-,-,H⟩|⟨c6,-,-,H⟩
    ·obtain⟨nW,yK⟩:=rD c6;clear c6;obtain rfl:=cu H;have p5:0≤(dJ:Int):=bE gL;have q5:dJ<(a0.size:Int):=bE gL;have hx5:=gV a0 dJ;replace p5:=eq_true p5;replace q5:=eq_true q5;go_wp2;go_ret;exact⟨fI,lG⟩
    ·obtain⟨nW,yK⟩:=rO c6;have H':=ae.mk H;clear H;have p5:0≤(dJ:Int):=bE gL;have q5:dJ<(a0.size:Int):=bE gL;have hx5:=gV a0 dJ;replace p5:=eq_true p5;replace q5:=eq_true q5;go_wp2;go_roundg k1
     case measure=>have:=qj.out;omega
     case rel=>exact⟨(wrap64 (dJ+1)),fI,H',⟨by have:=qj.out;omega⟩,lG⟩
   ·obtain rfl:=cu H;go_wp2;go_ret;exact⟨fI,lG⟩


def gT.f (k:Nat) (a0:Int):Option (Bool):=(jf.f a0).bind fun acO=>(if acO≥97 then(if acO≤122 then(some true) else((bS.f a0).bind fun arl=>(if arl=true then(some true) else(if a0=96 then(some true) else((jb.f k (⟨#[33,35,36,37,38,39,42,43,45,46,94,95,124,126]⟩:af) a0).bind fun amB=>(some amB)))))) else((bS.f a0).bind fun arn=>(if arn=true then(some true) else(if a0=96 then(some true) else((jb.f k (⟨#[33,35,36,37,38,39,42,43,45,46,94,95,124,126]⟩:af) a0).bind fun amC=>(some amC))))))
theorem gT.mono : ∀ a0 k,EN (gT.f k a0) (gT.f (k+1) a0):=by
 intro a0 k
 unfold gT.f
 repeat' first|(with_reducible first|exact jb.mono ..|exact EN.refl ..|exact EN.none ..|refine EN.ite ?_ ?_|refine EN.bind ?_ (fun _=>?_))
theorem gT.e0 {p:Prop} (h:p:=by
  obtain rfl:=cu H
  go_enter Tryz.func145,Tryz.ntmps145
  go_wp2_with(first|((with_reducible refine ag (f:=125) rfl ?_);refine aG (some 5) rfl rfl Tryz.func125 aK rfl #[.int .u8 a0] rfl eu ?_;(with_reducible refine(jf.calls a0 acO _ A2.out).mono ?_);rintro e w' ⟨rfl,⟨nd,rfl⟩⟩;refine⟨_,rfl,?_⟩)|(go_at_call 77;(with_reducible refine(bS.calls a0 false _ A9.out).mono ?_);rintro e w' ⟨rfl,⟨nd,rfl⟩⟩)|(go_at_call 186;(with_reducible refine(jb.calls k (⟨#[33,35,36,37,38,39,42,43,45,46,94,95,124,126]⟩:af) a0 amC _ LU.out).mono ?_);rintro e w' ⟨rfl,⟨nd,rfl⟩⟩)|(go_at_call 77;(with_reducible refine(bS.calls a0 true _ A9.out).mono ?_);rintro e w' ⟨rfl,⟨nd,rfl⟩⟩)|(go_at_call 77;(with_reducible refine(bS.calls a0 false _ A5.out).mono ?_);rintro e w' ⟨rfl,⟨nd,rfl⟩⟩)|(go_at_call 186;(with_reducible refine(jb.calls k (⟨#[33,35,36,37,38,39,42,43,45,46,94,95,124,126]⟩:af) a0 amB _ A8.out).mono ?_);rintro e w' ⟨rfl,⟨nd,rfl⟩⟩)|(go_at_call 77;(with_reducible refine(bS.calls a0 true _ A5.out).mono ?_);rintro e w' ⟨rfl,⟨nd,rfl⟩⟩))
  go_ret
  exact⟨fI,lG⟩):p:=h
theorem gT.calls (k:Nat) (a0:Int) (r:Bool) (w:World) (h:gT.f k a0=some r) :
  Calls Tryz.prog 145 #[.int .u8 a0] w fun e w'=>e = .returned (.bool r)∧ed w w':=by
 have H:=h;clear h;unfold gT.f at H;replace H:=gD H;obtain⟨acO,A2,H⟩:=H;replace H:=gI H;rcases H with⟨c3,-,-,H⟩|⟨c3,-,-,H⟩
 ·have gM:decide (97≤acO)=true:=aT c3;clear c3;replace H:=gI H;rcases H with⟨-,mP,-,H⟩|⟨-,mP,-,H⟩
  ·exact gT.e0
  ·replace H:=gD H;obtain⟨arl,A5,H⟩:=H;replace H:=gB H;rcases H with⟨rfl,H⟩|⟨rfl,H⟩
   ·exact gT.e0
   ·replace H:=gI H;rcases H with⟨c7,-,-,H⟩|⟨c7,-,-,H⟩
    ·obtain⟨uR,KS⟩:=rD c7;clear c7;exact gT.e0
    ·obtain⟨uR,KS⟩:=rO c7;replace H:=gD H;obtain⟨amB,A8,H⟩:=H;exact gT.e0
 ·have gM:decide (97≤acO)=false:=aN c3;clear c3;replace H:=gD H;obtain⟨arn,A9,H⟩:=H;replace H:=gB H;rcases H with⟨rfl,H⟩|⟨rfl,H⟩
  ·exact gT.e0
  ·replace H:=gI H;rcases H with⟨c11,-,-,H⟩|⟨c11,-,-,H⟩
   ·obtain⟨xA,JO⟩:=rD c11;clear c11;exact gT.e0
   ·obtain⟨xA,JO⟩:=rO c11;replace H:=gD H;obtain⟨amC,LU,H⟩:=H;exact gT.e0

mutual
def eF.j0 : Nat→ByteArray→Bool→Option (Bool)
 |0,_,_=>none
 |k+1,x0,x11=>if x11=true then(some false) else(eF.l0 k x0 0)
def eF.l0 : Nat→ByteArray→Int→Option (Bool)
 |0,_,_=>none
 |k+1,x0,x3=>if x3<(x0.size:Int) then(if 0≤x3 then((gT.f k (bt x0 x3)).bind fun aro=>(if aro=true then(eF.l0 k x0 (wrap64 (x3+1))) else(some false))) else(none)) else(some true)
end
def eF.f (k:Nat) (a0:ByteArray):Option (Bool):=if(a0.size:Int)=0 then(eF.j0 k a0 true) else(eF.j0 k a0 (decide ((a0.size:Int)>4000)))
theorem eF.calls (k:Nat) (a0:ByteArray) (r:Bool) (w:World) (h:eF.f k a0=some r) :
  Calls Tryz.prog 97 #[.string a0] w fun e w'=>e = .returned (.bool r)∧ed w w':=by
 have H:=h;clear h;unfold eF.f at H;have xZ:=ae.mk H;clear H;go_enter Tryz.func97,Tryz.ntmps97;go_upto_region 1 with(fail);go_cut [11] (fun v11 wc=>∃(kq:Nat) (Td:Bool),v11 = .bool Td∧ae (eF.j0 kq a0 Td=some r)∧ae (kq≤k)∧ed w wc)
 case first=>
  have H:=xZ.out;clear xZ;replace H:=gI H;rcases H with⟨c3,-,-,H⟩|⟨c3,-,-,H⟩
  ·obtain⟨gM,uX⟩:=rD c3;clear c3;(first|rw[gM]|(simp only[iE,jF];rw[gM])|skip)
   have H':=ae.mk H;clear H;go_wp2;go_meet
   case rel=>exact⟨_,(true),fI,H',⟨EC⟩,lG⟩
  ·obtain⟨gM,uX⟩:=rO c3;(first|rw[gM]|(simp only[iE,jF];rw[gM])|skip)
   have H':=ae.mk H;clear H;go_wp2;go_meet
   case rel=>exact⟨_,(decide ((a0.size:Int)>4000)),fI,H',⟨EC⟩,lG⟩
 case rest=>
  clear xZ;obtain⟨kq,Td,rfl,HA,Bu,⟨mc1,rfl⟩⟩:=hcut;cases kq with
  |zero=>exact absurd HA.out (by simp[eF.j0])
  |succ uY=>
   have H:=HA.out;clear HA;simp only[eF.j0] at H;replace H:=gB H;rcases H with⟨rfl,H⟩|⟨rfl,H⟩
   ·obtain rfl:=cu H;go_wp2;go_ret;exact⟨fI,lG⟩
   ·have H':=ae.mk H;clear H;go_wp2;go_loopg [3] uY (fun kq v3 w'=>∃(l8:Int),v3 = .int .i64 l8∧ae (eF.l0 kq a0 l8=some r)∧ae (kq≤uY)∧ed w w')
    case atStart=>exact⟨(0),fI,H',⟨Nat.le_refl _⟩,lG⟩
    case round=>
     clear H';obtain⟨l8,rfl,HA,Eo,⟨m2,rfl⟩⟩:=hrel;cases gk with
     |zero=>exact absurd HA.out (by simp[eF.l0])
     |succ k2=>
      have H:=HA.out;clear HA;simp only[eF.l0] at H;replace H:=gI H;rcases H with⟨-,qh,-,H⟩|⟨-,qh,-,H⟩
      ·replace H:=gN H;obtain⟨-,nW,-,H⟩:=H;replace H:=gD H;obtain⟨aro,A8,H⟩:=H;replace H:=gB H;rcases H with⟨rfl,H⟩|⟨rfl,H⟩
       ·have H':=ae.mk H;clear H;have p7:0≤(l8:Int):=bE gL;have q7:l8<(a0.size:Int):=bE gL;have hx7:=gV a0 l8;replace p7:=eq_true p7;replace q7:=eq_true q7;go_wp2_with(((with_reducible refine ag (f:=145) rfl ?_);refine aG (some 21) rfl rfl Tryz.func145 aK rfl #[.int .u8 (bt a0 l8)] rfl eu ?_;(with_reducible refine(gT.calls k2 (bt a0 l8) true _ A8.out).mono ?_);rintro e w' ⟨rfl,⟨nd,rfl⟩⟩;refine⟨_,rfl,?_⟩));go_roundg k2
        case measure=>have:=Bu.out;have:=Eo.out;omega
        case rel=>exact⟨(wrap64 (l8+1)),fI,H',⟨QE⟩,lG⟩
       ·obtain rfl:=cu H;have p7:0≤(l8:Int):=bE gL;have q7:l8<(a0.size:Int):=bE gL;have hx7:=gV a0 l8;replace p7:=eq_true p7;replace q7:=eq_true q7;go_wp2_with(((with_reducible refine ag (f:=145) rfl ?_);refine aG (some 21) rfl rfl Tryz.func145 aK rfl #[.int .u8 (bt a0 l8)] rfl eu ?_;(with_reducible refine(gT.calls k2 (bt a0 l8) false _ A8.out).mono ?_);rintro e w' ⟨rfl,⟨nd,rfl⟩⟩;refine⟨_,rfl,?_⟩));go_ret;exact⟨fI,lG⟩
      ·obtain rfl:=cu H;go_wp2;go_ret;exact⟨fI,lG⟩

def tN.f (a0:Int):Option (Bool):=if a0=9 then(some true) else(if a0≥32 then(some (a0 != 127)) else(some false))
theorem tN.calls (a0:Int) (r:Bool) (w:World) (h:tN.f a0=some r) :
  Calls Tryz.prog 146 #[.int .u8 a0] w fun e w'=>e = .returned (.bool r)∧ed w w':=by
 have H:=h;clear h;unfold tN.f at H;replace H:=gI H;rcases H with⟨c2,-,-,H⟩|⟨c2,-,-,H⟩
 ·obtain⟨nk,wB⟩:=rD c2;clear c2;obtain rfl:=cu H;go_enter Tryz.func146,Tryz.ntmps146;go_wp2;go_ret;exact⟨fI,lG⟩
 ·obtain⟨nk,wB⟩:=rO c2;replace H:=gI H;rcases H with⟨c3,-,-,H⟩|⟨c3,-,-,H⟩
  ·have gM:decide (32≤a0)=true:=aT c3;clear c3;obtain rfl:=cu H;go_enter Tryz.func146,Tryz.ntmps146;go_wp2;go_ret;exact⟨fI,lG⟩
  ·have gM:decide (32≤a0)=false:=aN c3;clear c3;obtain rfl:=cu H;go_enter Tryz.func146,Tryz.ntmps146;go_wp2;go_ret;exact⟨fI,lG⟩


def pO.f (a0:Int):Option (Bool):=if a0=32 then(some true) else(some (a0==9))
theorem pO.calls (a0:Int) (r:Bool) (w:World) (h:pO.f a0=some r) :
  Calls Tryz.prog 147 #[.int .u8 a0] w fun e w'=>e = .returned (.bool r)∧ed w w':=by
 have H:=h;clear h;unfold pO.f at H;replace H:=gI H;rcases H with⟨c2,-,-,H⟩|⟨c2,-,-,H⟩
 ·obtain⟨nk,wB⟩:=rD c2;clear c2;obtain rfl:=cu H;go_enter Tryz.func147,Tryz.ntmps147;go_wp2;go_ret;exact⟨fI,lG⟩
 ·obtain⟨nk,wB⟩:=rO c2;obtain rfl:=cu H;go_enter Tryz.func147,Tryz.ntmps147;go_wp2;go_ret;exact⟨fI,lG⟩

mutual
def eQ.j1 : Nat→ByteArray→Int→Option (ByteArray)
 |0,_,_=>none
 |k+1,x0,x3=>eQ.l1 k x0 x3 (x0.size:Int)
def eQ.l1 : Nat→ByteArray→Int→Int→Option (ByteArray)
 |0,_,_,_=>none
 |k+1,x0,x3,x4=>if x4>x3 then(if 0≤(wrap64 (x4-1)) then(if(wrap64 (x4-1))<(x0.size:Int) then((pO.f (bt x0 (wrap64 (x4-1)))).bind fun arp=>(if arp=true then(eQ.l1 k x0 x3 (wrap64 (x4-1))) else(if 0≤x3 then(if x3≤x4 then(if x4≤(x0.size:Int) then(some (x0.extract (x3:Int).toNat (x4:Int).toNat)) else(none)) else(none)) else(none)))) else(none)) else(none)) else(if 0≤x3 then(if x3≤x4 then(if x4≤(x0.size:Int) then(some (x0.extract (x3:Int).toNat (x4:Int).toNat)) else(none)) else(none)) else(none))
def eQ.l0 : Nat→ByteArray→Int→Option (ByteArray)
 |0,_,_=>none
 |k+1,x0,x3=>if x3<(x0.size:Int) then(if 0≤x3 then((pO.f (bt x0 x3)).bind fun arq=>(if arq=true then(eQ.l0 k x0 (wrap64 (x3+1))) else(eQ.j1 k x0 x3))) else(none)) else(eQ.j1 k x0 x3)
end
def eQ.f (k:Nat) (a0:ByteArray):Option (ByteArray):=eQ.l0 k a0 0
theorem eQ.calls (k:Nat) (a0 r:ByteArray) (w:World) (h:eQ.f k a0=some r) :
  Calls Tryz.prog 99 #[.string a0] w fun e w'=>e = .returned (.string r)∧ed w w':=by
 have H:=h;clear h;unfold eQ.f at H;have xZ:=ae.mk H;clear H;go_enter Tryz.func99,Tryz.ntmps99;go_upto_block 0 with(fail);go_cut [3] (fun v3 wc=>∃(kq:Nat) (fU:Int),v3 = .int .i64 fU∧ae (eQ.j1 kq a0 fU=some r)∧ae (kq≤k)∧ed w wc)
 case first=>
  have H:=xZ.out;clear xZ;have H':=ae.mk H;clear H;go_wp2;go_loopg [3] k (fun kq v3 w'=>∃(fU:Int),v3 = .int .i64 fU∧ae (eQ.l0 kq a0 fU=some r)∧ae (kq≤k)∧ed w w')
  case atStart=>exact⟨(0),fI,H',⟨Nat.le_refl _⟩,lG⟩
  case round=>
   clear H';obtain⟨fU,rfl,HA,qj,⟨m1,rfl⟩⟩:=hrel;cases gk with
   |zero=>exact absurd HA.out (by simp[eQ.l0])
   |succ k1=>
    have H:=HA.out;clear HA;simp only[eQ.l0] at H;replace H:=gI H;rcases H with⟨-,gM,-,H⟩|⟨-,gM,-,H⟩
    ·(first|rw[gM]|(simp only[iE,jF];rw[gM])|skip)
     replace H:=gN H;obtain⟨-,mP,-,H⟩:=H;replace H:=gD H;obtain⟨arq,A6,H⟩:=H;replace H:=gB H;rcases H with⟨rfl,H⟩|⟨rfl,H⟩
     ·have H':=ae.mk H;clear H;have p5:0≤(fU:Int):=bE gL;have q5:fU<(a0.size:Int):=bE gL;have hx5:=gV a0 fU;replace p5:=eq_true p5;replace q5:=eq_true q5;go_wp2_with((go_at_call 147;(with_reducible refine(pO.calls (bt a0 fU) true _ A6.out).mono ?_);rintro e w' ⟨rfl,⟨nd,rfl⟩⟩));go_roundg k1
      case measure=>have:=qj.out;omega
      case rel=>exact⟨(wrap64 (fU+1)),fI,H',⟨by have:=qj.out;omega⟩,lG⟩
     ·have H':=ae.mk H;clear H;have p5:0≤(fU:Int):=bE gL;have q5:fU<(a0.size:Int):=bE gL;have hx5:=gV a0 fU;replace p5:=eq_true p5;replace q5:=eq_true q5;go_wp2_with((go_at_call 147;(with_reducible refine(pO.calls (bt a0 fU) false _ A6.out).mono ?_);rintro e w' ⟨rfl,⟨nd,rfl⟩⟩));go_meet
      case rel=>exact⟨_,(fU),fI,H',⟨VP⟩,lG⟩
    ·(first|rw[gM]|(simp only[iE,jF];rw[gM])|skip)
     have H':=ae.mk H;clear H;go_wp2;go_meet
     case rel=>exact⟨_,(fU),fI,H',⟨VP⟩,lG⟩
 case rest=>
  clear xZ;obtain⟨kq,fU,rfl,HA,Bu,⟨mc1,rfl⟩⟩:=hcut;cases kq with
  |zero=>exact absurd HA.out (by simp[eQ.j1])
  |succ uY=>
   have H:=HA.out;clear HA;simp only[eQ.j1] at H;have H':=ae.mk H;clear H;go_wp2;go_loopg [4] uY (fun kq v4 w'=>∃(kv:Int),v4 = .int .i64 kv∧ae (eQ.l1 kq a0 fU kv=some r)∧ae (kq≤uY)∧ed w w')
   case atStart=>exact⟨((a0.size:Int)),fI,H',⟨Nat.le_refl _⟩,lG⟩
   case round=>
    clear H';obtain⟨kv,rfl,HA,Eo,⟨m2,rfl⟩⟩:=hrel;cases gk with
    |zero=>exact absurd HA.out (by simp[eQ.l1])
    |succ k2=>
     have H:=HA.out;clear HA;simp only[eQ.l1] at H;replace H:=gI H;rcases H with⟨c8,-,-,H⟩|⟨c8,-,-,H⟩
     ·have tO:decide (fU<kv)=true:=aT c8;clear c8;obtain⟨ji9,Un⟩:∃ j_:Int,(wrap64 (kv-1))=j_:=⟨_,rfl⟩;(first|rw[Un] at H|simp only[Un] at H ⊢)
      have axt:(IntKind.i64.wrap (kv-1))=ji9:=(iE _).trans Un;replace H:=gN H;obtain⟨-,yS,-,H⟩:=H;replace H:=gN H;obtain⟨-,xA,-,H⟩:=H;replace H:=gD H;obtain⟨arp,QF,H⟩:=H;replace H:=gB H;rcases H with⟨rfl,H⟩|⟨rfl,H⟩
      ·have H':=ae.mk H;clear H;have Vk:0≤((ji9):Int):=bE gL;have Vl:(ji9)<(a0.size:Int):=bE gL;have acP:=gV a0 (ji9);replace Vk:=eq_true Vk;replace Vl:=eq_true Vl;go_wp2_with((go_at_call 147;(with_reducible refine(pO.calls (bt a0 (ji9)) true _ QF.out).mono ?_);rintro e w' ⟨rfl,⟨nd,rfl⟩⟩));go_roundg k2
       case measure=>have:=Bu.out;have:=Eo.out;omega
       case rel=>exact⟨(ji9),(by first|rfl|(simp;done)|(simp only[← Un] <;> (first|rfl|simp))|(simp[*];done)),H',⟨QE⟩,lG⟩
      ·replace H:=gN H;obtain⟨-,LZ,Ew,H⟩:=H;replace H:=gN H;obtain⟨-,Ji,Ae,H⟩:=H;replace H:=gN H;obtain⟨-,JQ,Bh,H⟩:=H;obtain rfl:=cu H;have Vk:0≤((ji9):Int):=bE gL;have Vl:(ji9)<(a0.size:Int):=bE gL;have acP:=gV a0 (ji9);replace Vk:=eq_true Vk;replace Vl:=eq_true Vl;go_wp2_with((go_at_call 147;(with_reducible refine(pO.calls (bt a0 (ji9)) false _ QF.out).mono ?_);rintro e w' ⟨rfl,⟨nd,rfl⟩⟩));go_ret;exact⟨by first|rfl|(simp;done)|(simp only[← Un] <;> (first|rfl|simp))|(simp[*];done),lG⟩
     ·have tO:decide (fU<kv)=false:=aN c8;clear c8;replace H:=gI H;rcases H with⟨-,ajZ,Sy,H⟩|⟨c18,-,-,H⟩
      ·replace H:=gN H;obtain⟨-,U3,Mc,H⟩:=H;replace H:=gN H;obtain⟨-,Oo,Ex,H⟩:=H;obtain rfl:=cu H;go_wp2;go_ret;exact⟨fI,lG⟩
      ·exact absurd H (by simp)

def oO.f (a0:ByteArray) (a1:ByteArray):Option (Bool):=(lq.f a0).bind fun agc=>((lq.f a1).bind fun agd=>(some (agc.toList==agd.toList)))
theorem oO.calls (a0 a1:ByteArray) (r:Bool) (w:World) (h:oO.f a0 a1=some r) :
  Calls Tryz.prog 120 #[.string a0,.string a1] w fun e w'=>e = .returned (.bool r)∧Below w.heap.size w w':=by
 have HB:=ae.mk (Below.refl w.heap.size w);have H:=h;clear h;unfold oO.f at H;replace H:=gD H;obtain⟨agc,A3,H⟩:=H;replace H:=gD H;obtain⟨agd,A4,H⟩:=H;obtain rfl:=cu H;go_enter Tryz.func120,Tryz.ntmps120;go_wp2_with(first|((with_reducible refine ag (f:=83) rfl ?_);refine aG (some 6) rfl rfl Tryz.func83 aK rfl #[.string a0] rfl eu ?_;(with_reducible refine(lq.calls a0 agc _ A3.out).mono ?_);rintro e w5 ⟨rfl,hb⟩;refine⟨_,rfl,?_⟩;replace HB:=dS hb;(try clear hb))|((with_reducible refine ag (f:=83) rfl ?_);refine aG (some 8) rfl rfl Tryz.func83 aK rfl #[.string a1] rfl eu ?_;(with_reducible refine(lq.calls a1 agd _ A4.out).mono ?_);rintro e w6 ⟨rfl,hb⟩;refine⟨_,rfl,?_⟩;replace HB:=dS hb;(try clear hb)));go_ret;exact⟨nG,dN⟩




def jq.f (a0:Int):Option (Bool):=if a0≥0 then(some (decide (a0≤253402300799))) else(some false)
theorem jq.calls (a0:Int) (r:Bool) (w:World) (h:jq.f a0=some r) :
  Calls Tryz.prog 31 #[.int .i64 a0] w fun e w'=>e = .returned (.bool r)∧ed w w':=by
 have H:=h;clear h;unfold jq.f at H;replace H:=gI H;rcases H with⟨c2,-,-,H⟩|⟨c2,-,-,H⟩
 ·have nk:decide (0≤a0)=true:=aT c2;clear c2;obtain rfl:=cu H;go_enter Tryz.func31,Tryz.ntmps31;go_wp2;go_ret;exact⟨fI,lG⟩
 ·have nk:decide (0≤a0)=false:=aN c2;clear c2;obtain rfl:=cu H;go_enter Tryz.func31,Tryz.ntmps31;go_wp2;go_ret;exact⟨fI,lG⟩

def aX.l0 : Nat→ByteArray→Int→Int→Option (Int)
 |0,_,_,_=>none
 |k+1,x0,x3,x4=>if x4<(x0.size:Int) then(if 0≤x4 then(if(bt x0 x4)=32 then(aX.l0 k x0 (wrap64 (x3*10)) (wrap64 (x4+1))) else((bS.f (bt x0 x4)).bind fun aj0=>(if aj0=true then(aX.l0 k x0 (wrap64 ((wrap64 (x3*10))+(((bt x0 x4)-48)%256))) (wrap64 (x4+1))) else(some (-1))))) else(none)) else(some x3)
def aX.f (k:Nat) (a0:ByteArray):Option (Int):=aX.l0 k a0 0 0
theorem aX.calls (k:Nat) (a0:ByteArray) (r:Int) (w:World) (h:aX.f k a0=some r) :
  Calls Tryz.prog 115 #[.string a0] w fun e w'=>e = .returned (.int .i64 r)∧ed w w':=by
 have H:=h;clear h;unfold aX.f at H;have H':=ae.mk H;clear H;go_enter Tryz.func115,Tryz.ntmps115;go_wp2;go_loopg [3,4] k (fun kq v3 v4 w'=>∃(fU:Int) (fT:Int),v3 = .int .i64 fU∧v4 = .int .i64 fT∧ae (aX.l0 kq a0 fU fT=some r)∧ae (kq≤k)∧ed w w')
 case atStart=>exact⟨(0),(0),fI,fI,H',⟨Nat.le_refl _⟩,lG⟩
 case round=>
  clear H';obtain⟨fU,fT,rfl,rfl,HA,qj,⟨m1,rfl⟩⟩:=hrel;cases gk with
  |zero=>exact absurd HA.out (by simp[aX.l0])
  |succ k1=>
   have H:=HA.out;clear HA;simp only[aX.l0] at H;replace H:=gI H;rcases H with⟨-,nk,-,H⟩|⟨-,nk,-,H⟩
   ·replace H:=gN H;obtain⟨-,gM,-,H⟩:=H;replace H:=gI H;rcases H with⟨c5,-,-,H⟩|⟨c5,-,-,H⟩
    ·obtain⟨qh,Al⟩:=rD c5;clear c5;have H':=ae.mk H;clear H;have p4:0≤(fT:Int):=bE gL;have q4:fT<(a0.size:Int):=bE gL;have hx4:=gV a0 fT;replace p4:=eq_true p4;replace q4:=eq_true q4;go_wp2;go_roundg k1
     case measure=>have:=qj.out;omega
     case rel=>exact⟨(wrap64 (fU*10)),(wrap64 (fT+1)),fI,fI,H',⟨by have:=qj.out;omega⟩,lG⟩
    ·obtain⟨qh,Al⟩:=rO c5;replace H:=gD H;obtain⟨aj0,A7,H⟩:=H;replace H:=gB H;rcases H with⟨rfl,H⟩|⟨rfl,H⟩
     ·have H':=ae.mk H;clear H;have p4:0≤(fT:Int):=bE gL;have q4:fT<(a0.size:Int):=bE gL;have hx4:=gV a0 fT;replace p4:=eq_true p4;replace q4:=eq_true q4;have p6:0≤(fT:Int):=bE gL;have q6:fT<(a0.size:Int):=bE gL;have hx6:=gV a0 fT;replace p6:=eq_true p6;replace q6:=eq_true q6;go_wp2_with(((with_reducible refine ag (f:=77) rfl ?_);refine aG (some 20) rfl rfl Tryz.func77 aK rfl #[.int .u8 (bt a0 fT)] rfl eu ?_;(with_reducible refine(bS.calls (bt a0 fT) true _ A7.out).mono ?_);rintro e w' ⟨rfl,⟨nd,rfl⟩⟩;refine⟨_,rfl,?_⟩;have p9:0≤(fT:Int):=bE gL;have q9:fT<(a0.size:Int):=bE gL;have hx9:=gV a0 fT;replace p9:=eq_true p9;replace q9:=eq_true q9));go_roundg k1
      case measure=>have:=qj.out;omega
      case rel=>exact⟨(wrap64 ((wrap64 (fU*10))+(((bt a0 fT)-48)%256))),(wrap64 (fT+1)),fI,fI,H',⟨by have:=qj.out;omega⟩,lG⟩
     ·obtain rfl:=cu H;have p4:0≤(fT:Int):=bE gL;have q4:fT<(a0.size:Int):=bE gL;have hx4:=gV a0 fT;replace p4:=eq_true p4;replace q4:=eq_true q4;have p6:0≤(fT:Int):=bE gL;have q6:fT<(a0.size:Int):=bE gL;have hx6:=gV a0 fT;replace p6:=eq_true p6;replace q6:=eq_true q6;go_wp2_with(((with_reducible refine ag (f:=77) rfl ?_);refine aG (some 20) rfl rfl Tryz.func77 aK rfl #[.int .u8 (bt a0 fT)] rfl eu ?_;(with_reducible refine(bS.calls (bt a0 fT) false _ A7.out).mono ?_);rintro e w' ⟨rfl,⟨nd,rfl⟩⟩;refine⟨_,rfl,?_⟩));go_ret;exact⟨fI,lG⟩
   ·obtain rfl:=cu H;go_wp2;go_ret;exact⟨fI,lG⟩

def iI.f (a0:Int):Option (ByteArray):=if 0≤(wrap64 ((wrap64 (3*a0))-3)) then(if(wrap64 ((wrap64 (3*a0))-3))≤(wrap64 (3*a0)) then(if(wrap64 (3*a0))≤36 then(some ((⟨#[74,97,110,70,101,98,77,97,114,65,112,114,77,97,121,74,117,110,74,117,108,65,117,103,83,101,112,79,99,116,78,111,118,68,101,99]⟩:af).extract ((wrap64 ((wrap64 (3*a0))-3)):Int).toNat ((wrap64 (3*a0)):Int).toNat)) else(none)) else(none)) else(none)
theorem iI.calls (a0:Int) (r:ByteArray) (w:World) (h:iI.f a0=some r) :
  Calls Tryz.prog 160 #[.int .i64 a0] w fun e w'=>e = .returned (.string r)∧ed w w':=by
 have H:=h;clear h;unfold iI.f at H;obtain⟨ji2,aim⟩:∃ j_:Int,(wrap64 ((wrap64 (3*a0))-3))=j_:=⟨_,rfl⟩;(first|rw[aim] at H|simp only[aim] at H ⊢)
 have axu:(IntKind.i64.wrap ((wrap64 (3*a0))-3))=ji2:=(iE _).trans aim;replace H:=gI H;rcases H with⟨-,uX,gM,H⟩|⟨c3,-,-,H⟩
 ·replace H:=gN H;obtain⟨-,yH,mP,H⟩:=H;replace H:=gN H;obtain⟨-,Al,qh,H⟩:=H;obtain rfl:=cu H;go_enter Tryz.func160,Tryz.ntmps160;go_wp2;go_ret;exact⟨by first|rfl|(simp;done)|(simp only[← aim] <;> (first|rfl|simp))|(simp[*];done),lG⟩
 ·exact absurd H (by simp)

def eU.l0 : Nat→ByteArray→Int→Option (Int)
 |0,_,_=>none
 |k+1,x0,x3=>if x3≤12 then((iI.f x3).bind fun ab2=>(if ab2.toList=x0.toList then(some x3) else(eU.l0 k x0 (wrap64 (x3+1))))) else(some (-1))
def eU.f (k:Nat) (a0:ByteArray):Option (Int):=eU.l0 k a0 1
theorem eU.calls (k:Nat) (a0:ByteArray) (r:Int) (w:World) (h:eU.f k a0=some r) :
  Calls Tryz.prog 116 #[.string a0] w fun e w'=>e = .returned (.int .i64 r)∧ed w w':=by
 have H:=h;clear h;unfold eU.f at H;have H':=ae.mk H;clear H;go_enter Tryz.func116,Tryz.ntmps116;go_wp2;go_loopg [3] k (fun kq v3 w'=>∃(fU:Int),v3 = .int .i64 fU∧ae (eU.l0 kq a0 fU=some r)∧ae (kq≤k)∧ed w w')
 case atStart=>exact⟨(1),fI,H',⟨Nat.le_refl _⟩,lG⟩
 case round=>
  clear H';obtain⟨fU,rfl,HA,qj,⟨m1,rfl⟩⟩:=hrel;cases gk with
  |zero=>exact absurd HA.out (by simp[eU.l0])
  |succ k1=>
   have H:=HA.out;clear HA;simp only[eU.l0] at H;replace H:=gI H;rcases H with⟨-,nk,-,H⟩|⟨-,nk,-,H⟩
   ·replace H:=gD H;obtain⟨ab2,A3,H⟩:=H;replace H:=gI H;rcases H with⟨c4,-,-,H⟩|⟨c4,-,-,H⟩
    ·obtain⟨mP,yH⟩:=rD c4;clear c4;obtain rfl:=cu H;go_wp2_with(((with_reducible refine ag (f:=160) rfl ?_);refine aG (some 9) rfl rfl Tryz.func160 aK rfl #[.int .i64 fU] rfl eu ?_;(with_reducible refine(iI.calls fU ab2 _ A3.out).mono ?_);rintro e w' ⟨rfl,⟨nd,rfl⟩⟩;refine⟨_,rfl,?_⟩));go_ret;exact⟨fI,lG⟩
    ·obtain⟨mP,yH⟩:=rO c4;have H':=ae.mk H;clear H;go_wp2_with(((with_reducible refine ag (f:=160) rfl ?_);refine aG (some 9) rfl rfl Tryz.func160 aK rfl #[.int .i64 fU] rfl eu ?_;(with_reducible refine(iI.calls fU ab2 _ A3.out).mono ?_);rintro e w' ⟨rfl,⟨nd,rfl⟩⟩;refine⟨_,rfl,?_⟩));go_roundg k1
     case measure=>have:=qj.out;omega
     case rel=>exact⟨(wrap64 (fU+1)),fI,H',⟨by have:=qj.out;omega⟩,lG⟩
   ·obtain rfl:=cu H;go_wp2;go_ret;exact⟨fI,lG⟩

def oD.f (a0:Int):Option (Bool):=if(Int.tmod a0 4)=0 then(if(Int.tmod a0 100)=0 then(some ((Int.tmod a0 400)==0)) else(some true)) else(some false)
theorem oD.calls (a0:Int) (r:Bool) (w:World) (h:oD.f a0=some r) :
  Calls Tryz.prog 227 #[.int .i64 a0] w fun e w'=>e = .returned (.bool r)∧ed w w':=by
 have H:=h;clear h;unfold oD.f at H;replace H:=gI H;rcases H with⟨c2,-,-,H⟩|⟨c2,-,-,H⟩
 ·obtain⟨nk,wB⟩:=rD c2;clear c2;replace H:=gI H;rcases H with⟨c3,-,-,H⟩|⟨c3,-,-,H⟩
  ·obtain⟨gM,uX⟩:=rD c3;clear c3;obtain rfl:=cu H;go_enter Tryz.func227,Tryz.ntmps227;go_wp2;go_ret;exact⟨fI,lG⟩
  ·obtain⟨gM,uX⟩:=rO c3;obtain rfl:=cu H;go_enter Tryz.func227,Tryz.ntmps227;go_wp2;go_ret;exact⟨fI,lG⟩
 ·obtain⟨nk,wB⟩:=rO c2;obtain rfl:=cu H;go_enter Tryz.func227,Tryz.ntmps227;go_wp2;go_ret;exact⟨fI,lG⟩


def kJ.f (a0:Int) (a1:Int):Option (Int):=if a1=2 then((oD.f a0).bind fun aj1=>(if aj1=true then(some 29) else(some 28))) else(if a1=4 then(some 30) else(if a1=6 then(some 30) else(if a1=9 then(some 30) else(if a1=11 then(some 30) else(some 31)))))
theorem kJ.e0 {p:Prop} (h:p:=by
  obtain rfl:=cu H
  go_enter Tryz.func204,Tryz.ntmps204
  go_wp2_with(first|((with_reducible refine ag (f:=227) rfl ?_);refine aG (some 8) rfl rfl Tryz.func227 aK rfl #[.int .i64 a0] rfl eu ?_;(with_reducible refine(oD.calls a0 false _ A4.out).mono ?_);rintro e w' ⟨rfl,⟨nd,rfl⟩⟩;refine⟨_,rfl,?_⟩)|((with_reducible refine ag (f:=227) rfl ?_);refine aG (some 8) rfl rfl Tryz.func227 aK rfl #[.int .i64 a0] rfl eu ?_;(with_reducible refine(oD.calls a0 true _ A4.out).mono ?_);rintro e w' ⟨rfl,⟨nd,rfl⟩⟩;refine⟨_,rfl,?_⟩))
  go_ret
  exact⟨fI,lG⟩):p:=h
theorem kJ.calls (a0 a1 r:Int) (w:World) (h:kJ.f a0 a1=some r) :
  Calls Tryz.prog 204 #[.int .i64 a0,.int .i64 a1] w fun e w'=>e = .returned (.int .i64 r)∧ed w w':=by
 have H:=h;clear h;unfold kJ.f at H;replace H:=gI H;rcases H with⟨c3,-,-,H⟩|⟨c3,-,-,H⟩
 ·obtain⟨gM,uX⟩:=rD c3;clear c3;replace H:=gD H;obtain⟨aj1,A4,H⟩:=H;replace H:=gB H;rcases H with⟨rfl,H⟩|⟨rfl,H⟩
  ·exact kJ.e0
  ·exact kJ.e0
 ·obtain⟨gM,uX⟩:=rO c3;replace H:=gI H;rcases H with⟨c6,-,-,H⟩|⟨c6,-,-,H⟩
  ·obtain⟨nW,yK⟩:=rD c6;clear c6;obtain rfl:=cu H;go_enter Tryz.func204,Tryz.ntmps204;go_wp2;go_ret;exact⟨fI,lG⟩
  ·obtain⟨nW,yK⟩:=rO c6;replace H:=gI H;rcases H with⟨c7,-,-,H⟩|⟨c7,-,-,H⟩
   ·obtain⟨uR,KS⟩:=rD c7;clear c7;obtain rfl:=cu H;go_enter Tryz.func204,Tryz.ntmps204;go_wp2;go_ret;exact⟨fI,lG⟩
   ·obtain⟨uR,KS⟩:=rO c7;replace H:=gI H;rcases H with⟨c8,-,-,H⟩|⟨c8,-,-,H⟩
    ·obtain⟨tO,Iu⟩:=rD c8;clear c8;obtain rfl:=cu H;go_enter Tryz.func204,Tryz.ntmps204;go_wp2;go_ret;exact⟨fI,lG⟩
    ·obtain⟨tO,Iu⟩:=rO c8;replace H:=gI H;rcases H with⟨c9,-,-,H⟩|⟨c9,-,-,H⟩
     ·obtain⟨xY,Gz⟩:=rD c9;clear c9;obtain rfl:=cu H;go_enter Tryz.func204,Tryz.ntmps204;go_wp2;go_ret;exact⟨fI,lG⟩
     ·obtain⟨xY,Gz⟩:=rO c9;obtain rfl:=cu H;go_enter Tryz.func204,Tryz.ntmps204;go_wp2;go_ret;exact⟨fI,lG⟩


def fH.f (aA:Int) (aC:Int) (aI:Int) (bD:Int) (aU:Int) (bZ:Int):Option (Bool):=if aA≥1970 then(if aA≤9999 then(if aC≥1 then(if aC≤12 then(if aI≥1 then((kJ.f aA aC).bind fun age=>(if aI≤age then(if bD≥0 then(if bD≤23 then(if aU≥0 then(if aU≤59 then(if bZ≥0 then(some (decide (bZ≤59))) else(some false)) else(some false)) else(some false)) else(some false)) else(some false)) else(some false))) else(some false)) else(some false)) else(some false)) else(some false)) else(some false)
def fH.T1 : Bool×List (List Nat×List Nat):=(true,[([],[]),([0],[0]),([1],[1]),([2],[2]),([3],[3]),([4,3],[3,4]),([5,3],[3,5]),([3,6],[3,6]),([7,3],[7]),([8],[8]),([9,8],[8,9]),([10,8],[8,10]),([8,11],[8,11]),([12,8],[12]),([13],[13]),([14,13],[13,14]),([15,13],[13,15]),([13,16],[13,16]),([17,13],[17]),([18],[18]),([19,18],[18,19]),([20,18],[18,20]),([18,21],[18,21]),([22,18],[22]),([23],[23]),([24,23],[23,24]),([23],[23]),([26,23],[23,26]),([23],[23]),([28,23],[23,28]),([27,29,23,23],[23,27,29]),([25,30,23],[23,25,30]),([23,31],[23,31]),([32,30],[32]),([33],[33]),([34,33],[33,34]),([35,33],[33,35]),([33,36],[33,36]),([37,33],[37]),([38],[38]),([39,38],[38,39]),([40,38],[38,40]),([38,41],[38,41]),([42,38],[42]),([43],[43]),([44,43],[43,44]),([45,43],[43,45]),([43,46],[43,46]),([47,43],[47]),([48],[48]),([49,48],[48,49]),([50,48],[48,50]),([48,51],[48,51]),([52,48],[52]),([53],[53]),([54,53],[53,54]),([55,53],[53,55]),([53,56],[53,56]),([57,53],[57]),([58],[58]),([59,58],[58,59]),([60,58],[58,60]),([58,61],[58,61]),([62,58,0,1,2,3,4,5,6,7,8,9,10,11,12,13,14,15,16,17,18,19,20,21,22,23,24,25,26,27,28,29,30,31,32,33,34,35,36,37,38,39,40,41,42,43,44,45,46,47,48,49,50,51,52,53,54,55,56,57,58,59,60,61,62],[62])])
def fH.B1 : List Nat:=[0,1,3,7,15,31,63,127,255,511,1023,2047,4095,8191,16383,32767,65535,131071,262143,524287,1048575,2097151,4194303,8388607,16777215,33554431,16777215,83886079,16777215,285212671,1023410175,2147483647,4294967295,8589934591,17179869183,34359738367,68719476735,137438953471,274877906943,549755813887,1099511627775,2199023255551,4398046511103,8796093022207,17592186044415,35184372088831,70368744177663,140737488355327,281474976710655,562949953421311,1125899906842623,2251799813685247,4503599627370495,9007199254740991,18014398509481983,36028797018963967,72057594037927935,144115188075855871,288230376151711743,576460752303423487,1152921504606846975,2305843009213693951,4611686018427387903,9223372036854775807]
theorem fH.FC : rP .any (opsOf Tryz.f202 1)=fH.T1:=by kernel_rfl
theorem fH.yI : kD fH.T1.2 fH.B1=true:=by kernel_rfl
theorem fH.e0 {p:Prop} (h:p:=by
  obtain rfl:=cu H
  go_enter Tryz.func202,Tryz.ntmps202
  try go_wp2_with(((with_reducible refine aY (N:=1) rfl ?_);refine jX #[.int .i64 aA,.int .i64 aC,.int .i64 aI,.int .i64 bD,.int .i64 aU,.int .i64 bZ] 117 ?_;intro Px hg jm hbox hb;have Tq:=ae.mk (hbox);have auq:=jL hg;have aur:=jL hg;replace HB:=dS hb;clear hb hbox hg))
  replace Tq:=ae.mk (bJ Tq.out)
  replace HB:=ae.mk (di HB.out)
  refine lL (n:=64) (S:=fun w'=>w'.cell? ⟨Px,0,none⟩=some (.int .i64 aA)∧w'.cell? ⟨Px,1,none⟩=some (.int .i64 aC)∧w'.cell? ⟨Px,2,none⟩=some (.int .i64 aI)∧w'.cell? ⟨Px,3,none⟩=some (.int .i64 bD)∧w'.cell? ⟨Px,4,none⟩=some (.int .i64 aU)∧w'.cell? ⟨Px,5,none⟩=some (.int .i64 bZ)) (ds:=[]) (kY Tq) (fun hHeld=>?_);refine fu fH.FC fH.yI (fun HT_ HW_=>?_)
  generalize jm.drew=ku at Tq HB hHeld ⊢
  repeat(first|refine nU ?_ (hy:=Or.inl ⟨by rfl,VI⟩)|refine fA ?_|(refine iM (fun K hK=>?_);refine dV Tryz.func204 aK rfl #[.int .i64 aA,.int .i64 aC] (by rfl) rfl rfl eu ?_;(with_reducible refine(kJ.calls aA aC age _ A7.out).mono ?_);rintro e w' ⟨rfl,⟨nd,rfl⟩⟩;refine⟨_,rfl,?_⟩;refine hK.out _ _ (kY Tq) (fun hHeld=>?_);clear hK K;refine eP ?_))
  refine mW (iR HT_.out aK) ?_
  try go_wp2
  go_ret
  exact⟨nG,dN⟩):p:=h
theorem fH.calls (aA aC:Int) (aI bD:Int) (aU bZ:Int) (r:Bool) (w:World) (h:fH.f aA aC aI bD aU bZ=some r) :
  Calls Tryz.prog 202 #[.agg #[.int .i64 aA,.int .i64 aC,.int .i64 aI,.int .i64 bD,.int .i64 aU,.int .i64 bZ]] w fun e w'=>e = .returned (.bool r)∧Below w.heap.size w w':=by
 have GH:=Tryz.underlying117;have HB:=ae.mk (Below.refl w.heap.size w);have H:=h;clear h;unfold fH.f at H;replace H:=gI H;rcases H with⟨c2,-,-,H⟩|⟨c2,-,-,H⟩
 ·have nk:decide (1970≤aA)=true:=aT c2;clear c2;replace H:=gI H;rcases H with⟨-,gM,-,H⟩|⟨-,gM,-,H⟩
  ·replace H:=gI H;rcases H with⟨c4,-,-,H⟩|⟨c4,-,-,H⟩
   ·have mP:decide (1≤aC)=true:=aT c4;clear c4;replace H:=gI H;rcases H with⟨-,qh,-,H⟩|⟨-,qh,-,H⟩
    ·replace H:=gI H;rcases H with⟨c6,-,-,H⟩|⟨c6,-,-,H⟩
     ·have nW:decide (1≤aI)=true:=aT c6;clear c6;replace H:=gD H;obtain⟨age,A7,H⟩:=H;replace H:=gI H;rcases H with⟨-,tO,-,H⟩|⟨-,tO,-,H⟩
      ·replace H:=gI H;rcases H with⟨c9,-,-,H⟩|⟨c9,-,-,H⟩
       ·have xY:decide (0≤bD)=true:=aT c9;clear c9;replace H:=gI H;rcases H with⟨-,yS,-,H⟩|⟨-,yS,-,H⟩
        ·replace H:=gI H;rcases H with⟨c11,-,-,H⟩|⟨c11,-,-,H⟩
         ·have xA:decide (0≤aU)=true:=aT c11;clear c11;replace H:=gI H;rcases H with⟨-,wO,-,H⟩|⟨-,wO,-,H⟩
          ·replace H:=gI H;rcases H with⟨c13,-,-,H⟩|⟨c13,-,-,H⟩
           ·have zP:decide (0≤bZ)=true:=aT c13;clear c13;exact fH.e0
           ·have zP:decide (0≤bZ)=false:=aN c13;clear c13;exact fH.e0
          ·exact fH.e0
         ·have xA:decide (0≤aU)=false:=aN c11;clear c11;exact fH.e0
        ·exact fH.e0
       ·have xY:decide (0≤bD)=false:=aN c9;clear c9;exact fH.e0
      ·exact fH.e0
     ·have nW:decide (1≤aI)=false:=aN c6;clear c6;exact fH.e0
    ·exact fH.e0
   ·have mP:decide (1≤aC)=false:=aN c4;clear c4;exact fH.e0
  ·exact fH.e0
 ·have nk:decide (1970≤aA)=false:=aN c2;clear c2;exact fH.e0

end Go.Proofs.YtfhllanhldbkkaaGreatDoor.P
