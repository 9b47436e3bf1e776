import Derived.Test.YtfhllanhldbkkaaGreatDoorPx0
import Derived.Test.YtfhllanhldbkkaaGreatDoorPxspec01a
import Derived.Test.YtfhllanhldbkkaaGreatDoorPxspec02d
import Derived.Test.YtfhllanhldbkkaaGreatDoorWC
namespace Go.Proofs.YtfhllanhldbkkaaGreatDoor.P
set_option maxHeartbeats 8000000
set_option maxRecDepth 100000
open Go.RowKit Go.Proofs.YtfhllanhldbkkaaGreatDoorW.ax Go.Proofs.YtfhllanhldbkkaaGreatDoorW.aD Go.Proofs.YtfhllanhldbkkaaGreatDoorW.aH
attribute [local go_sem] nZ oh qI qJ mq mr om oo   -- for this text's walks alone
set_option linter.unusedVariables false
set_option linter.unusedSimpArgs false

def dQ.j0 : Nat→Int→ByteArray→Int→Int→Int→Int→Int→Int→Option (ByteArray)
 |0,_,_,_,_,_,_,_,_=>none
 |k+1,x0,x5,Y7,Y8,agu,agv,agw,agx=>(lg.f x0).bind fun Y9=>((kT.f Y9).bind fun sO=>(if 0≤3 then(if 3≤(sO.size:Int) then(if(sO.extract 0 3).size+1≤9223372036854775807 then((iI.f Y8).bind fun uQ=>(if((sO.extract 0 3)++(⟨#[32]⟩:af)).size+uQ.size≤9223372036854775807 then(if(((sO.extract 0 3)++(⟨#[32]⟩:af))++uQ).size+1≤9223372036854775807 then(if((((sO.extract 0 3)++(⟨#[32]⟩:af))++uQ)++(⟨#[32]⟩:af)).size+x5.size≤9223372036854775807 then(if(((((sO.extract 0 3)++(⟨#[32]⟩:af))++uQ)++(⟨#[32]⟩:af))++x5).size+1≤9223372036854775807 then((iY.f k Y7 Y8 agu agv agw agx).bind fun GR=>(if((((((sO.extract 0 3)++(⟨#[32]⟩:af))++uQ)++(⟨#[32]⟩:af))++x5)++(⟨#[32]⟩:af)).size+GR.size≤9223372036854775807 then(if(((((((sO.extract 0 3)++(⟨#[32]⟩:af))++uQ)++(⟨#[32]⟩:af))++x5)++(⟨#[32]⟩:af))++GR).size+1≤9223372036854775807 then((eT.f k Y7 4).bind fun Ty=>(if((((((((sO.extract 0 3)++(⟨#[32]⟩:af))++uQ)++(⟨#[32]⟩:af))++x5)++(⟨#[32]⟩:af))++GR)++(⟨#[32]⟩:af)).size+Ty.size≤9223372036854775807 then(some (((((((((sO.extract 0 3)++(⟨#[32]⟩:af))++uQ)++(⟨#[32]⟩:af))++x5)++(⟨#[32]⟩:af))++GR)++(⟨#[32]⟩:af))++Ty)) else(none))) else(none)) else(none))) else(none)) else(none)) else(none)) else(none))) else(none)) else(none)) else(none)))
def dQ.f (k:Nat) (a0:Int):Option (ByteArray):=(cO.f k a0).bind fun Aq=>(if Aq.2.2.2.2.2.2=true then((eT.f k Aq.2.2.1 2).bind fun ab3=>(if Aq.2.2.1<10 then((bU.f k Aq.2.2.1).bind fun Vp=>(if 1+Vp.size≤9223372036854775807 then(dQ.j0 k a0 ((⟨#[32]⟩:af)++Vp) Aq.1 Aq.2.1 Aq.2.2.1 Aq.2.2.2.1 Aq.2.2.2.2.1 Aq.2.2.2.2.2.1) else(none))) else(dQ.j0 k a0 ab3 Aq.1 Aq.2.1 Aq.2.2.1 Aq.2.2.2.1 Aq.2.2.2.2.1 Aq.2.2.2.2.2.1))) else(some (⟨#[]⟩:af)))
def dQ.T7 : Bool×List (List Nat×List Nat):=(true,[([],[]),([0],[0]),([1,1],[1]),([2],[2]),([3],[3]),([],[]),([5],[5]),([6,2],[6]),([4,7],[4,7]),([8],[8]),([],[]),([9,10],[9,10]),([11],[11]),([],[]),([13,7],[13]),([12,14],[12,14]),([15],[15]),([],[]),([17],[17]),([18,14],[18]),([16,19],[16,19]),([20,19,0,1,2,3,4,5,6,7,8,9,10,11,12,13,14,15,16,17,18,19,20],[20])])
def dQ.B7 : List Nat:=[0,1,3,7,15,0,32,103,255,511,0,2047,4095,0,8423,32767,65535,0,131072,418023,1048575,2097151]
theorem dQ.acH : rP .any (opsOf Tryz.f118 7)=dQ.T7:=by kernel_rfl
theorem dQ.U1 : kD dQ.T7.2 dQ.B7=true:=by kernel_rfl
theorem dQ.calls (k:Nat) (a0:Int) (r:ByteArray) (w:World) (h:dQ.f k a0=some r) :
  Calls Tryz.prog 118 #[.int .i64 a0] w fun e w'=>e = .returned (.string r)∧Below w.heap.size w w':=by
 have GH:=Tryz.underlying117;have HB:=ae.mk (Below.refl w.heap.size w);have H:=h;clear h;unfold dQ.f at H;replace H:=gD H;obtain⟨⟨Mq,Mr,JW,Qk,Ql,Qm,ax2⟩,A2,H⟩:=H;dsimp only at H;replace H:=gB H;rcases H with⟨rfl,H⟩|⟨rfl,H⟩
 ·replace H:=gD H;obtain⟨ab3,A4,H⟩:=H;have HC5:=ae.mk H;clear H;go_enter Tryz.func118,Tryz.ntmps118;go_upto_if 18 with(first|((with_reducible refine ag (f:=161) rfl ?_);refine aG (some 8) rfl rfl Tryz.func161 aK rfl #[.int .i64 a0] rfl eu ?_;(with_reducible refine(cO.calls k a0 Mq Mr JW Qk Ql Qm true _ A2.out).mono ?_);rintro e w6 ⟨rfl,hb⟩;refine⟨_,rfl,?_⟩;have o7:=dS hb;clear HB;have HB:=o7;clear o7;(try clear hb))|((with_reducible refine aY (N:=3) rfl ?_);refine jX #[.int .i64 0,.int .i64 0,.int .i64 0,.int .i64 0,.int .i64 0,.int .i64 0] 117 ?_;intro FE hg w7 hbox hb;have o7:=dS hb;have qG:=ae.mk (hbox);have Bi:=jL hg;have R8:=jL hg;clear HB;have HB:=o7;have tT:=qG;have amZ:=Bi;have am0:=R8;clear o7 qG Bi R8;clear hb hbox hg;obtain⟨_,_,_,_,_,_⟩:=kY tT;obtain⟨_,_,_,_,_,_⟩:=qK tT)|((with_reducible refine ag (f:=164) rfl ?_);refine aG (some 15) rfl rfl Tryz.func164 aK rfl #[.int .i64 JW,.int .i64 2] rfl eu ?_;(with_reducible refine(eT.calls k JW 2 ab3 _ A4.out).mono ?_);rintro e w9 ⟨rfl,hb⟩;refine⟨_,rfl,?_⟩;have o7:=iG (g:=FE) (o:=.cells #[.int .i64 Mq,.int .i64 Mr,.int .i64 JW,.int .i64 Qk,.int .i64 Ql,.int .i64 Qm] 117 (0,0)) hb;have qG:=dS hb;clear tT;clear HB;have tT:=o7;have HB:=qG;clear o7 qG;(try clear hb);obtain⟨_,_,_,_,_,_⟩:=kY tT;obtain⟨_,_,_,_,_,_⟩:=qK tT));(try simp only[Act.put,List.setIfInBounds_toArray,List.set_cons_zero,List.set_cons_succ])
  go_cut [5] (fun v5 wc=>∃(kq:Nat) (J2:ByteArray),v5 = .string J2∧ae (dQ.j0 kq a0 J2 Mq Mr JW Qk Ql Qm=some r)∧ae (kq≤k)∧ae (wc.heap[FE]? = some (.cells #[.int .i64 Mq,.int .i64 Mr,.int .i64 JW,.int .i64 Qk,.int .i64 Ql,.int .i64 Qm] 117 (0,0)))∧ae (Below w.heap.size w wc))
  case first=>
   have H:=HC5.out;clear HC5;replace H:=gI H;rcases H with⟨-,xA,-,H⟩|⟨-,xA,-,H⟩
   ·(first|rw[xA]|(simp only[iE,jF];rw[xA])|skip)
    replace H:=gD H;obtain⟨Vp,LU,H⟩:=H;replace H:=gN H;obtain⟨c13,H9,zP,H⟩:=H;try have abH:(9223372036854775807<1+Vp.size)=False:=eq_false (Nat.not_lt.2 c13)
    have H':=ae.mk H;clear H;obtain⟨_,_,_,_,_,_⟩:=kY tT;obtain⟨_,_,_,_,_,_⟩:=qK tT;go_wp2_with(((with_reducible refine ag (f:=102) rfl ?_);refine aG (some 21) rfl rfl Tryz.func102 aK rfl #[.int .i64 JW] rfl eu ?_;(with_reducible refine(bU.calls k JW Vp _ LU.out).mono ?_);rintro e jm ⟨rfl,hb⟩;refine⟨_,rfl,?_⟩;replace tT:=iG (g:=FE) hb;replace HB:=dS hb;(try clear hb)));go_meet
    case rel=>exact⟨_,((⟨#[32]⟩:af)++Vp),fI,H',⟨EC⟩,⟨yg⟩,⟨dN⟩⟩
   ·(first|rw[xA]|(simp only[iE,jF];rw[xA])|skip)
    have H':=ae.mk H;clear H;go_wp2;go_meet
    case rel=>exact⟨_,(ab3),fI,H',⟨EC⟩,⟨yg⟩,⟨dN⟩⟩
  case rest=>
   clear HC5;obtain⟨kq,J2,rfl,HA,HJ4,tT,HB⟩:=hcut;cases kq with
   |zero=>exact absurd HA.out (by simp[dQ.j0])
   |succ kj4=>
    have H:=HA.out;clear HA;simp only[dQ.j0] at H;replace H:=gD H;obtain⟨Y9,A16,H⟩:=H;replace H:=gD H;obtain⟨sO,ZN,H⟩:=H;replace H:=gN H;obtain⟨-,ajZ,Sy,H⟩:=H;replace H:=gN H;obtain⟨-,U3,Mc,H⟩:=H;replace H:=gN H;obtain⟨c20,Oo,Ex,H⟩:=H;try have X4:(9223372036854775807<(sO.extract 0 3).size+1)=False:=eq_false (Nat.not_lt.2 c20)
    try have apw:(9223372036854775807<min 3 sO.size+1)=False:=by have h_:=X4;simpa only[ByteArray.size_extract,Nat.sub_zero] using h_
    replace H:=gD H;obtain⟨uQ,A21,H⟩:=H;replace H:=gN H;obtain⟨c22,UU,UW,H⟩:=H;try have ajw:(9223372036854775807<((sO.extract 0 3)++(⟨#[32]⟩:af)).size+uQ.size)=False:=eq_false (Nat.not_lt.2 c22)
    try have abK:(9223372036854775807<(sO.extract 0 3).size+1+uQ.size)=False:=by have h_:=c22;simp only[ByteArray.size_append] at h_;exact eq_false (Nat.not_lt.2 h_)
    try have atO:(9223372036854775807<min 3 sO.size+1+uQ.size)=False:=by have h_:=abK;simpa only[ByteArray.size_extract,Nat.sub_zero] using h_
    replace H:=gN H;obtain⟨c23,U7,SE,H⟩:=H;try have ajx:(9223372036854775807<(((sO.extract 0 3)++(⟨#[32]⟩:af))++uQ).size+1)=False:=eq_false (Nat.not_lt.2 c23)
    try have abL:(9223372036854775807<(sO.extract 0 3).size+1+uQ.size+1)=False:=by have h_:=c23;simp only[ByteArray.size_append] at h_;exact eq_false (Nat.not_lt.2 h_)
    try have atP:(9223372036854775807<min 3 sO.size+1+uQ.size+1)=False:=by have h_:=abL;simpa only[ByteArray.size_extract,Nat.sub_zero] using h_
    replace H:=gN H;obtain⟨c24,SX,H6,H⟩:=H;try have ajB:(9223372036854775807<((((sO.extract 0 3)++(⟨#[32]⟩:af))++uQ)++(⟨#[32]⟩:af)).size+J2.size)=False:=eq_false (Nat.not_lt.2 c24)
    try have afu:(9223372036854775807<(sO.extract 0 3).size+1+uQ.size+1+J2.size)=False:=by have h_:=c24;simp only[ByteArray.size_append] at h_;exact eq_false (Nat.not_lt.2 h_)
    try have azF:(9223372036854775807<min 3 sO.size+1+uQ.size+1+J2.size)=False:=by have h_:=afu;simpa only[ByteArray.size_extract,Nat.sub_zero] using h_
    replace H:=gN H;obtain⟨P7,SV,Fs,H⟩:=H;try have afp:(9223372036854775807<(((((sO.extract 0 3)++(⟨#[32]⟩:af))++uQ)++(⟨#[32]⟩:af))++J2).size+1)=False:=eq_false (Nat.not_lt.2 P7)
    try have abM:(9223372036854775807<(sO.extract 0 3).size+1+uQ.size+1+J2.size+1)=False:=by have h_:=P7;simp only[ByteArray.size_append] at h_;exact eq_false (Nat.not_lt.2 h_)
    try have atQ:(9223372036854775807<min 3 sO.size+1+uQ.size+1+J2.size+1)=False:=by have h_:=abM;simpa only[ByteArray.size_extract,Nat.sub_zero] using h_
    replace H:=gD H;obtain⟨GR,A26,H⟩:=H;replace H:=gN H;obtain⟨c27,abh,Oq,H⟩:=H;try have aeO:(9223372036854775807<((((((sO.extract 0 3)++(⟨#[32]⟩:af))++uQ)++(⟨#[32]⟩:af))++J2)++(⟨#[32]⟩:af)).size+GR.size)=False:=eq_false (Nat.not_lt.2 c27)
    try have abj:(9223372036854775807<(sO.extract 0 3).size+1+uQ.size+1+J2.size+1+GR.size)=False:=by have h_:=c27;simp only[ByteArray.size_append] at h_;exact eq_false (Nat.not_lt.2 h_)
    try have ato:(9223372036854775807<min 3 sO.size+1+uQ.size+1+J2.size+1+GR.size)=False:=by have h_:=abj;simpa only[ByteArray.size_extract,Nat.sub_zero] using h_
    replace H:=gN H;obtain⟨c28,XJ,SA,H⟩:=H;try have aji:(9223372036854775807<(((((((sO.extract 0 3)++(⟨#[32]⟩:af))++uQ)++(⟨#[32]⟩:af))++J2)++(⟨#[32]⟩:af))++GR).size+1)=False:=eq_false (Nat.not_lt.2 c28)
    try have abk:(9223372036854775807<(sO.extract 0 3).size+1+uQ.size+1+J2.size+1+GR.size+1)=False:=by have h_:=c28;simp only[ByteArray.size_append] at h_;exact eq_false (Nat.not_lt.2 h_)
    try have atp:(9223372036854775807<min 3 sO.size+1+uQ.size+1+J2.size+1+GR.size+1)=False:=by have h_:=abk;simpa only[ByteArray.size_extract,Nat.sub_zero] using h_
    replace H:=gD H;obtain⟨Ty,A29,H⟩:=H;replace H:=gN H;obtain⟨c30,ab0,YE,H⟩:=H;try have ar6:(9223372036854775807<((((((((sO.extract 0 3)++(⟨#[32]⟩:af))++uQ)++(⟨#[32]⟩:af))++J2)++(⟨#[32]⟩:af))++GR)++(⟨#[32]⟩:af)).size+Ty.size)=False:=eq_false (Nat.not_lt.2 c30)
    try have akj:(9223372036854775807<(sO.extract 0 3).size+1+uQ.size+1+J2.size+1+GR.size+1+Ty.size)=False:=by have h_:=c30;simp only[ByteArray.size_append] at h_;exact eq_false (Nat.not_lt.2 h_)
    try have azG:(9223372036854775807<min 3 sO.size+1+uQ.size+1+J2.size+1+GR.size+1+Ty.size)=False:=by have h_:=akj;simpa only[ByteArray.size_extract,Nat.sub_zero] using h_
    obtain rfl:=cu H;try go_wp2
    replace tT:=ae.mk (bJ tT.out);replace HB:=ae.mk (di HB.out);refine lL (n:=22) (S:=fun w'=>w'.cell? ⟨FE,0,none⟩=some (.int .i64 Mq)∧w'.cell? ⟨FE,1,none⟩=some (.int .i64 Mr)∧w'.cell? ⟨FE,2,none⟩=some (.int .i64 JW)∧w'.cell? ⟨FE,3,none⟩=some (.int .i64 Qk)∧w'.cell? ⟨FE,4,none⟩=some (.int .i64 Ql)∧w'.cell? ⟨FE,5,none⟩=some (.int .i64 Qm)) (ds:=[]) (kY tT) (fun hHeld=>?_);refine fu dQ.acH dQ.U1 (fun HT_ HW_=>?_);generalize wc.drew=ku at tT HB hHeld ⊢;repeat(first|refine fA ?_)
    refine dn 5 (some 28) ?_;refine iC 6 (some 29) (hy:=Or.inl ⟨by rfl,VI⟩) ?_;refine dn 10 (some 33) ?_;refine iC 13 (some 36) (hy:=Or.inl ⟨by rfl,VI⟩) ?_;refine dn 17 (some 40) ?_;refine iC 18 (some 41) (hy:=Or.inl ⟨by rfl,VI⟩) ?_;refine iM (fun K hK=>?_);refine dV Tryz.func163 aK rfl #[.int .i64 a0] (by rfl) rfl rfl eu ?_;(with_reducible refine(lg.calls a0 Y9 _ A16.out).mono ?_);rintro e w' ⟨rfl,⟨nd,rfl⟩⟩;refine⟨_,rfl,?_⟩;refine hK.out _ _ (kY tT) (fun hHeld=>?_);clear hK K;refine eP ?_;refine iM (fun K hK=>?_);refine dV Tryz.func162 aK rfl #[.int .i64 Y9] (by rfl) rfl rfl eu ?_;(with_reducible refine(kT.calls Y9 sO _ ZN.out).mono ?_);rintro e w' ⟨rfl,⟨nd,rfl⟩⟩;refine⟨_,rfl,?_⟩;refine hK.out _ _ (kY tT) (fun hHeld=>?_);clear hK K;refine eP ?_;repeat(first|refine fA ?_)
    refine iM (fun K hK=>?_);refine dV Tryz.func160 aK rfl #[.int .i64 Mr] (by rfl) rfl rfl eu ?_;(with_reducible refine(iI.calls Mr uQ _ A21.out).mono ?_);rintro e w' ⟨rfl,⟨nd,rfl⟩⟩;refine⟨_,rfl,?_⟩;refine hK.out _ _ (kY tT) (fun hHeld=>?_);clear hK K;refine eP ?_;repeat(first|refine fA ?_)
    refine iM (fun K hK=>?_);refine dV Tryz.func165 aK rfl #[.agg #[.int .i64 Mq,.int .i64 Mr,.int .i64 JW,.int .i64 Qk,.int .i64 Ql,.int .i64 Qm]] (by rfl) rfl rfl eu ?_;(with_reducible refine(iY.calls kj4 Mq Mr JW Qk Ql Qm GR _ A26.out).mono ?_);rintro e pU ⟨rfl,hb⟩;refine⟨_,rfl,?_⟩;replace tT:=iG (g:=FE) hb;replace HB:=dS hb;(try clear hb)
    (try clear hb2)
    (try clear hk)
    (try clear hi)
    refine hK.out _ _ (kY tT) (fun hHeld=>?_);clear hK K;refine eP ?_;repeat(first|refine fA ?_)
    refine iM (fun K hK=>?_);refine dV Tryz.func164 aK rfl #[.int .i64 Mq,.int .i64 4] (by rfl) rfl rfl eu ?_;(with_reducible refine(eT.calls kj4 Mq 4 Ty _ A29.out).mono ?_);rintro e pU ⟨rfl,hb⟩;refine⟨_,rfl,?_⟩;replace tT:=iG (g:=FE) hb;replace HB:=dS hb;(try clear hb)
    (try clear hb2)
    (try clear hk)
    (try clear hi)
    refine hK.out _ _ (kY tT) (fun hHeld=>?_);clear hK K;refine eP ?_;repeat(first|refine fA ?_)
    refine mW (iR HT_.out aK) ?_;try go_wp2
    go_ret;exact⟨nG,dN⟩
 ·obtain rfl:=cu H;go_enter Tryz.func118,Tryz.ntmps118;go_wp2_with(first|((with_reducible refine ag (f:=161) rfl ?_);refine aG (some 8) rfl rfl Tryz.func161 aK rfl #[.int .i64 a0] rfl eu ?_;(with_reducible refine(cO.calls k a0 Mq Mr JW Qk Ql Qm false _ A2.out).mono ?_);rintro e Aa ⟨rfl,hb⟩;refine⟨_,rfl,?_⟩;replace HB:=dS hb;(try clear hb))|((with_reducible refine aY (N:=3) rfl ?_);refine jX #[.int .i64 0,.int .i64 0,.int .i64 0,.int .i64 0,.int .i64 0,.int .i64 0] 117 ?_;intro FE hg zO hbox hb;have tT:=ae.mk (hbox);have amZ:=jL hg;have am0:=jL hg;replace HB:=dS hb;clear hb hbox hg;obtain⟨_,_,_,_,_,_⟩:=kY tT;obtain⟨_,_,_,_,_,_⟩:=qK tT));go_ret;exact⟨nG,dN⟩


def dR.j0 : Nat→Int→Bool→Int→Int→Int→Int→Int→Int→Option (ByteArray)
 |0,_,_,_,_,_,_,_,_=>none
 |k+1,x0,x16,Za,Zb,Zc,agy,agz,agA=>if x16=true then(some (⟨#[]⟩:af)) else((lg.f x0).bind fun Zd=>((kT.f Zd).bind fun wJ=>(if wJ.size+2≤9223372036854775807 then((eT.f k Zc 2).bind fun xH=>(if(wJ++(⟨#[44,32]⟩:af)).size+xH.size≤9223372036854775807 then(if((wJ++(⟨#[44,32]⟩:af))++xH).size+1≤9223372036854775807 then((iI.f Zb).bind fun Bn=>(if(((wJ++(⟨#[44,32]⟩:af))++xH)++(⟨#[45]⟩:af)).size+Bn.size≤9223372036854775807 then(if((((wJ++(⟨#[44,32]⟩:af))++xH)++(⟨#[45]⟩:af))++Bn).size+1≤9223372036854775807 then((eT.f k (Int.tmod Za 100) 2).bind fun GU=>(if(((((wJ++(⟨#[44,32]⟩:af))++xH)++(⟨#[45]⟩:af))++Bn)++(⟨#[45]⟩:af)).size+GU.size≤9223372036854775807 then(if((((((wJ++(⟨#[44,32]⟩:af))++xH)++(⟨#[45]⟩:af))++Bn)++(⟨#[45]⟩:af))++GU).size+1≤9223372036854775807 then((iY.f k Za Zb Zc agy agz agA).bind fun OM=>(if(((((((wJ++(⟨#[44,32]⟩:af))++xH)++(⟨#[45]⟩:af))++Bn)++(⟨#[45]⟩:af))++GU)++(⟨#[32]⟩:af)).size+OM.size≤9223372036854775807 then(if((((((((wJ++(⟨#[44,32]⟩:af))++xH)++(⟨#[45]⟩:af))++Bn)++(⟨#[45]⟩:af))++GU)++(⟨#[32]⟩:af))++OM).size+4≤9223372036854775807 then(some (((((((((wJ++(⟨#[44,32]⟩:af))++xH)++(⟨#[45]⟩:af))++Bn)++(⟨#[45]⟩:af))++GU)++(⟨#[32]⟩:af))++OM)++(⟨#[32,71,77,84]⟩:af))) else(none)) else(none))) else(none)) else(none))) else(none)) else(none))) else(none)) else(none))) else(none))))
def dR.f (k:Nat) (a0:Int):Option (ByteArray):=(cO.f k a0).bind fun Eh=>(if Eh.2.2.2.2.2.2=true then(dR.j0 k a0 (decide (Eh.1>2069)) Eh.1 Eh.2.1 Eh.2.2.1 Eh.2.2.2.1 Eh.2.2.2.2.1 Eh.2.2.2.2.2.1) else(dR.j0 k a0 true Eh.1 Eh.2.1 Eh.2.2.1 Eh.2.2.2.1 Eh.2.2.2.2.1 Eh.2.2.2.2.2.1))
def dR.T4 : Bool×List (List Nat×List Nat):=(true,[([],[]),([0],[0]),([1,1],[1]),([2],[2]),([],[]),([4],[4]),([5,2],[5]),([3,6],[3,6]),([7],[7]),([],[]),([9],[9]),([10,6],[10]),([8,11],[8,11]),([12],[12]),([],[]),([14],[14]),([15],[15]),([16,11],[16]),([13,17],[13,17]),([18],[18]),([],[]),([20,17],[20]),([19,21],[19,21]),([22],[22]),([23,21,0,1,2,3,4,5,6,7,8,9,10,11,12,13,14,15,16,17,18,19,20,21,22,23],[23])])
def dR.B4 : List Nat:=[0,1,3,7,0,16,55,127,255,0,512,1655,4095,8191,0,16384,49152,118391,262143,524287,0,1298039,4194303,8388607,16777215]
theorem dR.aaA : rP .any (opsOf Tryz.f119 4)=dR.T4:=by kernel_rfl
theorem dR.SS : kD dR.T4.2 dR.B4=true:=by kernel_rfl
theorem dR.calls (k:Nat) (a0:Int) (r:ByteArray) (w:World) (h:dR.f k a0=some r) :
  Calls Tryz.prog 119 #[.int .i64 a0] w fun e w'=>e = .returned (.string r)∧Below w.heap.size w w':=by
 have GH:=Tryz.underlying117;have HB:=ae.mk (Below.refl w.heap.size w);have H:=h;clear h;unfold dR.f at H;replace H:=gD H;obtain⟨⟨OO,Qn,Qo,Vq,Vr,Vs,ase⟩,A2,H⟩:=H;dsimp only at H;have ZT:=ae.mk H;clear H;go_enter Tryz.func119,Tryz.ntmps119;go_upto_region 2 with(first|((with_reducible refine ag (f:=161) rfl ?_);refine aG (some 7) rfl rfl Tryz.func161 aK rfl #[.int .i64 a0] rfl eu ?_;(with_reducible refine(cO.calls k a0 OO Qn Qo Vq Vr Vs ase _ A2.out).mono ?_);rintro e w4 ⟨rfl,hb⟩;refine⟨_,rfl,?_⟩;replace HB:=dS hb;(try clear hb))|((with_reducible refine aY (N:=3) rfl ?_);refine jX #[.int .i64 0,.int .i64 0,.int .i64 0,.int .i64 0,.int .i64 0,.int .i64 0] 117 ?_;intro Iz hg w5 hbox hb;have yL:=ae.mk (hbox);have auI:=jL hg;replace HB:=dS hb;clear hb hbox hg;obtain⟨_,_,_,_,_,_⟩:=kY yL;obtain⟨_,_,_,_,_,_⟩:=qK yL));(try simp only[Act.put,List.setIfInBounds_toArray,List.set_cons_zero,List.set_cons_succ])
 go_cut [16] (fun v16 wc=>∃(kq:Nat) (agB:Bool),v16 = .bool agB∧ae (dR.j0 kq a0 agB OO Qn Qo Vq Vr Vs=some r)∧ae (kq≤k)∧ae (wc.heap[Iz]? = some (.cells #[.int .i64 OO,.int .i64 Qn,.int .i64 Qo,.int .i64 Vq,.int .i64 Vr,.int .i64 Vs] 117 (0,0)))∧ae (Below w.heap.size w wc))
 case first=>
  have H:=ZT.out;clear ZT;replace H:=gB H;rcases H with⟨rfl,H⟩|⟨rfl,H⟩
  ·have H':=ae.mk H;clear H;obtain⟨_,_,_,_,_,_⟩:=kY yL;obtain⟨_,_,_,_,_,_⟩:=qK yL;go_wp2;go_meet
   case rel=>exact⟨_,(decide (OO>2069)),fI,H',⟨EC⟩,⟨yg⟩,⟨dN⟩⟩
  ·have H':=ae.mk H;clear H;go_wp2;go_meet
   case rel=>exact⟨_,(true),fI,H',⟨EC⟩,⟨yg⟩,⟨dN⟩⟩
 case rest=>
  clear ZT;obtain⟨kq,agB,rfl,HA,HJ2,yL,HB⟩:=hcut;cases kq with
  |zero=>exact absurd HA.out (by simp[dR.j0])
  |succ MO=>
   have H:=HA.out;clear HA;simp only[dR.j0] at H;replace H:=gB H;rcases H with⟨rfl,H⟩|⟨rfl,H⟩
   ·obtain rfl:=cu H;go_wp2;go_ret;exact⟨nG,dN⟩
   ·replace H:=gD H;obtain⟨Zd,PS,H⟩:=H;replace H:=gD H;obtain⟨wJ,UG,H⟩:=H;replace H:=gI H;rcases H with⟨c12,KZ,wO,H⟩|⟨c12,-,-,H⟩
    ·try have ar5:(9223372036854775807<wJ.size+2)=False:=eq_false (Nat.not_lt.2 c12)
     replace H:=gD H;obtain⟨xH,QF,H⟩:=H;replace H:=gN H;obtain⟨c14,U2,Ma,H⟩:=H;try have abg:(9223372036854775807<(wJ++(⟨#[44,32]⟩:af)).size+xH.size)=False:=eq_false (Nat.not_lt.2 c14)
     try have abJ:(9223372036854775807<wJ.size+2+xH.size)=False:=by have h_:=c14;simp only[ByteArray.size_append] at h_;exact eq_false (Nat.not_lt.2 h_)
     replace H:=gN H;obtain⟨c15,LZ,Ew,H⟩:=H;try have apE:(9223372036854775807<((wJ++(⟨#[44,32]⟩:af))++xH).size+1)=False:=eq_false (Nat.not_lt.2 c15)
     try have apF:(9223372036854775807<wJ.size+2+xH.size+1)=False:=by have h_:=c15;simp only[ByteArray.size_append] at h_;exact eq_false (Nat.not_lt.2 h_)
     replace H:=gD H;obtain⟨Bn,A16,H⟩:=H;replace H:=gN H;obtain⟨c17,JQ,Bh,H⟩:=H;try have asf:(9223372036854775807<(((wJ++(⟨#[44,32]⟩:af))++xH)++(⟨#[45]⟩:af)).size+Bn.size)=False:=eq_false (Nat.not_lt.2 c17)
     try have akl:(9223372036854775807<wJ.size+2+xH.size+1+Bn.size)=False:=by have h_:=c17;simp only[ByteArray.size_append] at h_;exact eq_false (Nat.not_lt.2 h_)
     replace H:=gN H;obtain⟨c18,ajZ,Sy,H⟩:=H;try have ax3:(9223372036854775807<((((wJ++(⟨#[44,32]⟩:af))++xH)++(⟨#[45]⟩:af))++Bn).size+1)=False:=eq_false (Nat.not_lt.2 c18)
     try have ax4:(9223372036854775807<wJ.size+2+xH.size+1+Bn.size+1)=False:=by have h_:=c18;simp only[ByteArray.size_append] at h_;exact eq_false (Nat.not_lt.2 h_)
     replace H:=gD H;obtain⟨GU,A19,H⟩:=H;replace H:=gN H;obtain⟨c20,Oo,Ex,H⟩:=H;try have X4:(9223372036854775807<(((((wJ++(⟨#[44,32]⟩:af))++xH)++(⟨#[45]⟩:af))++Bn)++(⟨#[45]⟩:af)).size+GU.size)=False:=eq_false (Nat.not_lt.2 c20)
     try have X5:(9223372036854775807<wJ.size+2+xH.size+1+Bn.size+1+GU.size)=False:=by have h_:=c20;simp only[ByteArray.size_append] at h_;exact eq_false (Nat.not_lt.2 h_)
     replace H:=gN H;obtain⟨c21,L8,Ey,H⟩:=H;try have aeM:(9223372036854775807<((((((wJ++(⟨#[44,32]⟩:af))++xH)++(⟨#[45]⟩:af))++Bn)++(⟨#[45]⟩:af))++GU).size+1)=False:=eq_false (Nat.not_lt.2 c21)
     try have apH:(9223372036854775807<wJ.size+2+xH.size+1+Bn.size+1+GU.size+1)=False:=by have h_:=c21;simp only[ByteArray.size_append] at h_;exact eq_false (Nat.not_lt.2 h_)
     replace H:=gD H;obtain⟨OM,A22,H⟩:=H;replace H:=gN H;obtain⟨c23,U7,SE,H⟩:=H;try have ajx:(9223372036854775807<(((((((wJ++(⟨#[44,32]⟩:af))++xH)++(⟨#[45]⟩:af))++Bn)++(⟨#[45]⟩:af))++GU)++(⟨#[32]⟩:af)).size+OM.size)=False:=eq_false (Nat.not_lt.2 c23)
     try have abL:(9223372036854775807<wJ.size+2+xH.size+1+Bn.size+1+GU.size+1+OM.size)=False:=by have h_:=c23;simp only[ByteArray.size_append] at h_;exact eq_false (Nat.not_lt.2 h_)
     replace H:=gN H;obtain⟨c24,SX,H6,H⟩:=H;try have ajB:(9223372036854775807<((((((((wJ++(⟨#[44,32]⟩:af))++xH)++(⟨#[45]⟩:af))++Bn)++(⟨#[45]⟩:af))++GU)++(⟨#[32]⟩:af))++OM).size+4)=False:=eq_false (Nat.not_lt.2 c24)
     try have afu:(9223372036854775807<wJ.size+2+xH.size+1+Bn.size+1+GU.size+1+OM.size+4)=False:=by have h_:=c24;simp only[ByteArray.size_append] at h_;exact eq_false (Nat.not_lt.2 h_)
     obtain rfl:=cu H;try go_wp2
     replace yL:=ae.mk (bJ yL.out);replace HB:=ae.mk (di HB.out);refine lL (n:=25) (S:=fun w'=>w'.cell? ⟨Iz,0,none⟩=some (.int .i64 OO)∧w'.cell? ⟨Iz,1,none⟩=some (.int .i64 Qn)∧w'.cell? ⟨Iz,2,none⟩=some (.int .i64 Qo)∧w'.cell? ⟨Iz,3,none⟩=some (.int .i64 Vq)∧w'.cell? ⟨Iz,4,none⟩=some (.int .i64 Vr)∧w'.cell? ⟨Iz,5,none⟩=some (.int .i64 Vs)) (ds:=[]) (kY yL) (fun hHeld=>?_);refine fu dR.aaA dR.SS (fun HT_ HW_=>?_);generalize wc.drew=jm at yL HB hHeld ⊢;repeat(first|refine fA ?_)
     refine dn 4 (some 21) ?_;refine iC 5 (some 22) (hy:=Or.inl ⟨by rfl,VI⟩) ?_;refine dn 9 (some 26) ?_;refine iC 10 (some 27) (hy:=Or.inl ⟨by rfl,VI⟩) ?_;refine dn 14 (some 31) ?_;refine iC 15 (some 32) (hy:=Or.inl ⟨by rfl,VI⟩) ?_;refine dn 16 (some 33) ?_;refine iC 20 (some 37) (hy:=Or.inl ⟨by rfl,VI⟩) ?_;refine iM (fun K hK=>?_);refine dV Tryz.func163 aK rfl #[.int .i64 a0] (by rfl) rfl rfl eu ?_;(with_reducible refine(lg.calls a0 Zd _ PS.out).mono ?_);rintro e w' ⟨rfl,⟨nd,rfl⟩⟩;refine⟨_,rfl,?_⟩;refine hK.out _ _ (kY yL) (fun hHeld=>?_);clear hK K;refine eP ?_;refine iM (fun K hK=>?_);refine dV Tryz.func162 aK rfl #[.int .i64 Zd] (by rfl) rfl rfl eu ?_;(with_reducible refine(kT.calls Zd wJ _ UG.out).mono ?_);rintro e w' ⟨rfl,⟨nd,rfl⟩⟩;refine⟨_,rfl,?_⟩;refine hK.out _ _ (kY yL) (fun hHeld=>?_);clear hK K;refine eP ?_;repeat(first|refine fA ?_)
     refine iM (fun K hK=>?_);refine dV Tryz.func164 aK rfl #[.int .i64 Qo,.int .i64 2] (by rfl) rfl rfl eu ?_;(with_reducible refine(eT.calls MO Qo 2 xH _ QF.out).mono ?_);rintro e ku ⟨rfl,hb⟩;refine⟨_,rfl,?_⟩;replace yL:=iG (g:=Iz) hb;replace HB:=dS hb;(try clear hb)
     (try clear hb2)
     (try clear hk)
     (try clear hi)
     refine hK.out _ _ (kY yL) (fun hHeld=>?_);clear hK K;refine eP ?_;repeat(first|refine fA ?_)
     refine iM (fun K hK=>?_);refine dV Tryz.func160 aK rfl #[.int .i64 Qn] (by rfl) rfl rfl eu ?_;(with_reducible refine(iI.calls Qn Bn _ A16.out).mono ?_);rintro e w' ⟨rfl,⟨nd,rfl⟩⟩;refine⟨_,rfl,?_⟩;refine hK.out _ _ (kY yL) (fun hHeld=>?_);clear hK K;refine eP ?_;repeat(first|refine fA ?_)
     refine iM (fun K hK=>?_);refine dV Tryz.func164 aK rfl #[.int .i64 (Int.tmod OO 100),.int .i64 2] (by rfl) rfl rfl eu ?_;(with_reducible refine(eT.calls MO (Int.tmod OO 100) 2 GU _ A19.out).mono ?_);rintro e ku ⟨rfl,hb⟩;refine⟨_,rfl,?_⟩;replace yL:=iG (g:=Iz) hb;replace HB:=dS hb;(try clear hb)
     (try clear hb2)
     (try clear hk)
     (try clear hi)
     refine hK.out _ _ (kY yL) (fun hHeld=>?_);clear hK K;refine eP ?_;repeat(first|refine fA ?_)
     refine iM (fun K hK=>?_);refine dV Tryz.func165 aK rfl #[.agg #[.int .i64 OO,.int .i64 Qn,.int .i64 Qo,.int .i64 Vq,.int .i64 Vr,.int .i64 Vs]] (by rfl) rfl rfl eu ?_;(with_reducible refine(iY.calls MO OO Qn Qo Vq Vr Vs OM _ A22.out).mono ?_);rintro e ku ⟨rfl,hb⟩;refine⟨_,rfl,?_⟩;replace yL:=iG (g:=Iz) hb;replace HB:=dS hb;(try clear hb)
     (try clear hb2)
     (try clear hk)
     (try clear hi)
     refine hK.out _ _ (kY yL) (fun hHeld=>?_);clear hK K;refine eP ?_;repeat(first|refine fA ?_)
     refine mW (iR HT_.out aK) ?_;try go_wp2
     go_ret;exact⟨nG,dN⟩
    ·exact absurd H (by simp)


mutual
def ah.j0 : Nat→ByteArray→Option (Int×Bool)
 |0,_=>none
 |k+1,x0=>if(x0.size:Int)=24 then(if 20≤24 then(if 24≤(x0.size:Int) then((aX.f k (x0.extract 20 24)).bind fun Qp=>(if 4≤7 then(if 7≤(x0.size:Int) then((eU.f k (x0.extract 4 7)).bind fun Qq=>(if 8≤10 then(if 10≤(x0.size:Int) then((aX.f k (x0.extract 8 10)).bind fun Qr=>(if 11≤19 then(if 19≤(x0.size:Int) then((jd.f k Qp Qq Qr (x0.extract 11 19)).bind fun OP=>((dQ.f k OP).bind fun ab4=>(if ab4.toList=x0.toList then(some (OP,true)) else(ah.j1 k x0)))) else(none)) else(none))) else(none)) else(none))) else(none)) else(none))) else(none)) else(none)) else(ah.j1 k x0)
def ah.j1 : Nat→ByteArray→Option (Int×Bool)
 |0,_=>none
 |k+1,x0=>if(x0.size:Int)≥30 then(ah.j2 k x0 (decide ((x0.size:Int)≤33))) else(ah.j2 k x0 false)
def ah.j2 : Nat→ByteArray→Bool→Option (Int×Bool)
 |0,_,_=>none
 |k+1,x0,x56=>if x56=true then(if 0≤(wrap64 ((x0.size:Int)-22)) then(if(wrap64 ((x0.size:Int)-22))≤(x0.size:Int) then(if 7≤9 then(if 9≤((x0.extract ((wrap64 ((x0.size:Int)-22)):Int).toNat x0.size).size:Int) then((aX.f k ((x0.extract ((wrap64 ((x0.size:Int)-22)):Int).toNat x0.size).extract 7 9)).bind fun OQ=>(if OQ≥70 then(ah.j3 k x0 (x0.extract ((wrap64 ((x0.size:Int)-22)):Int).toNat x0.size) (wrap64 (OQ+1900))) else(ah.j3 k x0 (x0.extract ((wrap64 ((x0.size:Int)-22)):Int).toNat x0.size) (wrap64 (OQ+2000))))) else(none)) else(none)) else(none)) else(none)) else(some (0,false))
def ah.j3 : Nat→ByteArray→ByteArray→Int→Option (Int×Bool)
 |0,_,_,_=>none
 |k+1,x0,x6,x7=>if 3≤6 then(if 6≤(x6.size:Int) then((eU.f k (x6.extract 3 6)).bind fun Ze=>(if 0≤2 then(if 2≤(x6.size:Int) then((aX.f k (x6.extract 0 2)).bind fun Zf=>(if 10≤18 then(if 18≤(x6.size:Int) then((jd.f k x7 Ze Zf (x6.extract 10 18)).bind fun Vt=>((dR.f k Vt).bind fun agC=>(if agC.toList=x0.toList then(some (Vt,true)) else(some (0,false))))) else(none)) else(none))) else(none)) else(none))) else(none)) else(none)
end
def ah.f (k:Nat) (a0:ByteArray):Option (Int×Bool):=if(a0.size:Int)=29 then(if 12≤16 then(if 16≤(a0.size:Int) then((aX.f k (a0.extract 12 16)).bind fun Qs=>(if 8≤11 then(if 11≤(a0.size:Int) then((eU.f k (a0.extract 8 11)).bind fun Qt=>(if 5≤7 then(if 7≤(a0.size:Int) then((aX.f k (a0.extract 5 7)).bind fun Qu=>(if 17≤25 then(if 25≤(a0.size:Int) then((jd.f k Qs Qt Qu (a0.extract 17 25)).bind fun OT=>((gX.f k OT).bind fun ab5=>(if ab5.toList=a0.toList then(some (OT,true)) else(ah.j0 k a0)))) else(none)) else(none))) else(none)) else(none))) else(none)) else(none))) else(none)) else(none)) else(ah.j0 k a0)
def ah.T2 : Bool×List (List Nat×List Nat):=(true,[([],[]),([0],[0]),([1],[1]),([],[]),([3],[3]),([4,2],[4]),([],[]),([6],[6]),([7,5],[7]),([],[]),([9],[9]),([2,5,8,10,8],[2,5,8,10]),([11,11,0,1,2,3,4,5,6,7,8,9,10,11],[11])])
def ah.B2 : List Nat:=[0,1,3,0,8,31,0,64,255,0,512,2047,4095]
theorem ah.ahI : rP .any (opsOf Tryz.f75 2)=ah.T2:=by kernel_rfl
theorem ah.aba : kD ah.T2.2 ah.B2=true:=by kernel_rfl
def ah.T6 : Bool×List (List Nat×List Nat):=(true,[([],[]),([0],[0]),([1],[1]),([],[]),([3],[3]),([4,2],[4]),([],[]),([6],[6]),([7,5],[7]),([],[]),([9],[9]),([2,5,8,10,8],[2,5,8,10]),([11,11,0,1,2,3,4,5,6,7,8,9,10,11],[11])])
def ah.B6 : List Nat:=[0,1,3,0,8,31,0,64,255,0,512,2047,4095]
theorem ah.ad9 : rP .any (opsOf Tryz.f75 6)=ah.T6:=by kernel_rfl
theorem ah.Xk : kD ah.T6.2 ah.B6=true:=by kernel_rfl
def ah.T15 : Bool×List (List Nat×List Nat):=(true,[([],[]),([],[]),([1],[1]),([2],[2]),([],[]),([4],[4]),([5,3],[5]),([],[]),([7],[7]),([0,3,6,8,6],[0,3,6,8]),([9,9,0,1,2,3,4,5,6,7,8,9],[9])])
def ah.B15 : List Nat:=[0,0,2,6,0,16,62,0,128,511,1023]
theorem ah.asg : rP .any (opsOf Tryz.f75 15)=ah.T15:=by kernel_rfl
theorem ah.am1 : kD ah.T15.2 ah.B15=true:=by kernel_rfl
theorem ah.e0 {p:Prop} (h:p:=by
  try go_wp2
  replace HB:=ae.mk (di HB.out)
  refine lL (n:=11) (S:=fun w'=>True) (ds:=[]) trivial (fun hHeld=>?_);refine fu ah.asg ah.am1 (fun HT_ HW_=>?_)
  generalize wc.drew=Aa at HB hHeld ⊢
  repeat(first|refine fA ?_)
  refine dn 4 (some 75) ?_
  refine dn 5 (some 76) ?_
  refine dn 7 (some 78) ?_
  refine dn 8 (some 79) ?_
  refine iM (fun K hK=>?_)
  refine dV Tryz.func116 aK rfl #[.string (zq.extract 3 6)] (by rfl) rfl rfl ahv ?_
  with_reducible refine(eU.calls ais (zq.extract 3 6) Ze _ A59.out).mono ?_
  rintro e w' ⟨rfl,⟨nd,rfl⟩⟩
  refine⟨_,rfl,?_⟩
  refine hK.out _ _ trivial (fun hHeld=>?_)
  clear hK K
  refine eP ?_
  refine iM (fun K hK=>?_)
  refine dV Tryz.func115 aK rfl #[.string (zq.extract 0 2)] (by rfl) rfl rfl ahv ?_
  with_reducible refine(aX.calls ais (zq.extract 0 2) Zf _ A62.out).mono ?_
  rintro e w' ⟨rfl,⟨nd,rfl⟩⟩
  refine⟨_,rfl,?_⟩
  refine hK.out _ _ trivial (fun hHeld=>?_)
  clear hK K
  refine eP ?_
  refine iM (fun K hK=>?_)
  refine dV Tryz.func114 aK rfl #[.int .i64 Zg,.int .i64 Ze,.int .i64 Zf,.string (zq.extract 10 18)] (by rfl) rfl rfl ahv ?_
  with_reducible refine(jd.calls ais Zg Ze Zf (zq.extract 10 18) Vt _ A65.out).mono ?_
  rintro e ku ⟨rfl,hb⟩
  refine⟨_,rfl,?_⟩
  replace HB:=dS hb
  (try clear hb)
  refine hK.out _ _ trivial (fun hHeld=>?_)
  clear hK K
  refine eP ?_
  repeat(first|refine fA ?_)
  refine mW (iR HT_.out aK) ?_
  try go_wp2_with(((with_reducible refine ag (f:=119) rfl ?_);refine aG (some 82) rfl rfl Tryz.func119 aK rfl #[.int .i64 Vt] rfl eu ?_;(with_reducible refine(dR.calls ais Vt agC _ A66.out).mono ?_);rintro e Fq ⟨rfl,hb⟩;refine⟨_,rfl,?_⟩;replace HB:=dS hb;(try clear hb);(try clear hb2);(try clear hk);(try clear hi)))
  go_ret2
  exact⟨by first|rfl|(simp[jy,jA] <;> rfl)|(simp only[← WJ];first|rfl|(simp[jy,jA] <;> rfl))|(simp[*,jy,jA] <;> rfl),dN⟩):p:=h
theorem ah.calls (k:Nat) (a0:ByteArray) (r1:Int) (r2:Bool) (w:World) (h:ah.f k a0=some (r1,r2)) :
  Calls Tryz.prog 75 #[.string a0] w fun e w'=>e = .returned (.tuple #[.int .i64 r1,.bool r2])∧Below w.heap.size w w':=by
 have HB:=ae.mk (Below.refl w.heap.size w);have H:=h;clear h;unfold ah.f at H;have xZ:=ae.mk H;clear H;go_enter Tryz.func75,Tryz.ntmps75;go_upto_if 11 with(fail);go_cut [] (fun wc=>∃(kq:Nat),ae (ah.j0 kq a0=some (r1,r2))∧ae (kq≤k)∧ae (Below w.heap.size w wc))
 case first=>
  have H:=xZ.out;clear xZ;replace H:=gI H;rcases H with⟨c3,-,-,H⟩|⟨c3,-,-,H⟩
  ·obtain⟨gM,uX⟩:=rD c3;clear c3;(first|rw[gM]|(simp only[iE,jF];rw[gM])|skip)
   replace H:=gN H;obtain⟨-,yH,mP,H⟩:=H;replace H:=gN H;obtain⟨-,Al,qh,H⟩:=H;replace H:=gD H;obtain⟨Qs,A6,H⟩:=H;replace H:=gN H;obtain⟨-,KS,uR,H⟩:=H;replace H:=gN H;obtain⟨-,Iu,tO,H⟩:=H;replace H:=gD H;obtain⟨Qt,A9,H⟩:=H;replace H:=gN H;obtain⟨-,L6,yS,H⟩:=H;replace H:=gN H;obtain⟨-,JO,xA,H⟩:=H;replace H:=gD H;obtain⟨Qu,LU,H⟩:=H;replace H:=gN H;obtain⟨-,H9,zP,H⟩:=H;replace H:=gN H;obtain⟨-,U2,Ma,H⟩:=H;replace H:=gD H;obtain⟨OT,V5,H⟩:=H;replace H:=gD H;obtain⟨ab5,A16,H⟩:=H;replace H:=gI H;rcases H with⟨c17,-,-,H⟩|⟨c17,-,-,H⟩
   ·obtain⟨Bh,JQ⟩:=rD c17;clear c17;simp only[Option.some.injEq,Prod.mk.injEq] at H;obtain⟨rfl,rfl⟩:=H;try go_wp2
    replace HB:=ae.mk (di HB.out);refine lL (n:=13) (S:=fun w'=>True) (ds:=[]) trivial (fun hHeld=>?_);refine fu ah.ahI ah.aba (fun HT_ HW_=>?_);generalize w.drew=jm at HB hHeld ⊢;repeat(first|refine fA ?_)
    refine dn 3 (some 15) ?_;refine dn 4 (some 16) ?_;refine dn 6 (some 18) ?_;refine dn 7 (some 19) ?_;refine dn 9 (some 21) ?_;refine dn 10 (some 22) ?_;refine iM (fun K hK=>?_);refine dV Tryz.func115 aK rfl #[.string (a0.extract 12 16)] (by rfl) rfl rfl eu ?_;(with_reducible refine(aX.calls k (a0.extract 12 16) Qs _ A6.out).mono ?_);rintro e w' ⟨rfl,⟨nd,rfl⟩⟩;refine⟨_,rfl,?_⟩;refine hK.out _ _ trivial (fun hHeld=>?_);clear hK K;refine eP ?_;refine iM (fun K hK=>?_);refine dV Tryz.func116 aK rfl #[.string (a0.extract 8 11)] (by rfl) rfl rfl eu ?_;(with_reducible refine(eU.calls k (a0.extract 8 11) Qt _ A9.out).mono ?_);rintro e w' ⟨rfl,⟨nd,rfl⟩⟩;refine⟨_,rfl,?_⟩;refine hK.out _ _ trivial (fun hHeld=>?_);clear hK K;refine eP ?_;refine iM (fun K hK=>?_);refine dV Tryz.func115 aK rfl #[.string (a0.extract 5 7)] (by rfl) rfl rfl eu ?_;(with_reducible refine(aX.calls k (a0.extract 5 7) Qu _ LU.out).mono ?_);rintro e w' ⟨rfl,⟨nd,rfl⟩⟩;refine⟨_,rfl,?_⟩;refine hK.out _ _ trivial (fun hHeld=>?_);clear hK K;refine eP ?_;refine iM (fun K hK=>?_);refine dV Tryz.func114 aK rfl #[.int .i64 Qs,.int .i64 Qt,.int .i64 Qu,.string (a0.extract 17 25)] (by rfl) rfl rfl eu ?_;(with_reducible refine(jd.calls k Qs Qt Qu (a0.extract 17 25) OT _ V5.out).mono ?_);rintro e ku ⟨rfl,hb⟩;refine⟨_,rfl,?_⟩;replace HB:=dS hb;(try clear hb)
    refine hK.out _ _ trivial (fun hHeld=>?_);clear hK K;refine eP ?_;repeat(first|refine fA ?_)
    refine mW (iR HT_.out aK) ?_;try go_wp2_with(((with_reducible refine ag (f:=117) rfl ?_);refine aG (some 25) rfl rfl Tryz.func117 aK rfl #[.int .i64 OT] rfl eu ?_;(with_reducible refine(gX.calls k OT ab5 _ A16.out).mono ?_);rintro e pU ⟨rfl,hb⟩;refine⟨_,rfl,?_⟩;replace HB:=dS hb;(try clear hb)))
    go_ret2;exact⟨nG,dN⟩
   ·obtain⟨Bh,JQ⟩:=rO c17;have H':=ae.mk H;clear H;try go_wp2
    replace HB:=ae.mk (di HB.out);refine lL (n:=13) (S:=fun w'=>True) (ds:=[]) trivial (fun hHeld=>?_);refine fu ah.ahI ah.aba (fun HT_ HW_=>?_);generalize w.drew=jm at HB hHeld ⊢;repeat(first|refine fA ?_)
    refine dn 3 (some 15) ?_;refine dn 4 (some 16) ?_;refine dn 6 (some 18) ?_;refine dn 7 (some 19) ?_;refine dn 9 (some 21) ?_;refine dn 10 (some 22) ?_;refine iM (fun K hK=>?_);refine dV Tryz.func115 aK rfl #[.string (a0.extract 12 16)] (by rfl) rfl rfl eu ?_;(with_reducible refine(aX.calls k (a0.extract 12 16) Qs _ A6.out).mono ?_);rintro e w' ⟨rfl,⟨nd,rfl⟩⟩;refine⟨_,rfl,?_⟩;refine hK.out _ _ trivial (fun hHeld=>?_);clear hK K;refine eP ?_;refine iM (fun K hK=>?_);refine dV Tryz.func116 aK rfl #[.string (a0.extract 8 11)] (by rfl) rfl rfl eu ?_;(with_reducible refine(eU.calls k (a0.extract 8 11) Qt _ A9.out).mono ?_);rintro e w' ⟨rfl,⟨nd,rfl⟩⟩;refine⟨_,rfl,?_⟩;refine hK.out _ _ trivial (fun hHeld=>?_);clear hK K;refine eP ?_;refine iM (fun K hK=>?_);refine dV Tryz.func115 aK rfl #[.string (a0.extract 5 7)] (by rfl) rfl rfl eu ?_;(with_reducible refine(aX.calls k (a0.extract 5 7) Qu _ LU.out).mono ?_);rintro e w' ⟨rfl,⟨nd,rfl⟩⟩;refine⟨_,rfl,?_⟩;refine hK.out _ _ trivial (fun hHeld=>?_);clear hK K;refine eP ?_;refine iM (fun K hK=>?_);refine dV Tryz.func114 aK rfl #[.int .i64 Qs,.int .i64 Qt,.int .i64 Qu,.string (a0.extract 17 25)] (by rfl) rfl rfl eu ?_;(with_reducible refine(jd.calls k Qs Qt Qu (a0.extract 17 25) OT _ V5.out).mono ?_);rintro e ku ⟨rfl,hb⟩;refine⟨_,rfl,?_⟩;replace HB:=dS hb;(try clear hb)
    refine hK.out _ _ trivial (fun hHeld=>?_);clear hK K;refine eP ?_;repeat(first|refine fA ?_)
    refine mW (iR HT_.out aK) ?_;try go_wp2_with(((with_reducible refine ag (f:=117) rfl ?_);refine aG (some 25) rfl rfl Tryz.func117 aK rfl #[.int .i64 OT] rfl eu ?_;(with_reducible refine(gX.calls k OT ab5 _ A16.out).mono ?_);rintro e pU ⟨rfl,hb⟩;refine⟨_,rfl,?_⟩;replace HB:=dS hb;(try clear hb)))
    go_meet
    case rel=>exact⟨_,H',⟨EC⟩,⟨dN⟩⟩
  ·obtain⟨gM,uX⟩:=rO c3;(first|rw[gM]|(simp only[iE,jF];rw[gM])|skip)
   have H':=ae.mk H;clear H;go_wp2;go_meet
   case rel=>exact⟨_,H',⟨EC⟩,⟨dN⟩⟩
 case rest=>
  clear xZ;obtain⟨kq,HA,Bu,HB⟩:=hcut;cases kq with
  |zero=>exact absurd HA.out (by simp[ah.j0])
  |succ uY=>
   have H:=HA.out;clear HA;simp only[ah.j0] at H;have am2:=ae.mk H;clear H;go_upto_if 31 with(fail);go_cut [] (fun wc=>∃(kq:Nat),ae (ah.j1 kq a0=some (r1,r2))∧ae (kq≤uY)∧ae (Below w.heap.size w wc))
   case first=>
    have H:=am2.out;clear am2;replace H:=gI H;rcases H with⟨P7,-,-,H⟩|⟨P7,-,-,H⟩
    ·obtain⟨Fs,SV⟩:=rD P7;clear P7;(first|rw[Fs]|(simp only[iE,jF];rw[Fs])|skip)
     replace H:=gN H;obtain⟨-,U4,K5,H⟩:=H;replace H:=gN H;obtain⟨-,abh,Oq,H⟩:=H;replace H:=gD H;obtain⟨Qp,A28,H⟩:=H;replace H:=gN H;obtain⟨-,Ot,Ou,H⟩:=H;replace H:=gN H;obtain⟨-,ab0,YE,H⟩:=H;replace H:=gD H;obtain⟨Qq,A31,H⟩:=H;replace H:=gN H;obtain⟨-,XK,U6,H⟩:=H;replace H:=gN H;obtain⟨-,ax5,ax6,H⟩:=H;replace H:=gD H;obtain⟨Qr,A34,H⟩:=H;replace H:=gN H;obtain⟨-,Yb,Ya,H⟩:=H;replace H:=gN H;obtain⟨-,ax7,ax8,H⟩:=H;replace H:=gD H;obtain⟨OP,A37,H⟩:=H;replace H:=gD H;obtain⟨ab4,A38,H⟩:=H;replace H:=gI H;rcases H with⟨QM,-,-,H⟩|⟨QM,-,-,H⟩
     ·obtain⟨JU,Ml⟩:=rD QM;clear QM;simp only[Option.some.injEq,Prod.mk.injEq] at H;obtain⟨rfl,rfl⟩:=H;try go_wp2
      replace HB:=ae.mk (di HB.out);refine lL (n:=13) (S:=fun w'=>True) (ds:=[]) trivial (fun hHeld=>?_);refine fu ah.ad9 ah.Xk (fun HT_ HW_=>?_);generalize wc.drew=Aa at HB hHeld ⊢;repeat(first|refine fA ?_)
      refine dn 3 (some 35) ?_;refine dn 4 (some 36) ?_;refine dn 6 (some 38) ?_;refine dn 7 (some 39) ?_;refine dn 9 (some 41) ?_;refine dn 10 (some 42) ?_;refine iM (fun K hK=>?_);refine dV Tryz.func115 aK rfl #[.string (a0.extract 20 24)] (by rfl) rfl rfl eu ?_;(with_reducible refine(aX.calls uY (a0.extract 20 24) Qp _ A28.out).mono ?_);rintro e w' ⟨rfl,⟨nd,rfl⟩⟩;refine⟨_,rfl,?_⟩;refine hK.out _ _ trivial (fun hHeld=>?_);clear hK K;refine eP ?_;refine iM (fun K hK=>?_);refine dV Tryz.func116 aK rfl #[.string (a0.extract 4 7)] (by rfl) rfl rfl eu ?_;(with_reducible refine(eU.calls uY (a0.extract 4 7) Qq _ A31.out).mono ?_);rintro e w' ⟨rfl,⟨nd,rfl⟩⟩;refine⟨_,rfl,?_⟩;refine hK.out _ _ trivial (fun hHeld=>?_);clear hK K;refine eP ?_;refine iM (fun K hK=>?_);refine dV Tryz.func115 aK rfl #[.string (a0.extract 8 10)] (by rfl) rfl rfl eu ?_;(with_reducible refine(aX.calls uY (a0.extract 8 10) Qr _ A34.out).mono ?_);rintro e w' ⟨rfl,⟨nd,rfl⟩⟩;refine⟨_,rfl,?_⟩;refine hK.out _ _ trivial (fun hHeld=>?_);clear hK K;refine eP ?_;refine iM (fun K hK=>?_);refine dV Tryz.func114 aK rfl #[.int .i64 Qp,.int .i64 Qq,.int .i64 Qr,.string (a0.extract 11 19)] (by rfl) rfl rfl eu ?_;(with_reducible refine(jd.calls uY Qp Qq Qr (a0.extract 11 19) OP _ A37.out).mono ?_);rintro e ku ⟨rfl,hb⟩;refine⟨_,rfl,?_⟩;replace HB:=dS hb;(try clear hb)
      refine hK.out _ _ trivial (fun hHeld=>?_);clear hK K;refine eP ?_;repeat(first|refine fA ?_)
      refine mW (iR HT_.out aK) ?_;try go_wp2_with(((with_reducible refine ag (f:=118) rfl ?_);refine aG (some 45) rfl rfl Tryz.func118 aK rfl #[.int .i64 OP] rfl eu ?_;(with_reducible refine(dQ.calls uY OP ab4 _ A38.out).mono ?_);rintro e zO ⟨rfl,hb⟩;refine⟨_,rfl,?_⟩;replace HB:=dS hb;(try clear hb)))
      go_ret2;exact⟨nG,dN⟩
     ·obtain⟨JU,Ml⟩:=rO QM;have H':=ae.mk H;clear H;try go_wp2
      replace HB:=ae.mk (di HB.out);refine lL (n:=13) (S:=fun w'=>True) (ds:=[]) trivial (fun hHeld=>?_);refine fu ah.ad9 ah.Xk (fun HT_ HW_=>?_);generalize wc.drew=Aa at HB hHeld ⊢;repeat(first|refine fA ?_)
      refine dn 3 (some 35) ?_;refine dn 4 (some 36) ?_;refine dn 6 (some 38) ?_;refine dn 7 (some 39) ?_;refine dn 9 (some 41) ?_;refine dn 10 (some 42) ?_;refine iM (fun K hK=>?_);refine dV Tryz.func115 aK rfl #[.string (a0.extract 20 24)] (by rfl) rfl rfl eu ?_;(with_reducible refine(aX.calls uY (a0.extract 20 24) Qp _ A28.out).mono ?_);rintro e w' ⟨rfl,⟨nd,rfl⟩⟩;refine⟨_,rfl,?_⟩;refine hK.out _ _ trivial (fun hHeld=>?_);clear hK K;refine eP ?_;refine iM (fun K hK=>?_);refine dV Tryz.func116 aK rfl #[.string (a0.extract 4 7)] (by rfl) rfl rfl eu ?_;(with_reducible refine(eU.calls uY (a0.extract 4 7) Qq _ A31.out).mono ?_);rintro e w' ⟨rfl,⟨nd,rfl⟩⟩;refine⟨_,rfl,?_⟩;refine hK.out _ _ trivial (fun hHeld=>?_);clear hK K;refine eP ?_;refine iM (fun K hK=>?_);refine dV Tryz.func115 aK rfl #[.string (a0.extract 8 10)] (by rfl) rfl rfl eu ?_;(with_reducible refine(aX.calls uY (a0.extract 8 10) Qr _ A34.out).mono ?_);rintro e w' ⟨rfl,⟨nd,rfl⟩⟩;refine⟨_,rfl,?_⟩;refine hK.out _ _ trivial (fun hHeld=>?_);clear hK K;refine eP ?_;refine iM (fun K hK=>?_);refine dV Tryz.func114 aK rfl #[.int .i64 Qp,.int .i64 Qq,.int .i64 Qr,.string (a0.extract 11 19)] (by rfl) rfl rfl eu ?_;(with_reducible refine(jd.calls uY Qp Qq Qr (a0.extract 11 19) OP _ A37.out).mono ?_);rintro e ku ⟨rfl,hb⟩;refine⟨_,rfl,?_⟩;replace HB:=dS hb;(try clear hb)
      refine hK.out _ _ trivial (fun hHeld=>?_);clear hK K;refine eP ?_;repeat(first|refine fA ?_)
      refine mW (iR HT_.out aK) ?_;try go_wp2_with(((with_reducible refine ag (f:=118) rfl ?_);refine aG (some 45) rfl rfl Tryz.func118 aK rfl #[.int .i64 OP] rfl eu ?_;(with_reducible refine(dQ.calls uY OP ab4 _ A38.out).mono ?_);rintro e zO ⟨rfl,hb⟩;refine⟨_,rfl,?_⟩;replace HB:=dS hb;(try clear hb)))
      go_meet
      case rel=>exact⟨_,H',⟨Ug⟩,⟨dN⟩⟩
    ·obtain⟨Fs,SV⟩:=rO P7;(first|rw[Fs]|(simp only[iE,jF];rw[Fs])|skip)
     have H':=ae.mk H;clear H;go_wp2;go_meet
     case rel=>exact⟨_,H',⟨Ug⟩,⟨dN⟩⟩
   case rest=>
    clear am2;obtain⟨kq,HA,ait,HB⟩:=hcut;cases kq with
    |zero=>exact absurd HA.out (by simp[ah.j1])
    |succ auJ=>
     have H:=HA.out;clear HA;simp only[ah.j1] at H;have am3:=ae.mk H;clear H;go_upto_region 9 with(fail);go_cut [56] (fun v56 wc=>∃(kq:Nat) (aaV:Bool),v56 = .bool aaV∧ae (ah.j2 kq a0 aaV=some (r1,r2))∧ae (kq≤auJ)∧ae (Below w.heap.size w wc))
     case first=>
      have H:=am3.out;clear am3;replace H:=gI H;rcases H with⟨Zp,-,-,H⟩|⟨Zp,-,-,H⟩
      ·have H7:decide (30≤(a0.size:Int))=true:=aT Zp;have aa8:decide (30≤a0.size)=true:=aT aa;clear Zp;(first|rw[H7]|(simp only[iE,jF];rw[H7])|skip)
       have H':=ae.mk H;clear H;go_wp2;go_meet
       case rel=>exact⟨_,(decide ((a0.size:Int)≤33)),fI,H',⟨by have:=Bu.out;have:=ait.out;first|omega|exact Nat.le_refl _⟩,⟨dN⟩⟩
      ·have H7:decide (30≤(a0.size:Int))=false:=aN Zp;have aa8:decide (30≤a0.size)=false:=aN aa;clear Zp;(first|rw[H7]|(simp only[iE,jF];rw[H7])|skip)
       have H':=ae.mk H;clear H;go_wp2;go_meet
       case rel=>exact⟨_,(false),fI,H',⟨by have:=Bu.out;have:=ait.out;first|omega|exact Nat.le_refl _⟩,⟨dN⟩⟩
     case rest=>
      clear am3;obtain⟨kq,aaV,rfl,HA,ash,HB⟩:=hcut;cases kq with
      |zero=>exact absurd HA.out (by simp[ah.j2])
      |succ asi=>
       have H:=HA.out;clear HA;simp only[ah.j2] at H;replace H:=gB H;rcases H with⟨rfl,H⟩|⟨rfl,H⟩
       ·obtain⟨asj,WJ⟩:∃ j_:Int,(wrap64 ((a0.size:Int)-22))=j_:=⟨_,rfl⟩;(first|rw[WJ] at H|simp only[WJ] at H ⊢)
        have auK:(IntKind.i64.wrap ((a0.size:Int)-22))=asj:=(iE _).trans WJ;replace H:=gN H;obtain⟨-,aj9,aka,H⟩:=H;replace H:=gN H;obtain⟨-,asl,asn,H⟩:=H;obtain⟨zq,hzq⟩:∃ z_:ByteArray,a0.extract ((asj):Int).toNat a0.size=z_:=⟨_,rfl⟩;rw[hzq] at H;replace H:=gN H;obtain⟨-,agl,agk,H⟩:=H;replace H:=gN H;obtain⟨-,ajm,ajl,H⟩:=H;replace H:=gD H;obtain⟨OQ,A54,H⟩:=H;have am4:=ae.mk H;clear H;go_upto_if 66 with(first|((with_reducible refine ag (f:=115) rfl ?_);refine aG (some 64) rfl rfl Tryz.func115 aK rfl #[.string (zq.extract 7 9)] rfl ahv ?_;(with_reducible refine(aX.calls asi (zq.extract 7 9) OQ _ A54.out).mono ?_);rintro e w' ⟨rfl,⟨nd,rfl⟩⟩;refine⟨_,rfl,?_⟩));(try simp only[Act.put,List.setIfInBounds_toArray,List.set_cons_zero,List.set_cons_succ])
        go_cut [7] (fun v7 wc=>∃(kq:Nat) (Zg:Int),v7 = .int .i64 Zg∧ae (ah.j3 kq a0 zq Zg=some (r1,r2))∧ae (kq≤asi)∧ae (Below w.heap.size w wc))
        case first=>
         have H:=am4.out;clear am4;replace H:=gI H;rcases H with⟨c56,-,-,H⟩|⟨c56,-,-,H⟩
         ·have U8:decide (70≤OQ)=true:=aT c56;clear c56;(first|rw[U8]|(simp only[iE,jF];rw[U8])|skip)
          have H':=ae.mk H;clear H;go_wp2;go_meet
          case rel=>exact⟨_,(wrap64 (OQ+1900)),fI,H',⟨by have:=Bu.out;have:=ait.out;have:=ash.out;first|omega|exact Nat.le_refl _⟩,⟨dN⟩⟩
         ·have U8:decide (70≤OQ)=false:=aN c56;clear c56;(first|rw[U8]|(simp only[iE,jF];rw[U8])|skip)
          have H':=ae.mk H;clear H;go_wp2;go_meet
          case rel=>exact⟨_,(wrap64 (OQ+2000)),fI,H',⟨by have:=Bu.out;have:=ait.out;have:=ash.out;first|omega|exact Nat.le_refl _⟩,⟨dN⟩⟩
        case rest=>
         clear am4;try clear aka
         try clear aj9
         try clear asn
         try clear asl
         try clear agk
         try clear agl
         try clear ajl
         try clear ajm
         obtain⟨kq,Zg,rfl,HA,azH,HB⟩:=hcut;cases kq with
         |zero=>exact absurd HA.out (by simp[ah.j3])
         |succ ais=>
          have H:=HA.out;clear HA;simp only[ah.j3] at H;replace H:=gN H;obtain⟨-,apb,apa,H⟩:=H;replace H:=gN H;obtain⟨-,ajD,ajC,H⟩:=H;replace H:=gD H;obtain⟨Ze,A59,H⟩:=H;replace H:=gN H;obtain⟨-,ax9,aya,H⟩:=H;replace H:=gN H;obtain⟨-,ayb,ayc,H⟩:=H;replace H:=gD H;obtain⟨Zf,A62,H⟩:=H;replace H:=gN H;obtain⟨-,ayd,aye,H⟩:=H;replace H:=gN H;obtain⟨-,ayf,ayg,H⟩:=H;replace H:=gD H;obtain⟨Vt,A65,H⟩:=H;replace H:=gD H;obtain⟨agC,A66,H⟩:=H;replace H:=gI H;rcases H with⟨c67,-,-,H⟩|⟨c67,-,-,H⟩
          ·obtain⟨aso,asq⟩:=rD c67;clear c67;simp only[Option.some.injEq,Prod.mk.injEq] at H;obtain⟨rfl,rfl⟩:=H;exact ah.e0
          ·obtain⟨aso,asq⟩:=rO c67;simp only[Option.some.injEq,Prod.mk.injEq] at H;obtain⟨rfl,rfl⟩:=H;exact ah.e0
       ·simp only[Option.some.injEq,Prod.mk.injEq] at H;obtain⟨rfl,rfl⟩:=H;go_wp2;go_ret2;exact⟨nG,dN⟩


def fG.l0 : Nat→ByteArray→Int→Option (Bool)
 |0,_,_=>none
 |k+1,x0,x3=>if x3<(x0.size:Int) then(if 0≤x3 then((tN.f (bt x0 x3)).bind fun asr=>(if asr=true then(fG.l0 k x0 (wrap64 (x3+1))) else(some false))) else(none)) else(some true)
def fG.f (k:Nat) (a0:ByteArray):Option (Bool):=fG.l0 k a0 0
theorem fG.calls (k:Nat) (a0:ByteArray) (r:Bool) (w:World) (h:fG.f k a0=some r) :
  Calls Tryz.prog 98 #[.string a0] w fun e w'=>e = .returned (.bool r)∧ed w w':=by
 have H:=h;clear h;unfold fG.f at H;have H':=ae.mk H;clear H;go_enter Tryz.func98,Tryz.ntmps98;go_wp2;go_loopg [3] k (fun kq v3 w'=>∃(fU:Int),v3 = .int .i64 fU∧ae (fG.l0 kq a0 fU=some r)∧ae (kq≤k)∧ed w w')
 case atStart=>exact⟨(0),fI,H',⟨Nat.le_refl _⟩,lG⟩
 case round=>
  clear H';obtain⟨fU,rfl,HA,qj,⟨m1,rfl⟩⟩:=hrel;cases gk with
  |zero=>exact absurd HA.out (by simp[fG.l0])
  |succ k1=>
   have H:=HA.out;clear HA;simp only[fG.l0] at H;replace H:=gI H;rcases H with⟨-,nk,-,H⟩|⟨-,nk,-,H⟩
   ·replace H:=gN H;obtain⟨-,gM,-,H⟩:=H;replace H:=gD H;obtain⟨asr,A5,H⟩:=H;replace H:=gB H;rcases H with⟨rfl,H⟩|⟨rfl,H⟩
    ·have H':=ae.mk H;clear H;have p4:0≤(fU:Int):=bE gL;have q4:fU<(a0.size:Int):=bE gL;have hx4:=gV a0 fU;replace p4:=eq_true p4;replace q4:=eq_true q4;go_wp2_with(((with_reducible refine ag (f:=146) rfl ?_);refine aG (some 13) rfl rfl Tryz.func146 aK rfl #[.int .u8 (bt a0 fU)] rfl eu ?_;(with_reducible refine(tN.calls (bt a0 fU) true _ A5.out).mono ?_);rintro e w' ⟨rfl,⟨nd,rfl⟩⟩;refine⟨_,rfl,?_⟩));go_roundg k1
     case measure=>have:=qj.out;omega
     case rel=>exact⟨(wrap64 (fU+1)),fI,H',⟨by have:=qj.out;omega⟩,lG⟩
    ·obtain rfl:=cu H;have p4:0≤(fU:Int):=bE gL;have q4:fU<(a0.size:Int):=bE gL;have hx4:=gV a0 fU;replace p4:=eq_true p4;replace q4:=eq_true q4;go_wp2_with(((with_reducible refine ag (f:=146) rfl ?_);refine aG (some 13) rfl rfl Tryz.func146 aK rfl #[.int .u8 (bt a0 fU)] rfl eu ?_;(with_reducible refine(tN.calls (bt a0 fU) false _ A5.out).mono ?_);rintro e w' ⟨rfl,⟨nd,rfl⟩⟩;refine⟨_,rfl,?_⟩));go_ret;exact⟨fI,lG⟩
   ·obtain rfl:=cu H;go_wp2;go_ret;exact⟨fI,lG⟩

def jO.f (k:Nat) (aA:ByteArray) (aC:ByteArray):Option (Bool):=if(aA.size:Int)≤40 then((eF.f k aA).bind fun ass=>(if ass=true then(if(aC.size:Int)≤190 then((fG.f k aC).bind fun ast=>(if ast=true then((eQ.f k aC).bind fun agD=>(some (agD.toList==aC.toList))) else(some false))) else(some false)) else(some false))) else(some false)
theorem jO.e0 {p:Prop} (h:p:=by
  obtain rfl:=cu H
  go_enter Tryz.func58,Tryz.ntmps58
  go_wp2_with(first|((with_reducible refine aY (N:=1) rfl ?_);refine FN #[.string aA,.string aC] 72 ?_;intro Ms hg jm hbox hb;have ni:=ae.mk (hbox);have Mt:=jL hg;have Mv:=jL hg;replace HB:=dS hb;clear hb hbox hg;have Bo:=Nl ni;have Bp:=Nn ni;have Bq:=aM ni.out 0;have Br:=aM ni.out 1)|(go_at_call 97;(with_reducible refine(eF.calls k aA false _ A3.out).mono ?_);rintro e w' ⟨rfl,⟨nd,rfl⟩⟩;(try first|exact⟨rfl,_,World.drewN_drewN _ _ _⟩|exact⟨rfl,_,Eq.trans (World.drewN_drewN _ _ _) (congrArg (World.drewN _) (Nat.add_assoc _ _ _))⟩))|(go_at_call 97;(with_reducible refine(eF.calls k aA true _ A3.out).mono ?_);rintro e w' ⟨rfl,⟨nd,rfl⟩⟩;(try first|exact⟨rfl,_,World.drewN_drewN _ _ _⟩|exact⟨rfl,_,Eq.trans (World.drewN_drewN _ _ _) (congrArg (World.drewN _) (Nat.add_assoc _ _ _))⟩))|(go_at_call 98;(with_reducible refine(fG.calls k aC false _ A6.out).mono ?_);rintro e w' ⟨rfl,⟨nd,rfl⟩⟩;(try first|exact⟨rfl,_,World.drewN_drewN _ _ _⟩|exact⟨rfl,_,Eq.trans (World.drewN_drewN _ _ _) (congrArg (World.drewN _) (Nat.add_assoc _ _ _))⟩))|(go_at_call 98;(with_reducible refine(fG.calls k aC true _ A6.out).mono ?_);rintro e w' ⟨rfl,⟨nd,rfl⟩⟩;(try first|exact⟨rfl,_,World.drewN_drewN _ _ _⟩|exact⟨rfl,_,Eq.trans (World.drewN_drewN _ _ _) (congrArg (World.drewN _) (Nat.add_assoc _ _ _))⟩))|(go_at_call 99;(with_reducible refine(eQ.calls k aC agD _ A8.out).mono ?_);rintro e w' ⟨rfl,⟨nd,rfl⟩⟩;(try first|exact⟨rfl,_,World.drewN_drewN _ _ _⟩|exact⟨rfl,_,Eq.trans (World.drewN_drewN _ _ _) (congrArg (World.drewN _) (Nat.add_assoc _ _ _))⟩)))
  repeat(first|go_quiet (first|((with_reducible refine aY (N:=1) rfl ?_);refine FN #[.string aA,.string aC] 72 ?_;intro Ms hg jm hbox hb;have ni:=ae.mk (hbox);have Mt:=jL hg;have Mv:=jL hg;replace HB:=dS hb;clear hb hbox hg;have Bo:=Nl ni;have Bp:=Nn ni;have Bq:=aM ni.out 0;have Br:=aM ni.out 1));try go_wp2_with(first|((with_reducible refine aY (N:=1) rfl ?_);refine FN #[.string aA,.string aC] 72 ?_;intro Ms hg jm hbox hb;have akm:=dS hb;have akn:=ae.mk (hbox);have ako:=jL hg;have akp:=jL hg;clear HB;have HB:=akm;have ni:=akn;have Mt:=ako;have Mv:=akp;clear akm akn ako akp;clear hb hbox hg;have Bo:=Nl ni;have Bp:=Nn ni;have Bq:=aM ni.out 0;have Br:=aM ni.out 1))|go_quiet (first|((with_reducible refine aY (N:=1) rfl ?_);refine FN #[.string aA,.string aC] 72 ?_;intro Ms hg jm hbox hb;have ni:=ae.mk (hbox);have Mt:=jL hg;have Mv:=jL hg;replace HB:=dS hb;clear hb hbox hg;have Bo:=Nl ni;have Bp:=Nn ni;have Bq:=aM ni.out 0;have Br:=aM ni.out 1)|(go_at_call 97;(with_reducible refine(eF.calls k aA false _ A3.out).mono ?_);rintro e w' ⟨rfl,⟨nd,rfl⟩⟩;(try first|exact⟨rfl,_,World.drewN_drewN _ _ _⟩|exact⟨rfl,_,Eq.trans (World.drewN_drewN _ _ _) (congrArg (World.drewN _) (Nat.add_assoc _ _ _))⟩)));try go_wp2_with(first|((with_reducible refine aY (N:=1) rfl ?_);refine FN #[.string aA,.string aC] 72 ?_;intro Ms hg jm hbox hb;have Vf:=dS hb;have Yu:=ae.mk (hbox);have Yv:=jL hg;have Yw:=jL hg;clear HB;have HB:=Vf;have ni:=Yu;have Mt:=Yv;have Mv:=Yw;clear Vf Yu Yv Yw;clear hb hbox hg;have Bo:=Nl ni;have Bp:=Nn ni;have Bq:=aM ni.out 0;have Br:=aM ni.out 1)|(go_at_call 97;(with_reducible refine(eF.calls k aA false _ A3.out).mono ?_);rintro e w' ⟨rfl,⟨nd,rfl⟩⟩;(try first|exact⟨rfl,_,World.drewN_drewN _ _ _⟩|exact⟨rfl,_,Eq.trans (World.drewN_drewN _ _ _) (congrArg (World.drewN _) (Nat.add_assoc _ _ _))⟩)))|go_quiet (first|((with_reducible refine aY (N:=1) rfl ?_);refine FN #[.string aA,.string aC] 72 ?_;intro Ms hg jm hbox hb;have ni:=ae.mk (hbox);have Mt:=jL hg;have Mv:=jL hg;replace HB:=dS hb;clear hb hbox hg;have Bo:=Nl ni;have Bp:=Nn ni;have Bq:=aM ni.out 0;have Br:=aM ni.out 1)|(go_at_call 97;(with_reducible refine(eF.calls k aA true _ A3.out).mono ?_);rintro e w' ⟨rfl,⟨nd,rfl⟩⟩;(try first|exact⟨rfl,_,World.drewN_drewN _ _ _⟩|exact⟨rfl,_,Eq.trans (World.drewN_drewN _ _ _) (congrArg (World.drewN _) (Nat.add_assoc _ _ _))⟩)));try go_wp2_with(first|((with_reducible refine aY (N:=1) rfl ?_);refine FN #[.string aA,.string aC] 72 ?_;intro Ms hg jm hbox hb;have zV:=dS hb;have Lf:=ae.mk (hbox);have akq:=jL hg;have akr:=jL hg;clear HB;have HB:=zV;have ni:=Lf;have Mt:=akq;have Mv:=akr;clear zV Lf akq akr;clear hb hbox hg;have Bo:=Nl ni;have Bp:=Nn ni;have Bq:=aM ni.out 0;have Br:=aM ni.out 1)|(go_at_call 97;(with_reducible refine(eF.calls k aA true _ A3.out).mono ?_);rintro e w' ⟨rfl,⟨nd,rfl⟩⟩;(try first|exact⟨rfl,_,World.drewN_drewN _ _ _⟩|exact⟨rfl,_,Eq.trans (World.drewN_drewN _ _ _) (congrArg (World.drewN _) (Nat.add_assoc _ _ _))⟩)))|go_quiet (first|((with_reducible refine aY (N:=1) rfl ?_);refine FN #[.string aA,.string aC] 72 ?_;intro Ms hg jm hbox hb;have ni:=ae.mk (hbox);have Mt:=jL hg;have Mv:=jL hg;replace HB:=dS hb;clear hb hbox hg;have Bo:=Nl ni;have Bp:=Nn ni;have Bq:=aM ni.out 0;have Br:=aM ni.out 1)|(go_at_call 97;(with_reducible refine(eF.calls k aA true _ A3.out).mono ?_);rintro e w' ⟨rfl,⟨nd,rfl⟩⟩;(try first|exact⟨rfl,_,World.drewN_drewN _ _ _⟩|exact⟨rfl,_,Eq.trans (World.drewN_drewN _ _ _) (congrArg (World.drewN _) (Nat.add_assoc _ _ _))⟩))|(go_at_call 98;(with_reducible refine(fG.calls k aC false _ A6.out).mono ?_);rintro e w' ⟨rfl,⟨nd,rfl⟩⟩;(try first|exact⟨rfl,_,World.drewN_drewN _ _ _⟩|exact⟨rfl,_,Eq.trans (World.drewN_drewN _ _ _) (congrArg (World.drewN _) (Nat.add_assoc _ _ _))⟩)));try go_wp2_with(first|((with_reducible refine aY (N:=1) rfl ?_);refine FN #[.string aA,.string aC] 72 ?_;intro Ms hg jm hbox hb;have Ag:=dS hb;have zR:=ae.mk (hbox);have KY:=jL hg;have Yy:=jL hg;clear HB;have HB:=Ag;have ni:=zR;have Mt:=KY;have Mv:=Yy;clear Ag zR KY Yy;clear hb hbox hg;have Bo:=Nl ni;have Bp:=Nn ni;have Bq:=aM ni.out 0;have Br:=aM ni.out 1)|(go_at_call 97;(with_reducible refine(eF.calls k aA true _ A3.out).mono ?_);rintro e w' ⟨rfl,⟨nd,rfl⟩⟩;(try first|exact⟨rfl,_,World.drewN_drewN _ _ _⟩|exact⟨rfl,_,Eq.trans (World.drewN_drewN _ _ _) (congrArg (World.drewN _) (Nat.add_assoc _ _ _))⟩))|(go_at_call 98;(with_reducible refine(fG.calls k aC false _ A6.out).mono ?_);rintro e w' ⟨rfl,⟨nd,rfl⟩⟩;(try first|exact⟨rfl,_,World.drewN_drewN _ _ _⟩|exact⟨rfl,_,Eq.trans (World.drewN_drewN _ _ _) (congrArg (World.drewN _) (Nat.add_assoc _ _ _))⟩)))|go_quiet (first|((with_reducible refine aY (N:=1) rfl ?_);refine FN #[.string aA,.string aC] 72 ?_;intro Ms hg jm hbox hb;have ni:=ae.mk (hbox);have Mt:=jL hg;have Mv:=jL hg;replace HB:=dS hb;clear hb hbox hg;have Bo:=Nl ni;have Bp:=Nn ni;have Bq:=aM ni.out 0;have Br:=aM ni.out 1)|(go_at_call 97;(with_reducible refine(eF.calls k aA true _ A3.out).mono ?_);rintro e w' ⟨rfl,⟨nd,rfl⟩⟩;(try first|exact⟨rfl,_,World.drewN_drewN _ _ _⟩|exact⟨rfl,_,Eq.trans (World.drewN_drewN _ _ _) (congrArg (World.drewN _) (Nat.add_assoc _ _ _))⟩))|(go_at_call 98;(with_reducible refine(fG.calls k aC true _ A6.out).mono ?_);rintro e w' ⟨rfl,⟨nd,rfl⟩⟩;(try first|exact⟨rfl,_,World.drewN_drewN _ _ _⟩|exact⟨rfl,_,Eq.trans (World.drewN_drewN _ _ _) (congrArg (World.drewN _) (Nat.add_assoc _ _ _))⟩))|(go_at_call 99;(with_reducible refine(eQ.calls k aC agD _ A8.out).mono ?_);rintro e w' ⟨rfl,⟨nd,rfl⟩⟩;(try first|exact⟨rfl,_,World.drewN_drewN _ _ _⟩|exact⟨rfl,_,Eq.trans (World.drewN_drewN _ _ _) (congrArg (World.drewN _) (Nat.add_assoc _ _ _))⟩)));try go_wp2_with(first|((with_reducible refine aY (N:=1) rfl ?_);refine FN #[.string aA,.string aC] 72 ?_;intro Ms hg jm hbox hb;have aks:=dS hb;have KW:=ae.mk (hbox);have KX:=jL hg;have YD:=jL hg;clear HB;have HB:=aks;have ni:=KW;have Mt:=KX;have Mv:=YD;clear aks KW KX YD;clear hb hbox hg;have Bo:=Nl ni;have Bp:=Nn ni;have Bq:=aM ni.out 0;have Br:=aM ni.out 1)|(go_at_call 97;(with_reducible refine(eF.calls k aA true _ A3.out).mono ?_);rintro e w' ⟨rfl,⟨nd,rfl⟩⟩;(try first|exact⟨rfl,_,World.drewN_drewN _ _ _⟩|exact⟨rfl,_,Eq.trans (World.drewN_drewN _ _ _) (congrArg (World.drewN _) (Nat.add_assoc _ _ _))⟩))|(go_at_call 98;(with_reducible refine(fG.calls k aC true _ A6.out).mono ?_);rintro e w' ⟨rfl,⟨nd,rfl⟩⟩;(try first|exact⟨rfl,_,World.drewN_drewN _ _ _⟩|exact⟨rfl,_,Eq.trans (World.drewN_drewN _ _ _) (congrArg (World.drewN _) (Nat.add_assoc _ _ _))⟩))|(go_at_call 99;(with_reducible refine(eQ.calls k aC agD _ A8.out).mono ?_);rintro e w' ⟨rfl,⟨nd,rfl⟩⟩;(try first|exact⟨rfl,_,World.drewN_drewN _ _ _⟩|exact⟨rfl,_,Eq.trans (World.drewN_drewN _ _ _) (congrArg (World.drewN _) (Nat.add_assoc _ _ _))⟩))))
  go_ret
  exact⟨nG,dN⟩):p:=h
theorem jO.calls (k:Nat) (aA aC:ByteArray) (r:Bool) (w:World) (h:jO.f k aA aC=some r) :
  Calls Tryz.prog 58 #[.agg #[.string aA,.string aC]] w fun e w'=>e = .returned (.bool r)∧Below w.heap.size w w':=by
 have RY:=Tryz.underlying72;have HB:=ae.mk (Below.refl w.heap.size w);have H:=h;clear h;unfold jO.f at H;replace H:=gI H;rcases H with⟨c2,nk,-,H⟩|⟨c2,nk,-,H⟩
 ·have wB:decide (aA.size≤40)=true:=aT aa;clear c2;replace H:=gD H;obtain⟨ass,A3,H⟩:=H;replace H:=gB H;rcases H with⟨rfl,H⟩|⟨rfl,H⟩
  ·replace H:=gI H;rcases H with⟨c5,qh,-,H⟩|⟨c5,qh,-,H⟩
   ·have Al:decide (aC.size≤190)=true:=aT aa;clear c5;replace H:=gD H;obtain⟨ast,A6,H⟩:=H;replace H:=gB H;rcases H with⟨rfl,H⟩|⟨rfl,H⟩
    ·replace H:=gD H;obtain⟨agD,A8,H⟩:=H;exact jO.e0
    ·exact jO.e0
   ·have Al:decide (aC.size≤190)=false:=aN aa;clear c5;exact jO.e0
  ·exact jO.e0
 ·have wB:decide (aA.size≤40)=false:=aN aa;clear c2;exact jO.e0

end Go.Proofs.YtfhllanhldbkkaaGreatDoor.P
