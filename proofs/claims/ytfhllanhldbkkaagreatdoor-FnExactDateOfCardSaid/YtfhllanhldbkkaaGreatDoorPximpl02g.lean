import Derived.Test.YtfhllanhldbkkaaGreatDoorPx0
import Derived.Test.YtfhllanhldbkkaaGreatDoorPximpl01a
import Derived.Test.YtfhllanhldbkkaaGreatDoorPximpl02c
import Derived.Test.YtfhllanhldbkkaaGreatDoorWC
namespace Go.Proofs.YtfhllanhldbkkaaGreatDoor.P
set_option maxHeartbeats 8000000
set_option maxRecDepth 100000
open Go.RowKit Go.Proofs.YtfhllanhldbkkaaGreatDoorW.ax Go.Proofs.YtfhllanhldbkkaaGreatDoorW.aD Go.Proofs.YtfhllanhldbkkaaGreatDoorW.aH
attribute [local go_sem] nZ oh qI qJ mq mr om oo   -- for this text's walks alone
set_option linter.unusedVariables false
set_option linter.unusedSimpArgs false

def iK.f (k:Nat) (a0:Int):Option (ByteArray):=(iy.f a0).bind fun aju=>(if aju=true then((dI.f k a0).bind fun zU=>((vv.f).bind fun qd=>((lh.f a0).bind fun oV=>(if 0≤oV then(if oV<(qd.length:Int) then(if 0≤3 then(if 3≤((cZ ByteArray.empty qd oV).size:Int) then(if((cZ ByteArray.empty qd oV).extract 0 3).size+2≤9223372036854775807 then((dP.f k zU.2.2.1 2).bind fun sN=>(if(((cZ ByteArray.empty qd oV).extract 0 3)++(⟨#[44,32]⟩:af)).size+sN.size≤9223372036854775807 then(if((((cZ ByteArray.empty qd oV).extract 0 3)++(⟨#[44,32]⟩:af))++sN).size+1≤9223372036854775807 then((pz.f).bind fun uU=>(if 0≤(wrap64 (zU.2.1-1)) then(if(wrap64 (zU.2.1-1))<(uU.length:Int) then(if(((((cZ ByteArray.empty qd oV).extract 0 3)++(⟨#[44,32]⟩:af))++sN)++(⟨#[32]⟩:af)).size+(cZ ByteArray.empty uU (wrap64 (zU.2.1-1))).size≤9223372036854775807 then(if((((((cZ ByteArray.empty qd oV).extract 0 3)++(⟨#[44,32]⟩:af))++sN)++(⟨#[32]⟩:af))++(cZ ByteArray.empty uU (wrap64 (zU.2.1-1)))).size+1≤9223372036854775807 then((dP.f k zU.1 4).bind fun Ee=>(if(((((((cZ ByteArray.empty qd oV).extract 0 3)++(⟨#[44,32]⟩:af))++sN)++(⟨#[32]⟩:af))++(cZ ByteArray.empty uU (wrap64 (zU.2.1-1))))++(⟨#[32]⟩:af)).size+Ee.size≤9223372036854775807 then(if((((((((cZ ByteArray.empty qd oV).extract 0 3)++(⟨#[44,32]⟩:af))++sN)++(⟨#[32]⟩:af))++(cZ ByteArray.empty uU (wrap64 (zU.2.1-1))))++(⟨#[32]⟩:af))++Ee).size+1≤9223372036854775807 then((kE.f k zU.1 zU.2.1 zU.2.2.1 zU.2.2.2.1 zU.2.2.2.2.1 zU.2.2.2.2.2).bind fun Le=>(if(((((((((cZ ByteArray.empty qd oV).extract 0 3)++(⟨#[44,32]⟩:af))++sN)++(⟨#[32]⟩:af))++(cZ ByteArray.empty uU (wrap64 (zU.2.1-1))))++(⟨#[32]⟩:af))++Ee)++(⟨#[32]⟩:af)).size+Le.size≤9223372036854775807 then(if((((((((((cZ ByteArray.empty qd oV).extract 0 3)++(⟨#[44,32]⟩:af))++sN)++(⟨#[32]⟩:af))++(cZ ByteArray.empty uU (wrap64 (zU.2.1-1))))++(⟨#[32]⟩:af))++Ee)++(⟨#[32]⟩:af))++Le).size+4≤9223372036854775807 then(some (((((((((((cZ ByteArray.empty qd oV).extract 0 3)++(⟨#[44,32]⟩:af))++sN)++(⟨#[32]⟩:af))++(cZ ByteArray.empty uU (wrap64 (zU.2.1-1))))++(⟨#[32]⟩:af))++Ee)++(⟨#[32]⟩:af))++Le)++(⟨#[32,71,77,84]⟩:af))) else(none)) else(none))) else(none)) else(none))) else(none)) else(none)) else(none)) else(none))) else(none)) else(none))) else(none)) else(none)) else(none)) else(none)) else(none))))) else(some (⟨#[]⟩:af)))
def iK.T4 : Bool×List (List Nat×List Nat):=(true,[([],[]),([],[]),([1,0],[1]),([0,2],[0,2]),([3],[3]),([4],[4]),([5],[5]),([],[]),([7],[7]),([8,2],[8]),([6,9],[6,9]),([10],[10]),([9],[]),([],[]),([13],[13]),([14],[14]),([12,15],[12,15]),([16],[16]),([11,17],[11,17]),([18],[18]),([],[]),([20],[20]),([21,12],[21]),([19,22],[19,22]),([23],[23]),([],[]),([25,22],[25]),([24,26],[24,26]),([27],[27]),([28,26,0,1,2,3,4,5,6,7,8,9,10,11,12,13,14,15,16,17,18,19,20,21,22,23,24,25,26,27,28],[28])])
def iK.B4 : List Nat:=[0,0,3,7,15,31,63,0,128,391,1023,2047,903,0,8192,24576,62343,127879,262143,524287,0,1048576,3150727,8388607,16777215,0,40899463,134217727,268435455,536870911]
theorem iK.aaA : rP .any (opsOf Tryz.f136 4)=iK.T4:=by kernel_rfl
theorem iK.SS : kD iK.T4.2 iK.B4=true:=by kernel_rfl
theorem iK.K4 {P:Program} {md:Region.Mode} {ops:Array Oper} {Q:Exit→Act→World→Prop} {S T:World→Prop}:∀(fuel:Nat) (l:Array Bool) (a:Act) (w:World),S w→T w→dX P md ops Q (fun w=>S w∧T w) [] fuel l a w→dX P md ops Q S [] fuel l a w
 |0,_,_,_,_,_,h=>h
 |fuel+1,_,_,_,hS,hT,h=>⟨h.1,fun i hi=>wpOp_mono (fun a' w' h'=>⟨fun _ _=>(h'.1 List.not_mem_nil ⟨hS,hT⟩).1,K4 fuel _ a' w' (h'.1 List.not_mem_nil ⟨hS,hT⟩).1 (h'.1 List.not_mem_nil ⟨hS,hT⟩).2 h'.2⟩) (h.2 i hi)⟩
theorem iK.calls (k:Nat) (a0:Int) (r:ByteArray) (w:World) (h:iK.f k a0=some r) (HT0:pY w) :
  Calls Tryz.prog 136 #[.int .i64 a0] w fun e w'=>e = .returned (.string r)∧Below w.heap.size w w':=by
 have HT:=ae.mk HT0;clear HT0;have GH:=Tryz.underlying117;have HB:=ae.mk (Below.refl w.heap.size w);have H:=h;clear h;unfold iK.f at H;replace H:=gD H;obtain⟨aju,A2,H⟩:=H;replace H:=gB H;rcases H with⟨rfl,H⟩|⟨rfl,H⟩
 ·replace H:=gD H;obtain⟨⟨Me,Mf,Mg,P8,P9,Qa⟩,A4,H⟩:=H;dsimp only at H;replace H:=gD H;obtain⟨qd,A5,H⟩:=H;replace H:=gD H;obtain⟨oV,A6,H⟩:=H;replace H:=gN H;obtain⟨-,uR,-,H⟩:=H;replace H:=gN H;obtain⟨-,tO,-,H⟩:=H;replace H:=gN H;obtain⟨-,Gz,xY,H⟩:=H;replace H:=gN H;obtain⟨-,L6,yS,H⟩:=H;replace H:=gN H;obtain⟨c11,JO,xA,H⟩:=H;try have afn:(9223372036854775807<((cZ ByteArray.empty qd oV).extract 0 3).size+2)=False:=eq_false (Nat.not_lt.2 c11)
  try have atK:(9223372036854775807<min 3 (cZ ByteArray.empty qd oV).size+2)=False:=by have h_:=afn;simpa only[ByteArray.size_extract,Nat.sub_zero] using h_
  replace H:=gD H;obtain⟨sN,LU,H⟩:=H;replace H:=gN H;obtain⟨c13,H9,zP,H⟩:=H;try have abH:(9223372036854775807<(((cZ ByteArray.empty qd oV).extract 0 3)++(⟨#[44,32]⟩:af)).size+sN.size)=False:=eq_false (Nat.not_lt.2 c13)
  try have abI:(9223372036854775807<((cZ ByteArray.empty qd oV).extract 0 3).size+2+sN.size)=False:=by have h_:=c13;simp only[ByteArray.size_append] at h_;exact eq_false (Nat.not_lt.2 h_)
  try have atL:(9223372036854775807<min 3 (cZ ByteArray.empty qd oV).size+2+sN.size)=False:=by have h_:=abI;simpa only[ByteArray.size_extract,Nat.sub_zero] using h_
  replace H:=gN H;obtain⟨c14,U2,Ma,H⟩:=H;try have abg:(9223372036854775807<((((cZ ByteArray.empty qd oV).extract 0 3)++(⟨#[44,32]⟩:af))++sN).size+1)=False:=eq_false (Nat.not_lt.2 c14)
  try have abJ:(9223372036854775807<((cZ ByteArray.empty qd oV).extract 0 3).size+2+sN.size+1)=False:=by have h_:=c14;simp only[ByteArray.size_append] at h_;exact eq_false (Nat.not_lt.2 h_)
  try have aoW:(9223372036854775807<min 3 (cZ ByteArray.empty qd oV).size+2+sN.size+1)=False:=by have h_:=abJ;simpa only[ByteArray.size_extract,Nat.sub_zero] using h_
  replace H:=gD H;obtain⟨uU,V5,H⟩:=H;obtain⟨FT,Mh⟩:∃ j_:Int,(wrap64 (Mf-1))=j_:=⟨_,rfl⟩;(first|rw[Mh] at H|simp only[Mh] at H ⊢)
  (try rw[Mh] at A2)
  (try rw[Mh] at A4)
  (try rw[Mh] at A5)
  (try rw[Mh] at A6)
  (try rw[Mh] at LU)
  (try rw[Mh] at V5)
  have atM:(IntKind.i64.wrap (Mf-1))=FT:=(iE _).trans Mh;replace H:=gN H;obtain⟨-,Bh,-,H⟩:=H;replace H:=gN H;obtain⟨-,Sy,-,H⟩:=H;replace H:=gN H;obtain⟨c19,U3,Mc,H⟩:=H;try have ajv:(9223372036854775807<(((((cZ ByteArray.empty qd oV).extract 0 3)++(⟨#[44,32]⟩:af))++sN)++(⟨#[32]⟩:af)).size+(cZ ByteArray.empty uU (FT)).size)=False:=eq_false (Nat.not_lt.2 c19)
  try have afo:(9223372036854775807<((cZ ByteArray.empty qd oV).extract 0 3).size+2+sN.size+1+(cZ ByteArray.empty uU (FT)).size)=False:=by have h_:=c19;simp only[ByteArray.size_append] at h_;exact eq_false (Nat.not_lt.2 h_)
  try have atN:(9223372036854775807<min 3 (cZ ByteArray.empty qd oV).size+2+sN.size+1+(cZ ByteArray.empty uU (FT)).size)=False:=by have h_:=afo;simpa only[ByteArray.size_extract,Nat.sub_zero] using h_
  replace H:=gN H;obtain⟨c20,Oo,Ex,H⟩:=H;try have X4:(9223372036854775807<((((((cZ ByteArray.empty qd oV).extract 0 3)++(⟨#[44,32]⟩:af))++sN)++(⟨#[32]⟩:af))++(cZ ByteArray.empty uU (FT))).size+1)=False:=eq_false (Nat.not_lt.2 c20)
  try have X5:(9223372036854775807<((cZ ByteArray.empty qd oV).extract 0 3).size+2+sN.size+1+(cZ ByteArray.empty uU (FT)).size+1)=False:=by have h_:=c20;simp only[ByteArray.size_append] at h_;exact eq_false (Nat.not_lt.2 h_)
  try have apw:(9223372036854775807<min 3 (cZ ByteArray.empty qd oV).size+2+sN.size+1+(cZ ByteArray.empty uU (FT)).size+1)=False:=by have h_:=X5;simpa only[ByteArray.size_extract,Nat.sub_zero] using h_
  replace H:=gD H;obtain⟨Ee,A21,H⟩:=H;replace H:=gN H;obtain⟨c22,UU,UW,H⟩:=H;try have ajw:(9223372036854775807<(((((((cZ ByteArray.empty qd oV).extract 0 3)++(⟨#[44,32]⟩:af))++sN)++(⟨#[32]⟩:af))++(cZ ByteArray.empty uU (FT)))++(⟨#[32]⟩:af)).size+Ee.size)=False:=eq_false (Nat.not_lt.2 c22)
  try have abK:(9223372036854775807<((cZ ByteArray.empty qd oV).extract 0 3).size+2+sN.size+1+(cZ ByteArray.empty uU (FT)).size+1+Ee.size)=False:=by have h_:=c22;simp only[ByteArray.size_append] at h_;exact eq_false (Nat.not_lt.2 h_)
  try have atO:(9223372036854775807<min 3 (cZ ByteArray.empty qd oV).size+2+sN.size+1+(cZ ByteArray.empty uU (FT)).size+1+Ee.size)=False:=by have h_:=abK;simpa only[ByteArray.size_extract,Nat.sub_zero] using h_
  replace H:=gN H;obtain⟨c23,U7,SE,H⟩:=H;try have ajx:(9223372036854775807<((((((((cZ ByteArray.empty qd oV).extract 0 3)++(⟨#[44,32]⟩:af))++sN)++(⟨#[32]⟩:af))++(cZ ByteArray.empty uU (FT)))++(⟨#[32]⟩:af))++Ee).size+1)=False:=eq_false (Nat.not_lt.2 c23)
  try have abL:(9223372036854775807<((cZ ByteArray.empty qd oV).extract 0 3).size+2+sN.size+1+(cZ ByteArray.empty uU (FT)).size+1+Ee.size+1)=False:=by have h_:=c23;simp only[ByteArray.size_append] at h_;exact eq_false (Nat.not_lt.2 h_)
  try have atP:(9223372036854775807<min 3 (cZ ByteArray.empty qd oV).size+2+sN.size+1+(cZ ByteArray.empty uU (FT)).size+1+Ee.size+1)=False:=by have h_:=abL;simpa only[ByteArray.size_extract,Nat.sub_zero] using h_
  replace H:=gD H;obtain⟨Le,A24,H⟩:=H;replace H:=gN H;obtain⟨P7,SV,Fs,H⟩:=H;try have afp:(9223372036854775807<(((((((((cZ ByteArray.empty qd oV).extract 0 3)++(⟨#[44,32]⟩:af))++sN)++(⟨#[32]⟩:af))++(cZ ByteArray.empty uU (FT)))++(⟨#[32]⟩:af))++Ee)++(⟨#[32]⟩:af)).size+Le.size)=False:=eq_false (Nat.not_lt.2 P7)
  try have abM:(9223372036854775807<((cZ ByteArray.empty qd oV).extract 0 3).size+2+sN.size+1+(cZ ByteArray.empty uU (FT)).size+1+Ee.size+1+Le.size)=False:=by have h_:=P7;simp only[ByteArray.size_append] at h_;exact eq_false (Nat.not_lt.2 h_)
  try have atQ:(9223372036854775807<min 3 (cZ ByteArray.empty qd oV).size+2+sN.size+1+(cZ ByteArray.empty uU (FT)).size+1+Ee.size+1+Le.size)=False:=by have h_:=abM;simpa only[ByteArray.size_extract,Nat.sub_zero] using h_
  replace H:=gN H;obtain⟨c26,U4,K5,H⟩:=H;try have aoX:(9223372036854775807<((((((((((cZ ByteArray.empty qd oV).extract 0 3)++(⟨#[44,32]⟩:af))++sN)++(⟨#[32]⟩:af))++(cZ ByteArray.empty uU (FT)))++(⟨#[32]⟩:af))++Ee)++(⟨#[32]⟩:af))++Le).size+4)=False:=eq_false (Nat.not_lt.2 c26)
  try have aeN:(9223372036854775807<((cZ ByteArray.empty qd oV).extract 0 3).size+2+sN.size+1+(cZ ByteArray.empty uU (FT)).size+1+Ee.size+1+Le.size+4)=False:=by have h_:=c26;simp only[ByteArray.size_append] at h_;exact eq_false (Nat.not_lt.2 h_)
  try have atn:(9223372036854775807<min 3 (cZ ByteArray.empty qd oV).size+2+sN.size+1+(cZ ByteArray.empty uU (FT)).size+1+Ee.size+1+Le.size+4)=False:=by have h_:=aeN;simpa only[ByteArray.size_extract,Nat.sub_zero] using h_
  obtain rfl:=cu H;go_enter Tryz.func136,Tryz.ntmps136;try go_wp2_with(first|((with_reducible refine ag (f:=37) rfl ?_);refine aG (some 5) rfl rfl Tryz.func37 aK rfl #[.int .i64 a0] rfl eu ?_;(with_reducible refine(iy.calls a0 true _ A2.out).mono ?_);rintro e w' ⟨rfl,⟨nd,rfl⟩⟩;refine⟨_,rfl,?_⟩)|((with_reducible refine ag (f:=176) rfl ?_);refine aG (some 8) rfl rfl Tryz.func176 aK rfl #[.int .i64 a0] rfl eu ?_;(with_reducible refine(dI.calls k a0 Me Mf Mg P8 P9 Qa _ A4.out).mono ?_);rintro e jm ⟨rfl,hb⟩;refine⟨_,rfl,?_⟩;replace HB:=dS hb;(try clear hb))|((with_reducible refine aY (N:=3) rfl ?_);refine jX #[.int .i64 0,.int .i64 0,.int .i64 0,.int .i64 0,.int .i64 0,.int .i64 0] 117 ?_;intro qE hg ku hbox hb;have jR:=ae.mk (hbox);have atS:=jL hg;replace HB:=dS hb;clear hb hbox hg;obtain⟨_,_,_,_,_,_⟩:=kY jR;obtain⟨_,_,_,_,_,_⟩:=qK jR))
  have Ag:ae (((((((ku.setCell ⟨qE,0,none⟩ (.int .i64 Me)).setCell ⟨qE,1,none⟩ (.int .i64 Mf)).setCell ⟨qE,2,none⟩ (.int .i64 Mg)).setCell ⟨qE,3,none⟩ (.int .i64 P8)).setCell ⟨qE,4,none⟩ (.int .i64 P9)).setCell ⟨qE,5,none⟩ (.int .i64 Qa)).heap[qE]? = some (.cells #[.int .i64 Me,.int .i64 Mf,.int .i64 Mg,.int .i64 P8,.int .i64 P9,.int .i64 Qa] 117 (0,0))):=⟨yg⟩;have zV:ae (Below w.heap.size w ((((((ku.setCell ⟨qE,0,none⟩ (.int .i64 Me)).setCell ⟨qE,1,none⟩ (.int .i64 Mf)).setCell ⟨qE,2,none⟩ (.int .i64 Mg)).setCell ⟨qE,3,none⟩ (.int .i64 P8)).setCell ⟨qE,4,none⟩ (.int .i64 P9)).setCell ⟨qE,5,none⟩ (.int .i64 Qa))):=⟨dN⟩;(try clear jR)
  (try clear HB)
  generalize((((((ku.setCell ⟨qE,0,none⟩ (.int .i64 Me)).setCell ⟨qE,1,none⟩ (.int .i64 Mf)).setCell ⟨qE,2,none⟩ (.int .i64 Mg)).setCell ⟨qE,3,none⟩ (.int .i64 P8)).setCell ⟨qE,4,none⟩ (.int .i64 P9)).setCell ⟨qE,5,none⟩ (.int .i64 Qa))=zO at Ag zV ⊢;have jR:=Ag;have HB:=zV;clear Ag zV;replace jR:=ae.mk (bJ jR.out);replace HB:=ae.mk (di HB.out);refine lL (n:=30) (S:=fun w'=>w'.cell? ⟨qE,0,none⟩=some (.int .i64 Me)∧w'.cell? ⟨qE,1,none⟩=some (.int .i64 Mf)∧w'.cell? ⟨qE,2,none⟩=some (.int .i64 Mg)∧w'.cell? ⟨qE,3,none⟩=some (.int .i64 P8)∧w'.cell? ⟨qE,4,none⟩=some (.int .i64 P9)∧w'.cell? ⟨qE,5,none⟩=some (.int .i64 Qa)) (ds:=[]) ⟨(ai jR.out 0).trans rfl,(ai jR.out 1).trans rfl,(ai jR.out 2).trans rfl,(ai jR.out 3).trans rfl,(ai jR.out 4).trans rfl,(ai jR.out 5).trans rfl⟩ (fun hHeld=>?_);refine fu iK.aaA iK.SS (fun HT_ HW_=>?_);generalize zO.drew=Fq at jR HB hHeld ⊢;refine dn 1 (some 10) ?_;refine dn 7 (some 16) ?_;refine iC 8 (some 17) (hy:=Or.inl ⟨by rfl,by rintro w' ⟨s0,s1,s2,s3,s4,s5⟩;go_simp;with_reducible rfl⟩) ?_;refine dn 13 (some 22) ?_;refine iC 14 (some 23) (hy:=Or.inl ⟨by rfl,by rintro w' ⟨s0,s1,s2,s3,s4,s5⟩;go_simp;with_reducible rfl⟩) ?_;refine dn 15 (some 24) ?_;refine dn 20 (some 29) ?_;refine iC 21 (some 30) (hy:=Or.inl ⟨by rfl,by rintro w' ⟨s0,s1,s2,s3,s4,s5⟩;go_simp;with_reducible rfl⟩) ?_;refine iC 25 (some 34) (hy:=Or.inl ⟨by rfl,by rintro w' ⟨s0,s1,s2,s3,s4,s5⟩;go_simp;with_reducible rfl⟩) ?_;refine iM (fun K hK=>?_);refine dV Tryz.func177 aK rfl #[] (by rfl) rfl rfl eu ?_;(with_reducible refine(vv.calls  qd _ A5.out).mono ?_);rintro e Jv ⟨awC,rfl,ho0,hb⟩;refine⟨_,rfl,?_⟩;have MC:=ae.mk (Kd.iT ho0 (bY dN));replace jR:=iG (g:=qE) hb;replace HB:=dS hb;(try clear hb)
  (try clear hb2)
  (try clear hk)
  (try clear hi)
  (try clear ho0)
  refine hK.out _ _ ⟨(ai jR.out 0).trans rfl,(ai jR.out 1).trans rfl,(ai jR.out 2).trans rfl,(ai jR.out 3).trans rfl,(ai jR.out 4).trans rfl,(ai jR.out 5).trans rfl⟩ (fun hHeld=>?_);clear hK K;refine eP ?_;refine iM (fun K hK=>?_);refine dV Tryz.func178 aK rfl #[.int .i64 a0] (by rfl) rfl rfl eu ?_;(with_reducible refine(lh.calls a0 oV _ A6.out).mono ?_);rintro e w' ⟨rfl,⟨nd,rfl⟩⟩;refine⟨_,rfl,?_⟩;obtain⟨ahB,ahC,W9⟩:=Kd.iA MC.out;(first|subst W9|(injection W9 with Jf Pk Jg;have Pm:=Jf.symm;have Pn:=Jg.symm;clear Jf Pk Jg;subst Pm;subst Pn))
  have afq:0≤(oV:Int):=bE gL;have afr:oV<(qd.length:Int):=bE gL;obtain⟨alZ,apx,X6⟩:=Kd.iV (Kd.bC MC.out).2.2 oV afq afr;cases apx
  replace afq:=eq_true afq;replace afr:=eq_true afr;refine hK.out _ _ ⟨(ai jR.out 0).trans rfl,(ai jR.out 1).trans rfl,(ai jR.out 2).trans rfl,(ai jR.out 3).trans rfl,(ai jR.out 4).trans rfl,(ai jR.out 5).trans rfl⟩ (fun hHeld=>?_);refine iK.K4 (T:=fun w'=>w'.cell? (alZ.add (oV).toNat)=some (.string (cZ ByteArray.empty qd oV))) _ _ _ _ hHeld X6 ?_;have hHeld:=And.intro hHeld X6;clear hK K;refine eP ?_;repeat(first|refine nU ?_ (hy:=Or.inl ⟨by rfl,by rintro w' ⟨⟨s0,s1,s2,s3,s4,s5⟩,s6⟩;go_simp;with_reducible rfl⟩)|refine fA ?_)
  refine iM (fun K hK=>?_);refine dV Tryz.func179 aK rfl #[.int .i64 Mg,.int .i64 2] (by rfl) rfl rfl eu ?_;with_reducible refine(dP.calls k Mg 2 sN _ LU.out ?hT).mono ?_
  case hT=>exact gJ HT
  rintro e VS ⟨rfl,hb⟩;have MS:=(hb.cell (World.block_lt_of_cell? _ _ (hHeld.2))).trans (hHeld.2);refine⟨_,rfl,?_⟩;replace MC:=ae.mk (Kd.dF adn hb);replace jR:=iG (g:=qE) hb;replace HB:=dS hb;(try clear hb)
  (try clear hb2)
  (try clear hk)
  (try clear hi)
  refine hK.out _ _ ⟨⟨(ai jR.out 0).trans rfl,(ai jR.out 1).trans rfl,(ai jR.out 2).trans rfl,(ai jR.out 3).trans rfl,(ai jR.out 4).trans rfl,(ai jR.out 5).trans rfl⟩,MS⟩ (fun hHeld=>?_);clear hK K;refine eP ?_;repeat(first|refine fA ?_)
  refine iM (fun K hK=>?_);refine dV Tryz.func171 aK rfl #[] (by rfl) rfl rfl eu ?_;(with_reducible refine(pz.calls  uU _ V5.out).mono ?_);rintro e PU ⟨awD,rfl,ho0,hb⟩;have MS:=(hb.cell (World.block_lt_of_cell? _ _ (hHeld.2))).trans (hHeld.2);refine⟨_,rfl,?_⟩;have Pv:=ae.mk (Kd.iT (Kd.mg ho0 (Kd.sQ adn)) (bY dN));replace MC:=ae.mk (Kd.IJ adn (Kd.mf ho0) hb);replace jR:=iG (g:=qE) hb;replace HB:=dS hb;(try clear hb)
  (try clear hb2)
  (try clear hk)
  (try clear hi)
  (try clear ho0)
  obtain⟨ah2,ah3,aaB⟩:=Kd.iA Pv.out;(first|subst aaB|(injection aaB with Jf Pk Jg;have Pm:=Jf.symm;have Pn:=Jg.symm;clear Jf Pk Jg;subst Pm;subst Pn))
  have afs:0≤((FT):Int):=bE gL;have aft:(FT)<(uU.length:Int):=bE gL;obtain⟨al0,apy,X7⟩:=Kd.iV (Kd.bC Pv.out).2.2 (FT) afs aft;cases apy
  replace afs:=eq_true afs;replace aft:=eq_true aft;refine hK.out _ _ ⟨⟨(ai jR.out 0).trans rfl,(ai jR.out 1).trans rfl,(ai jR.out 2).trans rfl,(ai jR.out 3).trans rfl,(ai jR.out 4).trans rfl,(ai jR.out 5).trans rfl⟩,MS⟩ (fun hHeld=>?_);refine iK.K4 (T:=fun w'=>w'.cell? (al0.add ((FT)).toNat)=some (.string (cZ ByteArray.empty uU (FT)))) _ _ _ _ hHeld X7 ?_;have hHeld:=And.intro hHeld X7;clear hK K;refine eP ?_;repeat(first|refine nU ?_ (hy:=Or.inl ⟨by rfl,by rintro w' ⟨⟨⟨s0,s1,s2,s3,s4,s5⟩,s6⟩,s7⟩;go_simp;with_reducible rfl⟩)|refine fA ?_)
  refine iM (fun K hK=>?_);refine dV Tryz.func179 aK rfl #[.int .i64 Me,.int .i64 4] (by rfl) rfl rfl eu ?_;with_reducible refine(dP.calls k Me 4 Ee _ A21.out ?hT).mono ?_
  case hT=>exact gJ HT
  rintro e VS ⟨rfl,hb⟩;have MS:=(hb.cell (World.block_lt_of_cell? _ _ (hHeld.1.2))).trans (hHeld.1.2);have GK:=(hb.cell (World.block_lt_of_cell? _ _ (hHeld.2))).trans (hHeld.2);refine⟨_,rfl,?_⟩;replace MC:=ae.mk (Kd.dF adn hb);replace Pv:=ae.mk (Kd.dF (by(with_reducible repeat(first|apply Kd.dW|apply Kd.dU|apply Kd.ek));exact Pv.out) hb);replace jR:=iG (g:=qE) hb;replace HB:=dS hb;(try clear hb)
  (try clear hb2)
  (try clear hk)
  (try clear hi)
  refine hK.out _ _ ⟨⟨⟨(ai jR.out 0).trans rfl,(ai jR.out 1).trans rfl,(ai jR.out 2).trans rfl,(ai jR.out 3).trans rfl,(ai jR.out 4).trans rfl,(ai jR.out 5).trans rfl⟩,MS⟩,GK⟩ (fun hHeld=>?_);clear hK K;refine eP ?_;repeat(first|refine fA ?_)
  refine iM (fun K hK=>?_);refine dV Tryz.func180 aK rfl #[.agg #[.int .i64 Me,.int .i64 Mf,.int .i64 Mg,.int .i64 P8,.int .i64 P9,.int .i64 Qa]] (by rfl) rfl rfl eu ?_;with_reducible refine(kE.calls k Me Mf Mg P8 P9 Qa Le _ A24.out ?hT).mono ?_
  case hT=>exact gJ HT
  rintro e VS ⟨rfl,hb⟩;have MS:=(hb.cell (World.block_lt_of_cell? _ _ (hHeld.1.2))).trans (hHeld.1.2);have GK:=(hb.cell (World.block_lt_of_cell? _ _ (hHeld.2))).trans (hHeld.2);refine⟨_,rfl,?_⟩;replace MC:=ae.mk (Kd.dF adn hb);replace Pv:=ae.mk (Kd.dF (by(with_reducible repeat(first|apply Kd.dW|apply Kd.dU|apply Kd.ek));exact Pv.out) hb);replace jR:=iG (g:=qE) hb;replace HB:=dS hb;(try clear hb)
  (try clear hb2)
  (try clear hk)
  (try clear hi)
  refine hK.out _ _ ⟨⟨⟨(ai jR.out 0).trans rfl,(ai jR.out 1).trans rfl,(ai jR.out 2).trans rfl,(ai jR.out 3).trans rfl,(ai jR.out 4).trans rfl,(ai jR.out 5).trans rfl⟩,MS⟩,GK⟩ (fun hHeld=>?_);clear hK K;refine eP ?_;repeat(first|refine fA ?_)
  refine mW (iR HT_.out aK) ?_;try go_wp2
  go_ret;exact⟨by first|rfl|(simp[jy,jA] <;> rfl)|(simp only[← Mh];first|rfl|(simp[jy,jA] <;> rfl))|(simp[*,jy,jA] <;> rfl),dN⟩
 ·obtain rfl:=cu H;go_enter Tryz.func136,Tryz.ntmps136;go_wp2_with(((with_reducible refine ag (f:=37) rfl ?_);refine aG (some 5) rfl rfl Tryz.func37 aK rfl #[.int .i64 a0] rfl eu ?_;(with_reducible refine(iy.calls a0 false _ A2.out).mono ?_);rintro e w' ⟨rfl,⟨nd,rfl⟩⟩;refine⟨_,rfl,?_⟩));go_ret;exact⟨nG,dN⟩


def fB.j0 : Nat→Int→Bool→Option (ByteArray)
 |0,_,_=>none
 |k+1,x0,x12=>if x12=true then(some (⟨#[]⟩:af)) else((dI.f k x0).bind fun zW=>((vv.f).bind fun uy=>((lh.f x0).bind fun rV=>(if 0≤rV then(if rV<(uy.length:Int) then(if(cZ ByteArray.empty uy rV).size+2≤9223372036854775807 then((dP.f k zW.2.2.1 2).bind fun xG=>(if((cZ ByteArray.empty uy rV)++(⟨#[44,32]⟩:af)).size+xG.size≤9223372036854775807 then(if(((cZ ByteArray.empty uy rV)++(⟨#[44,32]⟩:af))++xG).size+1≤9223372036854775807 then((pz.f).bind fun yU=>(if 0≤(wrap64 (zW.2.1-1)) then(if(wrap64 (zW.2.1-1))<(yU.length:Int) then(if((((cZ ByteArray.empty uy rV)++(⟨#[44,32]⟩:af))++xG)++(⟨#[45]⟩:af)).size+(cZ ByteArray.empty yU (wrap64 (zW.2.1-1))).size≤9223372036854775807 then(if(((((cZ ByteArray.empty uy rV)++(⟨#[44,32]⟩:af))++xG)++(⟨#[45]⟩:af))++(cZ ByteArray.empty yU (wrap64 (zW.2.1-1)))).size+1≤9223372036854775807 then((dP.f k zW.1 2).bind fun GL=>(if((((((cZ ByteArray.empty uy rV)++(⟨#[44,32]⟩:af))++xG)++(⟨#[45]⟩:af))++(cZ ByteArray.empty yU (wrap64 (zW.2.1-1))))++(⟨#[45]⟩:af)).size+GL.size≤9223372036854775807 then(if(((((((cZ ByteArray.empty uy rV)++(⟨#[44,32]⟩:af))++xG)++(⟨#[45]⟩:af))++(cZ ByteArray.empty yU (wrap64 (zW.2.1-1))))++(⟨#[45]⟩:af))++GL).size+1≤9223372036854775807 then((kE.f k zW.1 zW.2.1 zW.2.2.1 zW.2.2.2.1 zW.2.2.2.2.1 zW.2.2.2.2.2).bind fun OB=>(if((((((((cZ ByteArray.empty uy rV)++(⟨#[44,32]⟩:af))++xG)++(⟨#[45]⟩:af))++(cZ ByteArray.empty yU (wrap64 (zW.2.1-1))))++(⟨#[45]⟩:af))++GL)++(⟨#[32]⟩:af)).size+OB.size≤9223372036854775807 then(if(((((((((cZ ByteArray.empty uy rV)++(⟨#[44,32]⟩:af))++xG)++(⟨#[45]⟩:af))++(cZ ByteArray.empty yU (wrap64 (zW.2.1-1))))++(⟨#[45]⟩:af))++GL)++(⟨#[32]⟩:af))++OB).size+4≤9223372036854775807 then(some ((((((((((cZ ByteArray.empty uy rV)++(⟨#[44,32]⟩:af))++xG)++(⟨#[45]⟩:af))++(cZ ByteArray.empty yU (wrap64 (zW.2.1-1))))++(⟨#[45]⟩:af))++GL)++(⟨#[32]⟩:af))++OB)++(⟨#[32,71,77,84]⟩:af))) else(none)) else(none))) else(none)) else(none))) else(none)) else(none)) else(none)) else(none))) else(none)) else(none))) else(none)) else(none)) else(none)))))
def fB.f (k:Nat) (a0:Int):Option (ByteArray):=(iy.f a0).bind fun ajy=>(if ajy=true then((dI.f k a0).bind fun al1=>(fB.j0 k a0 (decide (al1.1>2069)))) else(fB.j0 k a0 true))
def fB.T4 : Bool×List (List Nat×List Nat):=(true,[([],[]),([],[]),([1,0],[1]),([0,2],[0,2]),([3],[3]),([4],[4]),([],[]),([6],[6]),([7,2],[7]),([5,8],[5,8]),([9],[9]),([8],[]),([],[]),([12],[12]),([13],[13]),([11,14],[11,14]),([15],[15]),([10,16],[10,16]),([17],[17]),([],[]),([19],[19]),([20,11],[20]),([18,21],[18,21]),([22],[22]),([],[]),([24,21],[24]),([23,25],[23,25]),([26],[26]),([27,25,0,1,2,3,4,5,6,7,8,9,10,11,12,13,14,15,16,17,18,19,20,21,22,23,24,25,26,27],[27])])
def fB.B4 : List Nat:=[0,0,3,7,15,31,0,64,199,511,1023,455,0,4096,12288,31175,63943,131071,262143,0,524288,1575367,4194303,8388607,0,20449735,67108863,134217727,268435455]
theorem fB.aaA : rP .any (opsOf Tryz.f137 4)=fB.T4:=by kernel_rfl
theorem fB.SS : kD fB.T4.2 fB.B4=true:=by kernel_rfl
theorem fB.K4 {P:Program} {md:Region.Mode} {ops:Array Oper} {Q:Exit→Act→World→Prop} {S T:World→Prop}:∀(fuel:Nat) (l:Array Bool) (a:Act) (w:World),S w→T w→dX P md ops Q (fun w=>S w∧T w) [] fuel l a w→dX P md ops Q S [] fuel l a w
 |0,_,_,_,_,_,h=>h
 |fuel+1,_,_,_,hS,hT,h=>⟨h.1,fun i hi=>wpOp_mono (fun a' w' h'=>⟨fun _ _=>(h'.1 List.not_mem_nil ⟨hS,hT⟩).1,K4 fuel _ a' w' (h'.1 List.not_mem_nil ⟨hS,hT⟩).1 (h'.1 List.not_mem_nil ⟨hS,hT⟩).2 h'.2⟩) (h.2 i hi)⟩
attribute [local go_sem] Instr.field asAgg List.getElem?_toArray List.getElem?_cons_zero List.getElem_toArray List.getElem_cons_zero in
theorem fB.calls (k:Nat) (a0:Int) (r:ByteArray) (w:World) (h:fB.f k a0=some r) (HT0:pY w) :
  Calls Tryz.prog 137 #[.int .i64 a0] w fun e w'=>e = .returned (.string r)∧Below w.heap.size w w':=by
 have HT:=ae.mk HT0;clear HT0;have GH:=Tryz.underlying117;have HB:=ae.mk (Below.refl w.heap.size w);have H:=h;clear h;unfold fB.f at H;have xZ:=ae.mk H;clear H;go_enter Tryz.func137,Tryz.ntmps137;go_upto_region 1 with(fail);go_cut [12] (fun v12 wc=>∃(kq:Nat) (R9:Bool),v12 = .bool R9∧ae (fB.j0 kq a0 R9=some r)∧ae (kq≤k)∧ae (Below w.heap.size w wc))
 case first=>
  have H:=xZ.out;clear xZ;replace H:=gD H;obtain⟨ajy,A3,H⟩:=H;replace H:=gB H;rcases H with⟨rfl,H⟩|⟨rfl,H⟩
  ·replace H:=gD H;obtain⟨⟨ajz,apz,apA,apB,apC,apD⟩,A5,H⟩:=H;dsimp only at H;have H':=ae.mk H;clear H;go_wp2_with(first|((with_reducible refine ag (f:=37) rfl ?_);refine aG (some 5) rfl rfl Tryz.func37 aK rfl #[.int .i64 a0] rfl eu ?_;(with_reducible refine(iy.calls a0 true _ A3.out).mono ?_);rintro e w' ⟨rfl,⟨nd,rfl⟩⟩;refine⟨_,rfl,?_⟩)|(go_at_call 176;(with_reducible refine(dI.calls k a0 ajz apz apA apB apC apD _ A5.out).mono ?_);rintro e jm ⟨rfl,hb⟩;replace HB:=dS hb;(try clear hb)));go_meet
   case rel=>exact⟨_,(decide (ajz>2069)),fI,H',⟨EC⟩,⟨dN⟩⟩
  ·have H':=ae.mk H;clear H;go_wp2_with(((with_reducible refine ag (f:=37) rfl ?_);refine aG (some 5) rfl rfl Tryz.func37 aK rfl #[.int .i64 a0] rfl eu ?_;(with_reducible refine(iy.calls a0 false _ A3.out).mono ?_);rintro e w' ⟨rfl,⟨nd,rfl⟩⟩;refine⟨_,rfl,?_⟩));go_meet
   case rel=>exact⟨_,(true),fI,H',⟨EC⟩,⟨dN⟩⟩
 case rest=>
  clear xZ;obtain⟨kq,R9,rfl,HA,Bu,HB⟩:=hcut;cases kq with
  |zero=>exact absurd HA.out (by simp[fB.j0])
  |succ uY=>
   have H:=HA.out;clear HA;simp only[fB.j0] at H;replace H:=gB H;rcases H with⟨rfl,H⟩|⟨rfl,H⟩
   ·obtain rfl:=cu H;go_wp2;go_ret;exact⟨nG,dN⟩
   ·replace H:=gD H;obtain⟨⟨Mi,Mj,Mk,Qb,Qc,Qd⟩,A8,H⟩:=H;dsimp only at H;replace H:=gD H;obtain⟨uy,A9,H⟩:=H;replace H:=gD H;obtain⟨rV,PS,H⟩:=H;replace H:=gI H;rcases H with⟨-,xA,-,H⟩|⟨c11,-,-,H⟩
    ·replace H:=gN H;obtain⟨-,wO,-,H⟩:=H;replace H:=gN H;obtain⟨c13,H9,zP,H⟩:=H;try have abH:(9223372036854775807<(cZ ByteArray.empty uy rV).size+2)=False:=eq_false (Nat.not_lt.2 c13)
     replace H:=gD H;obtain⟨xG,A14,H⟩:=H;replace H:=gN H;obtain⟨c15,LZ,Ew,H⟩:=H;try have apE:(9223372036854775807<((cZ ByteArray.empty uy rV)++(⟨#[44,32]⟩:af)).size+xG.size)=False:=eq_false (Nat.not_lt.2 c15)
     try have apF:(9223372036854775807<(cZ ByteArray.empty uy rV).size+2+xG.size)=False:=by have h_:=c15;simp only[ByteArray.size_append] at h_;exact eq_false (Nat.not_lt.2 h_)
     replace H:=gN H;obtain⟨c16,Ji,Ae,H⟩:=H;try have apG:(9223372036854775807<(((cZ ByteArray.empty uy rV)++(⟨#[44,32]⟩:af))++xG).size+1)=False:=eq_false (Nat.not_lt.2 c16)
     try have ajA:(9223372036854775807<(cZ ByteArray.empty uy rV).size+2+xG.size+1)=False:=by have h_:=c16;simp only[ByteArray.size_append] at h_;exact eq_false (Nat.not_lt.2 h_)
     replace H:=gD H;obtain⟨yU,ZN,H⟩:=H;obtain⟨JZ,OC⟩:∃ j_:Int,(wrap64 (Mj-1))=j_:=⟨_,rfl⟩;(first|rw[OC] at H|simp only[OC] at H ⊢)
     (try rw[OC] at A8)
     (try rw[OC] at A9)
     (try rw[OC] at PS)
     (try rw[OC] at A14)
     (try rw[OC] at ZN)
     have atT:(IntKind.i64.wrap (Mj-1))=JZ:=(iE _).trans OC;replace H:=gN H;obtain⟨-,Mc,-,H⟩:=H;replace H:=gN H;obtain⟨-,Ex,-,H⟩:=H;replace H:=gN H;obtain⟨c21,L8,Ey,H⟩:=H;try have aeM:(9223372036854775807<((((cZ ByteArray.empty uy rV)++(⟨#[44,32]⟩:af))++xG)++(⟨#[45]⟩:af)).size+(cZ ByteArray.empty yU (JZ)).size)=False:=eq_false (Nat.not_lt.2 c21)
     try have apH:(9223372036854775807<(cZ ByteArray.empty uy rV).size+2+xG.size+1+(cZ ByteArray.empty yU (JZ)).size)=False:=by have h_:=c21;simp only[ByteArray.size_append] at h_;exact eq_false (Nat.not_lt.2 h_)
     replace H:=gN H;obtain⟨c22,UU,UW,H⟩:=H;try have ajw:(9223372036854775807<(((((cZ ByteArray.empty uy rV)++(⟨#[44,32]⟩:af))++xG)++(⟨#[45]⟩:af))++(cZ ByteArray.empty yU (JZ))).size+1)=False:=eq_false (Nat.not_lt.2 c22)
     try have abK:(9223372036854775807<(cZ ByteArray.empty uy rV).size+2+xG.size+1+(cZ ByteArray.empty yU (JZ)).size+1)=False:=by have h_:=c22;simp only[ByteArray.size_append] at h_;exact eq_false (Nat.not_lt.2 h_)
     replace H:=gD H;obtain⟨GL,A23,H⟩:=H;replace H:=gN H;obtain⟨c24,SX,H6,H⟩:=H;try have ajB:(9223372036854775807<((((((cZ ByteArray.empty uy rV)++(⟨#[44,32]⟩:af))++xG)++(⟨#[45]⟩:af))++(cZ ByteArray.empty yU (JZ)))++(⟨#[45]⟩:af)).size+GL.size)=False:=eq_false (Nat.not_lt.2 c24)
     try have afu:(9223372036854775807<(cZ ByteArray.empty uy rV).size+2+xG.size+1+(cZ ByteArray.empty yU (JZ)).size+1+GL.size)=False:=by have h_:=c24;simp only[ByteArray.size_append] at h_;exact eq_false (Nat.not_lt.2 h_)
     replace H:=gN H;obtain⟨P7,SV,Fs,H⟩:=H;try have afp:(9223372036854775807<(((((((cZ ByteArray.empty uy rV)++(⟨#[44,32]⟩:af))++xG)++(⟨#[45]⟩:af))++(cZ ByteArray.empty yU (JZ)))++(⟨#[45]⟩:af))++GL).size+1)=False:=eq_false (Nat.not_lt.2 P7)
     try have abM:(9223372036854775807<(cZ ByteArray.empty uy rV).size+2+xG.size+1+(cZ ByteArray.empty yU (JZ)).size+1+GL.size+1)=False:=by have h_:=P7;simp only[ByteArray.size_append] at h_;exact eq_false (Nat.not_lt.2 h_)
     replace H:=gD H;obtain⟨OB,A26,H⟩:=H;replace H:=gN H;obtain⟨c27,abh,Oq,H⟩:=H;try have aeO:(9223372036854775807<((((((((cZ ByteArray.empty uy rV)++(⟨#[44,32]⟩:af))++xG)++(⟨#[45]⟩:af))++(cZ ByteArray.empty yU (JZ)))++(⟨#[45]⟩:af))++GL)++(⟨#[32]⟩:af)).size+OB.size)=False:=eq_false (Nat.not_lt.2 c27)
     try have abj:(9223372036854775807<(cZ ByteArray.empty uy rV).size+2+xG.size+1+(cZ ByteArray.empty yU (JZ)).size+1+GL.size+1+OB.size)=False:=by have h_:=c27;simp only[ByteArray.size_append] at h_;exact eq_false (Nat.not_lt.2 h_)
     replace H:=gN H;obtain⟨c28,XJ,SA,H⟩:=H;try have aji:(9223372036854775807<(((((((((cZ ByteArray.empty uy rV)++(⟨#[44,32]⟩:af))++xG)++(⟨#[45]⟩:af))++(cZ ByteArray.empty yU (JZ)))++(⟨#[45]⟩:af))++GL)++(⟨#[32]⟩:af))++OB).size+4)=False:=eq_false (Nat.not_lt.2 c28)
     try have abk:(9223372036854775807<(cZ ByteArray.empty uy rV).size+2+xG.size+1+(cZ ByteArray.empty yU (JZ)).size+1+GL.size+1+OB.size+4)=False:=by have h_:=c28;simp only[ByteArray.size_append] at h_;exact eq_false (Nat.not_lt.2 h_)
     obtain rfl:=cu H;try go_wp2_with(first|((with_reducible refine ag (f:=176) rfl ?_);refine aG (some 14) rfl rfl Tryz.func176 aK rfl #[.int .i64 a0] rfl eu ?_;(with_reducible refine(dI.calls uY a0 Mi Mj Mk Qb Qc Qd _ A8.out).mono ?_);rintro e ku ⟨rfl,hb⟩;refine⟨_,rfl,?_⟩;replace HB:=dS hb;(try clear hb))|((with_reducible refine aY (N:=3) rfl ?_);refine jX #[.int .i64 0,.int .i64 0,.int .i64 0,.int .i64 0,.int .i64 0,.int .i64 0] 117 ?_;intro qF hg pU hbox hb;have jS:=ae.mk (hbox);have atU:=jL hg;replace HB:=dS hb;clear hb hbox hg;obtain⟨_,_,_,_,_,_⟩:=kY jS;obtain⟨_,_,_,_,_,_⟩:=qK jS))
     have zV:ae (((((((pU.setCell ⟨qF,0,none⟩ (.int .i64 Mi)).setCell ⟨qF,1,none⟩ (.int .i64 Mj)).setCell ⟨qF,2,none⟩ (.int .i64 Mk)).setCell ⟨qF,3,none⟩ (.int .i64 Qb)).setCell ⟨qF,4,none⟩ (.int .i64 Qc)).setCell ⟨qF,5,none⟩ (.int .i64 Qd)).heap[qF]? = some (.cells #[.int .i64 Mi,.int .i64 Mj,.int .i64 Mk,.int .i64 Qb,.int .i64 Qc,.int .i64 Qd] 117 (0,0))):=⟨yg⟩;have Vf:ae (Below w.heap.size w ((((((pU.setCell ⟨qF,0,none⟩ (.int .i64 Mi)).setCell ⟨qF,1,none⟩ (.int .i64 Mj)).setCell ⟨qF,2,none⟩ (.int .i64 Mk)).setCell ⟨qF,3,none⟩ (.int .i64 Qb)).setCell ⟨qF,4,none⟩ (.int .i64 Qc)).setCell ⟨qF,5,none⟩ (.int .i64 Qd))):=⟨dN⟩;(try clear jS)
     (try clear HB)
     generalize((((((pU.setCell ⟨qF,0,none⟩ (.int .i64 Mi)).setCell ⟨qF,1,none⟩ (.int .i64 Mj)).setCell ⟨qF,2,none⟩ (.int .i64 Mk)).setCell ⟨qF,3,none⟩ (.int .i64 Qb)).setCell ⟨qF,4,none⟩ (.int .i64 Qc)).setCell ⟨qF,5,none⟩ (.int .i64 Qd))=Fq at zV Vf ⊢;have jS:=zV;have HB:=Vf;clear zV Vf;replace jS:=ae.mk (bJ jS.out);replace HB:=ae.mk (di HB.out);refine lL (n:=29) (S:=fun w'=>w'.cell? ⟨qF,0,none⟩=some (.int .i64 Mi)∧w'.cell? ⟨qF,1,none⟩=some (.int .i64 Mj)∧w'.cell? ⟨qF,2,none⟩=some (.int .i64 Mk)∧w'.cell? ⟨qF,3,none⟩=some (.int .i64 Qb)∧w'.cell? ⟨qF,4,none⟩=some (.int .i64 Qc)∧w'.cell? ⟨qF,5,none⟩=some (.int .i64 Qd)) (ds:=[]) ⟨(ai jS.out 0).trans rfl,(ai jS.out 1).trans rfl,(ai jS.out 2).trans rfl,(ai jS.out 3).trans rfl,(ai jS.out 4).trans rfl,(ai jS.out 5).trans rfl⟩ (fun hHeld=>?_);refine fu fB.aaA fB.SS (fun HT_ HW_=>?_);generalize Fq.drew=Jv at jS HB hHeld ⊢;refine dn 1 (some 16) ?_;refine dn 6 (some 21) ?_;refine iC 7 (some 22) (hy:=Or.inl ⟨by rfl,by rintro w' ⟨s0,s1,s2,s3,s4,s5⟩;go_simp;with_reducible rfl⟩) ?_;refine dn 12 (some 27) ?_;refine iC 13 (some 28) (hy:=Or.inl ⟨by rfl,by rintro w' ⟨s0,s1,s2,s3,s4,s5⟩;go_simp;with_reducible rfl⟩) ?_;refine dn 14 (some 29) ?_;refine dn 19 (some 34) ?_;refine iC 20 (some 35) (hy:=Or.inl ⟨by rfl,by rintro w' ⟨s0,s1,s2,s3,s4,s5⟩;go_simp;with_reducible rfl⟩) ?_;refine iC 24 (some 39) (hy:=Or.inl ⟨by rfl,by rintro w' ⟨s0,s1,s2,s3,s4,s5⟩;go_simp;with_reducible rfl⟩) ?_;refine iM (fun K hK=>?_);refine dV Tryz.func177 aK rfl #[] (by rfl) rfl rfl eu ?_;(with_reducible refine(vv.calls  uy _ A9.out).mono ?_);rintro e NQ ⟨awE,rfl,ho0,hb⟩;refine⟨_,rfl,?_⟩;have ME:=ae.mk (Kd.iT ho0 (bY dN));replace jS:=iG (g:=qF) hb;replace HB:=dS hb;(try clear hb)
     (try clear hb2)
     (try clear hk)
     (try clear hi)
     (try clear ho0)
     refine hK.out _ _ ⟨(ai jS.out 0).trans rfl,(ai jS.out 1).trans rfl,(ai jS.out 2).trans rfl,(ai jS.out 3).trans rfl,(ai jS.out 4).trans rfl,(ai jS.out 5).trans rfl⟩ (fun hHeld=>?_);clear hK K;refine eP ?_;refine iM (fun K hK=>?_);refine dV Tryz.func178 aK rfl #[.int .i64 a0] (by rfl) rfl rfl eu ?_;(with_reducible refine(lh.calls a0 rV _ PS.out).mono ?_);rintro e w' ⟨rfl,⟨nd,rfl⟩⟩;refine⟨_,rfl,?_⟩;obtain⟨apI,apJ,afv⟩:=Kd.iA ME.out;(first|subst afv|(injection afv with Jf Pk Jg;have Pm:=Jf.symm;have Pn:=Jg.symm;clear Jf Pk Jg;subst Pm;subst Pn))
     have afw:0≤(rV:Int):=bE gL;have afx:rV<(uy.length:Int):=bE gL;obtain⟨al2,apK,X8⟩:=Kd.iV (Kd.bC ME.out).2.2 rV afw afx;cases apK
     replace afw:=eq_true afw;replace afx:=eq_true afx;refine hK.out _ _ ⟨(ai jS.out 0).trans rfl,(ai jS.out 1).trans rfl,(ai jS.out 2).trans rfl,(ai jS.out 3).trans rfl,(ai jS.out 4).trans rfl,(ai jS.out 5).trans rfl⟩ (fun hHeld=>?_);refine fB.K4 (T:=fun w'=>w'.cell? (al2.add (rV).toNat)=some (.string (cZ ByteArray.empty uy rV))) _ _ _ _ hHeld X8 ?_;have hHeld:=And.intro hHeld X8;clear hK K;refine eP ?_;repeat(first|refine nU ?_ (hy:=Or.inl ⟨by rfl,by rintro w' ⟨⟨s0,s1,s2,s3,s4,s5⟩,s6⟩;go_simp;with_reducible rfl⟩)|refine fA ?_)
     refine iM (fun K hK=>?_);refine dV Tryz.func179 aK rfl #[.int .i64 Mk,.int .i64 2] (by rfl) rfl rfl eu ?_;with_reducible refine(dP.calls uY Mk 2 xG _ A14.out ?hT).mono ?_
     case hT=>exact gJ HT
     rintro e PU ⟨rfl,hb⟩;have GK:=(hb.cell (World.block_lt_of_cell? _ _ (hHeld.2))).trans (hHeld.2);refine⟨_,rfl,?_⟩;replace ME:=ae.mk (Kd.dF ado hb);replace jS:=iG (g:=qF) hb;replace HB:=dS hb;(try clear hb)
     (try clear hb2)
     (try clear hk)
     (try clear hi)
     refine hK.out _ _ ⟨⟨(ai jS.out 0).trans rfl,(ai jS.out 1).trans rfl,(ai jS.out 2).trans rfl,(ai jS.out 3).trans rfl,(ai jS.out 4).trans rfl,(ai jS.out 5).trans rfl⟩,GK⟩ (fun hHeld=>?_);clear hK K;refine eP ?_;repeat(first|refine fA ?_)
     refine iM (fun K hK=>?_);refine dV Tryz.func171 aK rfl #[] (by rfl) rfl rfl eu ?_;(with_reducible refine(pz.calls  yU _ ZN.out).mono ?_);rintro e awF ⟨awG,rfl,ho0,hb⟩;have GK:=(hb.cell (World.block_lt_of_cell? _ _ (hHeld.2))).trans (hHeld.2);refine⟨_,rfl,?_⟩;have Pw:=ae.mk (Kd.iT (Kd.mg ho0 (Kd.sQ ado)) (bY dN));replace ME:=ae.mk (Kd.IJ ado (Kd.mf ho0) hb);replace jS:=iG (g:=qF) hb;replace HB:=dS hb;(try clear hb)
     (try clear hb2)
     (try clear hk)
     (try clear hi)
     (try clear ho0)
     obtain⟨ay1,ay2,apL⟩:=Kd.iA Pw.out;(first|subst apL|(injection apL with Jf Pk Jg;have Pm:=Jf.symm;have Pn:=Jg.symm;clear Jf Pk Jg;subst Pm;subst Pn))
     have afy:0≤((JZ):Int):=bE gL;have afz:(JZ)<(yU.length:Int):=bE gL;obtain⟨al3,apM,X9⟩:=Kd.iV (Kd.bC Pw.out).2.2 (JZ) afy afz;cases apM
     replace afy:=eq_true afy;replace afz:=eq_true afz;refine hK.out _ _ ⟨⟨(ai jS.out 0).trans rfl,(ai jS.out 1).trans rfl,(ai jS.out 2).trans rfl,(ai jS.out 3).trans rfl,(ai jS.out 4).trans rfl,(ai jS.out 5).trans rfl⟩,GK⟩ (fun hHeld=>?_);refine fB.K4 (T:=fun w'=>w'.cell? (al3.add ((JZ)).toNat)=some (.string (cZ ByteArray.empty yU (JZ)))) _ _ _ _ hHeld X9 ?_;have hHeld:=And.intro hHeld X9;clear hK K;refine eP ?_;repeat(first|refine nU ?_ (hy:=Or.inl ⟨by rfl,by rintro w' ⟨⟨⟨s0,s1,s2,s3,s4,s5⟩,s6⟩,s7⟩;go_simp;with_reducible rfl⟩)|refine fA ?_)
     refine iM (fun K hK=>?_);refine dV Tryz.func179 aK rfl #[.int .i64 Mi,.int .i64 2] (by rfl) rfl rfl eu ?_;with_reducible refine(dP.calls uY Mi 2 GL _ A23.out ?hT).mono ?_
     case hT=>exact gJ HT
     rintro e PU ⟨rfl,hb⟩;have GK:=(hb.cell (World.block_lt_of_cell? _ _ (hHeld.1.2))).trans (hHeld.1.2);have aaC:=(hb.cell (World.block_lt_of_cell? _ _ (hHeld.2))).trans (hHeld.2);refine⟨_,rfl,?_⟩;replace ME:=ae.mk (Kd.dF ado hb);replace Pw:=ae.mk (Kd.dF (by(with_reducible repeat(first|apply Kd.dW|apply Kd.dU|apply Kd.ek));exact Pw.out) hb);replace jS:=iG (g:=qF) hb;replace HB:=dS hb;(try clear hb)
     (try clear hb2)
     (try clear hk)
     (try clear hi)
     refine hK.out _ _ ⟨⟨⟨(ai jS.out 0).trans rfl,(ai jS.out 1).trans rfl,(ai jS.out 2).trans rfl,(ai jS.out 3).trans rfl,(ai jS.out 4).trans rfl,(ai jS.out 5).trans rfl⟩,GK⟩,aaC⟩ (fun hHeld=>?_);clear hK K;refine eP ?_;repeat(first|refine fA ?_)
     refine iM (fun K hK=>?_);refine dV Tryz.func180 aK rfl #[.agg #[.int .i64 Mi,.int .i64 Mj,.int .i64 Mk,.int .i64 Qb,.int .i64 Qc,.int .i64 Qd]] (by rfl) rfl rfl eu ?_;with_reducible refine(kE.calls uY Mi Mj Mk Qb Qc Qd OB _ A26.out ?hT).mono ?_
     case hT=>exact gJ HT
     rintro e PU ⟨rfl,hb⟩;have GK:=(hb.cell (World.block_lt_of_cell? _ _ (hHeld.1.2))).trans (hHeld.1.2);have aaC:=(hb.cell (World.block_lt_of_cell? _ _ (hHeld.2))).trans (hHeld.2);refine⟨_,rfl,?_⟩;replace ME:=ae.mk (Kd.dF ado hb);replace Pw:=ae.mk (Kd.dF (by(with_reducible repeat(first|apply Kd.dW|apply Kd.dU|apply Kd.ek));exact Pw.out) hb);replace jS:=iG (g:=qF) hb;replace HB:=dS hb;(try clear hb)
     (try clear hb2)
     (try clear hk)
     (try clear hi)
     refine hK.out _ _ ⟨⟨⟨(ai jS.out 0).trans rfl,(ai jS.out 1).trans rfl,(ai jS.out 2).trans rfl,(ai jS.out 3).trans rfl,(ai jS.out 4).trans rfl,(ai jS.out 5).trans rfl⟩,GK⟩,aaC⟩ (fun hHeld=>?_);clear hK K;refine eP ?_;repeat(first|refine fA ?_)
     refine mW (iR HT_.out aK) ?_;try go_wp2
     go_ret;exact⟨by first|rfl|(simp[jy,jA] <;> rfl)|(simp only[← OC];first|rfl|(simp[jy,jA] <;> rfl))|(simp[*,jy,jA] <;> rfl),dN⟩
    ·exact absurd H (by simp)

end Go.Proofs.YtfhllanhldbkkaaGreatDoor.P
