import Derived.Test.YtfhllanhldbkkaaGreatDoorPximpl02a
set_option maxHeartbeats 8000000
set_option maxRecDepth 100000
namespace Go.Proofs.YtfhllanhldbkkaaGreatDoor.P
open Go.RowKit Go.Proofs.YtfhllanhldbkkaaGreatDoorW.aW Go.Proofs.YtfhllanhldbkkaaGreatDoorW.eQ Go.Proofs.YtfhllanhldbkkaaGreatDoorW.fO
attribute [local go_sem] kV kW mE mF jP jQ kX kY dZ E8 E9 Fa Fb oU oV
set_option linter.unusedVariables false
set_option linter.unusedSimpArgs false

def gT.f (k:Nat) (a0:Int):Option (ByteArray):=(iT.f a0).bind fun awt=>(if awt=true then((dn.f k a0).bind fun xZ=>((sw.f).bind fun xq=>((lL.f a0).bind fun uP=>(if 0<=uP then(if uP<(xq.length:Int) then(if 0<=3 then(if 3<=((ed ByteArray.empty xq uP).size:Int) then(if((ed ByteArray.empty xq uP).extract 0 3).size+2<=9223372036854775807 then((dG.f k xZ.2.2.1 2).bind fun BI=>(if(((ed ByteArray.empty xq uP).extract 0 3)++(⟨#[44,32]⟩:af)).size+BI.size<=9223372036854775807 then(if((((ed ByteArray.empty xq uP).extract 0 3)++(⟨#[44,32]⟩:af))++BI).size+1<=9223372036854775807 then((mK.f).bind fun Co=>(if 0<=(wrap64 (xZ.2.1-1)) then(if(wrap64 (xZ.2.1-1))<(Co.length:Int) then(if(((((ed ByteArray.empty xq uP).extract 0 3)++(⟨#[44,32]⟩:af))++BI)++(⟨#[32]⟩:af)).size+(ed ByteArray.empty Co (wrap64 (xZ.2.1-1))).size<=9223372036854775807 then(if((((((ed ByteArray.empty xq uP).extract 0 3)++(⟨#[44,32]⟩:af))++BI)++(⟨#[32]⟩:af))++(ed ByteArray.empty Co (wrap64 (xZ.2.1-1)))).size+1<=9223372036854775807 then((dG.f k xZ.1 4).bind fun Mf=>(if(((((((ed ByteArray.empty xq uP).extract 0 3)++(⟨#[44,32]⟩:af))++BI)++(⟨#[32]⟩:af))++(ed ByteArray.empty Co (wrap64 (xZ.2.1-1))))++(⟨#[32]⟩:af)).size+Mf.size<=9223372036854775807 then(if((((((((ed ByteArray.empty xq uP).extract 0 3)++(⟨#[44,32]⟩:af))++BI)++(⟨#[32]⟩:af))++(ed ByteArray.empty Co (wrap64 (xZ.2.1-1))))++(⟨#[32]⟩:af))++Mf).size+1<=9223372036854775807 then((jS.f k xZ.1 xZ.2.1 xZ.2.2.1 xZ.2.2.2.1 xZ.2.2.2.2.1 xZ.2.2.2.2.2).bind fun Vj=>(if(((((((((ed ByteArray.empty xq uP).extract 0 3)++(⟨#[44,32]⟩:af))++BI)++(⟨#[32]⟩:af))++(ed ByteArray.empty Co (wrap64 (xZ.2.1-1))))++(⟨#[32]⟩:af))++Mf)++(⟨#[32]⟩:af)).size+Vj.size<=9223372036854775807 then(if((((((((((ed ByteArray.empty xq uP).extract 0 3)++(⟨#[44,32]⟩:af))++BI)++(⟨#[32]⟩:af))++(ed ByteArray.empty Co (wrap64 (xZ.2.1-1))))++(⟨#[32]⟩:af))++Mf)++(⟨#[32]⟩:af))++Vj).size+4<=9223372036854775807 then(some (((((((((((ed ByteArray.empty xq uP).extract 0 3)++(⟨#[44,32]⟩:af))++BI)++(⟨#[32]⟩:af))++(ed ByteArray.empty Co (wrap64 (xZ.2.1-1))))++(⟨#[32]⟩:af))++Mf)++(⟨#[32]⟩:af))++Vj)++(⟨#[32,71,77,84]⟩:af))) else(none)) else(none))) else(none)) else(none))) else(none)) else(none)) else(none)) else(none))) else(none)) else(none))) else(none)) else(none)) else(none)) else(none)) else(none))))) else(some (⟨#[]⟩:af)))
def gT.T4 : Bool×List (List Nat×List Nat):=(true,[([],[]),([],[]),([1,0],[1]),([0,2],[0,2]),([3],[3]),([4],[4]),([5],[5]),([],[]),([7],[7]),([8,2],[8]),([6,9],[6,9]),([10],[10]),([9],[]),([],[]),([13],[13]),([14],[14]),([12,15],[12,15]),([16],[16]),([11,17],[11,17]),([18],[18]),([],[]),([20],[20]),([21,12],[21]),([19,22],[19,22]),([23],[23]),([],[]),([25,22],[25]),([24,26],[24,26]),([27],[27]),([28,26,0,1,2,3,4,5,6,7,8,9,10,11,12,13,14,15,16,17,18,19,20,21,22,23,24,25,26,27,28],[28])])
def gT.B4 : List Nat:=[0,0,3,7,15,31,63,0,128,391,1023,2047,903,0,8192,24576,62343,127879,262143,524287,0,1048576,3150727,8388607,16777215,0,40899463,134217727,268435455,536870911]
theorem gT.Y5 : pX .any (opsOf Tryz.f136 4)=gT.T4:=by kernel_rfl
theorem gT.Pw : jK gT.T4.2 gT.B4=true:=by kernel_rfl
theorem gT.Mg {P:Program} {md:Region.Mode} {ops:Array Oper} {Q:Exit->Act->World->Prop} {S T:World->Prop}:∀(fuel:Nat) (l:Array Bool) (a:Act) (w:World),S w->T w->dm P md ops Q (fun w=>S w/\T w) [] fuel l a w->dm P md ops Q S [] fuel l a w
 |0,_,_,_,_,_,h=>h
 |fuel+1,_,_,_,hS,hT,h=>⟨h.1,fun i hi=>wpOp_mono (fun a' w' h'=>⟨fun _ _=>(h'.1 List.not_mem_nil ⟨hS,hT⟩).1,Mg fuel _ a' w' (h'.1 List.not_mem_nil ⟨hS,hT⟩).1 (h'.1 List.not_mem_nil ⟨hS,hT⟩).2 h'.2⟩) (h.2 i hi)⟩
theorem gT.calls (k:Nat) (a0:Int) (r:ByteArray) (w:World) (h:gT.f k a0=some r) (HT0:nN w) :
  Calls Tryz.prog 136 #[.int .i64 a0] w fun e w'=>e = .returned (.string r)/\Below w.heap.size w w':=by
 have HT:=ae.mk HT0;clear HT0;have FR:=Tryz.underlying117;have HB:=ae.mk (Below.refl w.heap.size w);have H:=ae.mk h;clear h;unfold gT.f at H;rcases D6 H with⟨A2,H⟩|⟨A2,H⟩
 ·obtain⟨⟨Nq,Nr,Ns,RZ,R3,R4⟩,A4,H⟩:=xE H;dsimp only at H;obtain⟨xq,A5,H⟩:=xE H;obtain⟨uP,A6,H⟩:=xE H;obtain⟨-,Am,-,H⟩:=Ci H;obtain⟨-,zS,-,H⟩:=Ci H;obtain⟨-,aiM,LH,H⟩:=Ci H;obtain⟨-,aeY,Cm,H⟩:=Ci H;obtain⟨c11,aa8,EA,H⟩:=Ci H;try have aiO:=eq_false (Nat.not_lt.2 c11)
  try have aBH:(9223372036854775807<min 3 (ed ByteArray.empty xq uP).size+2)=False:=by have h_:=aiO;simpa only[ByteArray.size_extract,Nat.sub_zero] using h_
  obtain⟨BI,Y3,H⟩:=xE H;obtain⟨c13,GX,zi,H⟩:=Ci H;try have aiP:=eq_false (Nat.not_lt.2 c13)
  try(have I7:=c13;simp only[ByteArray.size_append,yP,List.length_cons,List.length_nil,Nat.zero_add,Nat.reduceAdd] at I7;replace I7:=eq_false (Nat.not_lt.2 I7))
  try have aBI:(9223372036854775807<min 3 (ed ByteArray.empty xq uP).size+2+BI.size)=False:=by have h_:=I7;simpa only[ByteArray.size_extract,Nat.sub_zero] using h_
  obtain⟨c14,R5,FV,H⟩:=Ci H;try have aeZ:=eq_false (Nat.not_lt.2 c14)
  try(have I8:=c14;simp only[ByteArray.size_append,yP,List.length_cons,List.length_nil,Nat.zero_add,Nat.reduceAdd] at I8;replace I8:=eq_false (Nat.not_lt.2 I8))
  try have awu:(9223372036854775807<min 3 (ed ByteArray.empty xq uP).size+2+BI.size+1)=False:=by have h_:=I8;simpa only[ByteArray.size_extract,Nat.sub_zero] using h_
  obtain⟨Co,A15,H⟩:=xE H;obtain⟨SX,Nt⟩:∃ j_:Int,(wrap64 (Nr-1))=j_:=⟨_,rfl⟩;(first|rw[Nt] at H|simp only[Nt] at H ⊢)
  (try rw[Nt] at A2)
  (try rw[Nt] at A4)
  (try rw[Nt] at A5)
  (try rw[Nt] at A6)
  (try rw[Nt] at Y3)
  (try rw[Nt] at A15)
  have aBJ:(IntKind.i64.wrap (Nr-1))=SX:=(jJ _).trans Nt;obtain⟨-,BG,-,H⟩:=Ci H;obtain⟨-,PM,-,H⟩:=Ci H;obtain⟨c19,Py,KY,H⟩:=Ci H;try have awv:=eq_false (Nat.not_lt.2 c19)
  try(have PN:=c19;simp only[ByteArray.size_append,yP,List.length_cons,List.length_nil,Nat.zero_add,Nat.reduceAdd] at PN;replace PN:=eq_false (Nat.not_lt.2 PN))
  try have aBK:(9223372036854775807<min 3 (ed ByteArray.empty xq uP).size+2+BI.size+1+(ed ByteArray.empty Co (SX)).size)=False:=by have h_:=PN;simpa only[ByteArray.size_extract,Nat.sub_zero] using h_
  obtain⟨c20,Nn,KZ,H⟩:=Ci H;try have ae0:=eq_false (Nat.not_lt.2 c20)
  try(have I9:=c20;simp only[ByteArray.size_append,yP,List.length_cons,List.length_nil,Nat.zero_add,Nat.reduceAdd] at I9;replace I9:=eq_false (Nat.not_lt.2 I9))
  try have aww:(9223372036854775807<min 3 (ed ByteArray.empty xq uP).size+2+BI.size+1+(ed ByteArray.empty Co (SX)).size+1)=False:=by have h_:=I9;simpa only[ByteArray.size_extract,Nat.sub_zero] using h_
  obtain⟨Mf,A21,H⟩:=xE H;obtain⟨c22,XW,RU,H⟩:=Ci H;try have aqk:=eq_false (Nat.not_lt.2 c22)
  try(have Ja:=c22;simp only[ByteArray.size_append,yP,List.length_cons,List.length_nil,Nat.zero_add,Nat.reduceAdd] at Ja;replace Ja:=eq_false (Nat.not_lt.2 Ja))
  try have aBL:(9223372036854775807<min 3 (ed ByteArray.empty xq uP).size+2+BI.size+1+(ed ByteArray.empty Co (SX)).size+1+Mf.size)=False:=by have h_:=Ja;simpa only[ByteArray.size_extract,Nat.sub_zero] using h_
  obtain⟨c23,aeH,XX,H⟩:=Ci H;try have aql:=eq_false (Nat.not_lt.2 c23)
  try(have Jb:=c23;simp only[ByteArray.size_append,yP,List.length_cons,List.length_nil,Nat.zero_add,Nat.reduceAdd] at Jb;replace Jb:=eq_false (Nat.not_lt.2 Jb))
  try have aBM:(9223372036854775807<min 3 (ed ByteArray.empty xq uP).size+2+BI.size+1+(ed ByteArray.empty Co (SX)).size+1+Mf.size+1)=False:=by have h_:=Jb;simpa only[ByteArray.size_extract,Nat.sub_zero] using h_
  obtain⟨Vj,A24,H⟩:=xE H;obtain⟨Z4,X3,Ck,H⟩:=Ci H;try have aqm:=eq_false (Nat.not_lt.2 Z4)
  try(have Jc:=Z4;simp only[ByteArray.size_append,yP,List.length_cons,List.length_nil,Nat.zero_add,Nat.reduceAdd] at Jc;replace Jc:=eq_false (Nat.not_lt.2 Jc))
  try have aBN:(9223372036854775807<min 3 (ed ByteArray.empty xq uP).size+2+BI.size+1+(ed ByteArray.empty Co (SX)).size+1+Mf.size+1+Vj.size)=False:=by have h_:=Jc;simpa only[ByteArray.size_extract,Nat.sub_zero] using h_
  obtain⟨c26,aqn,aaF,H⟩:=Ci H;try have awx:=eq_false (Nat.not_lt.2 c26)
  try(have PO:=c26;simp only[ByteArray.size_append,yP,List.length_cons,List.length_nil,Nat.zero_add,Nat.reduceAdd] at PO;replace PO:=eq_false (Nat.not_lt.2 PO))
  try have aBO:(9223372036854775807<min 3 (ed ByteArray.empty xq uP).size+2+BI.size+1+(ed ByteArray.empty Co (SX)).size+1+Mf.size+1+Vj.size+4)=False:=by have h_:=PO;simpa only[ByteArray.size_extract,Nat.sub_zero] using h_
  obtain rfl:=gK H.out;go_enter Tryz.func136,Tryz.ntmps136;try go_wp2_with(first|((with_reducible refine lS 37 rfl ?_);refine MW 5 rfl Tryz.func37 (iT.calls a0 true _ A2.out) fun nd=>?_)|((with_reducible refine lS 176 rfl ?_);refine vI 8 rfl Tryz.func176 (dn.calls k a0 Nq Nr Ns RZ R3 R4 _ A4.out) fun mo hb HB=>?_;clear hb)|((with_reducible refine vJ 3 rfl ?_);refine agk #[.int .i64 0,.int .i64 0,.int .i64 0,.int .i64 0,.int .i64 0,.int .i64 0] 117 ?_;clear HB;intro oN mV jl aBP HB;have _:=TQ jl))
  have yJ:ae (((((((mV.setCell ⟨oN,0,none⟩ (.int .i64 Nq)).setCell ⟨oN,1,none⟩ (.int .i64 Nr)).setCell ⟨oN,2,none⟩ (.int .i64 Ns)).setCell ⟨oN,3,none⟩ (.int .i64 RZ)).setCell ⟨oN,4,none⟩ (.int .i64 R3)).setCell ⟨oN,5,none⟩ (.int .i64 R4)).heap[oN]? = some (.cells #[.int .i64 Nq,.int .i64 Nr,.int .i64 Ns,.int .i64 RZ,.int .i64 R3,.int .i64 R4] 117 (0,0))):=⟨yz⟩;have yc:ae (Below w.heap.size w ((((((mV.setCell ⟨oN,0,none⟩ (.int .i64 Nq)).setCell ⟨oN,1,none⟩ (.int .i64 Nr)).setCell ⟨oN,2,none⟩ (.int .i64 Ns)).setCell ⟨oN,3,none⟩ (.int .i64 RZ)).setCell ⟨oN,4,none⟩ (.int .i64 R3)).setCell ⟨oN,5,none⟩ (.int .i64 R4))):=⟨dL⟩;(try clear jl)
  (try clear HB)
  generalize((((((mV.setCell ⟨oN,0,none⟩ (.int .i64 Nq)).setCell ⟨oN,1,none⟩ (.int .i64 Nr)).setCell ⟨oN,2,none⟩ (.int .i64 Ns)).setCell ⟨oN,3,none⟩ (.int .i64 RZ)).setCell ⟨oN,4,none⟩ (.int .i64 R3)).setCell ⟨oN,5,none⟩ (.int .i64 R4))=GH at yJ yc ⊢;have jl:=yJ;have HB:=yc;clear yJ yc;replace jl:=ae.mk (dh jl.out);replace HB:=ae.mk (bn HB.out);refine kJ (n:=30) (S:=fun w'=>w'.cell? ⟨oN,0,none⟩=some (.int .i64 Nq)/\w'.cell? ⟨oN,1,none⟩=some (.int .i64 Nr)/\w'.cell? ⟨oN,2,none⟩=some (.int .i64 Ns)/\w'.cell? ⟨oN,3,none⟩=some (.int .i64 RZ)/\w'.cell? ⟨oN,4,none⟩=some (.int .i64 R3)/\w'.cell? ⟨oN,5,none⟩=some (.int .i64 R4)) (ds:=[]) ⟨(ag jl.out 0).trans rfl,(ag jl.out 1).trans rfl,(ag jl.out 2).trans rfl,(ag jl.out 3).trans rfl,(ag jl.out 4).trans rfl,(ag jl.out 5).trans rfl⟩ (fun hHeld=>?_);refine dY gT.Y5 gT.Pw (fun HT_ HW_=>?_);generalize GH.drew=LG at jl HB hHeld ⊢;refine bN 1 (some 10) ?_;refine bN 7 (some 16) ?_;refine fQ 8 (some 17) (hy:=Or.inl ⟨by rfl,by rintro w' ⟨s0,s1,s2,s3,s4,s5⟩;go_simp;with_reducible rfl⟩) ?_;refine bN 13 (some 22) ?_;refine fQ 14 (some 23) (hy:=Or.inl ⟨by rfl,by rintro w' ⟨s0,s1,s2,s3,s4,s5⟩;go_simp;with_reducible rfl⟩) ?_;refine bN 15 (some 24) ?_;refine bN 20 (some 29) ?_;refine fQ 21 (some 30) (hy:=Or.inl ⟨by rfl,by rintro w' ⟨s0,s1,s2,s3,s4,s5⟩;go_simp;with_reducible rfl⟩) ?_;refine fQ 25 (some 34) (hy:=Or.inl ⟨by rfl,by rintro w' ⟨s0,s1,s2,s3,s4,s5⟩;go_simp;with_reducible rfl⟩) ?_;refine gV (fun K hK=>?_);refine zrl Tryz.func177 (sw.calls  xq _ A5.out) ?_;rintro e M7 ⟨aGs,rfl,ho0,hb⟩;refine⟨_,rfl,?_⟩;have NI:=ae.mk (Kd.gZ ho0 (bq dL));replace jl:=jr (g:=oN) hb;replace HB:=iC hb;(try clear hb)
  (try clear ho0)
  refine hK.out _ _ ⟨(ag jl.out 0).trans rfl,(ag jl.out 1).trans rfl,(ag jl.out 2).trans rfl,(ag jl.out 3).trans rfl,(ag jl.out 4).trans rfl,(ag jl.out 5).trans rfl⟩ (fun hHeld=>?_);clear hK K;refine dI ?_;refine gV (fun K hK=>?_);refine Iw Tryz.func178 (lL.calls a0 uP _ A6.out) fun nd=>?_;obtain⟨aIS,aIT,awy⟩:=Kd.dE NI.out;(first|subst awy|(injection awy with I1 Q5 I4;have Q6:=I1.symm;have Q7:=I4.symm;clear I1 Q5 I4;subst Q6;subst Q7))
  have aiQ:0<=(uP:Int):=aX gq;have aiR:uP<(xq.length:Int):=aX gq;obtain⟨as6,awz,aa9⟩:=Kd.iM (Kd.aJ NI.out).2.2 uP aiQ aiR;cases awz
  replace aiQ:=eq_true aiQ;replace aiR:=eq_true aiR;refine hK.out _ _ ⟨(ag jl.out 0).trans rfl,(ag jl.out 1).trans rfl,(ag jl.out 2).trans rfl,(ag jl.out 3).trans rfl,(ag jl.out 4).trans rfl,(ag jl.out 5).trans rfl⟩ (fun hHeld=>?_);refine gT.Mg (T:=fun w'=>w'.cell? (as6.add (uP).toNat)=some (.string (ed ByteArray.empty xq uP))) _ _ _ _ hHeld aa9 ?_;have hHeld:=And.intro hHeld aa9;clear hK K;refine dI ?_;repeat(first|refine mr ?_ (hy:=Or.inl ⟨by rfl,by rintro w' ⟨⟨s0,s1,s2,s3,s4,s5⟩,s6⟩;go_simp;with_reducible rfl⟩)|refine ek ?_)
  refine gV (fun K hK=>?_);refine lQ Tryz.func179 eB rfl #[.int .i64 Ns,.int .i64 2] (by rfl) rfl rfl Iu ?_;with_reducible refine(dG.calls k Ns 2 BI _ Y3.out ?hT).mono ?_
  case hT=>exact kG HT
  rintro e alq ⟨rfl,hb⟩;have Oo:=(hb.cell (World.block_lt_of_cell? _ _ (hHeld.2))).trans (hHeld.2);refine⟨_,rfl,?_⟩;replace NI:=ae.mk (Kd.bz ahj hb);replace jl:=jr (g:=oN) hb;replace HB:=iC hb;(try clear hb)
  refine hK.out _ _ ⟨⟨(ag jl.out 0).trans rfl,(ag jl.out 1).trans rfl,(ag jl.out 2).trans rfl,(ag jl.out 3).trans rfl,(ag jl.out 4).trans rfl,(ag jl.out 5).trans rfl⟩,Oo⟩ (fun hHeld=>?_);clear hK K;refine dI ?_;repeat(first|refine ek ?_)
  refine gV (fun K hK=>?_);refine lQ Tryz.func171 eB rfl #[] (by rfl) rfl rfl Iu ?_;(with_reducible refine(mK.calls  Co _ A15.out).mono ?_);rintro e aeA ⟨aGt,rfl,ho0,hb⟩;have Oo:=(hb.cell (World.block_lt_of_cell? _ _ (hHeld.2))).trans (hHeld.2);refine⟨_,rfl,?_⟩;have Rk:=ae.mk (Kd.gZ (Kd.oF ho0 (Kd.vG ahj)) (bq dL));replace NI:=ae.mk (Kd.EX ahj (Kd.nH ho0) hb);replace jl:=jr (g:=oN) hb;replace HB:=iC hb;(try clear hb)
  (try clear ho0)
  obtain⟨alH,alI,adV⟩:=Kd.dE Rk.out;(first|subst adV|(injection adV with I1 Q5 I4;have Q6:=I1.symm;have Q7:=I4.symm;clear I1 Q5 I4;subst Q6;subst Q7))
  have aiS:0<=((SX):Int):=aX gq;have aiT:(SX)<(Co.length:Int):=aX gq;obtain⟨as7,awC,aba⟩:=Kd.iM (Kd.aJ Rk.out).2.2 (SX) aiS aiT;cases awC
  replace aiS:=eq_true aiS;replace aiT:=eq_true aiT;refine hK.out _ _ ⟨⟨(ag jl.out 0).trans rfl,(ag jl.out 1).trans rfl,(ag jl.out 2).trans rfl,(ag jl.out 3).trans rfl,(ag jl.out 4).trans rfl,(ag jl.out 5).trans rfl⟩,Oo⟩ (fun hHeld=>?_);refine gT.Mg (T:=fun w'=>w'.cell? (as7.add ((SX)).toNat)=some (.string (ed ByteArray.empty Co (SX)))) _ _ _ _ hHeld aba ?_;have hHeld:=And.intro hHeld aba;clear hK K;refine dI ?_;repeat(first|refine mr ?_ (hy:=Or.inl ⟨by rfl,by rintro w' ⟨⟨⟨s0,s1,s2,s3,s4,s5⟩,s6⟩,s7⟩;go_simp;with_reducible rfl⟩)|refine ek ?_)
  refine gV (fun K hK=>?_);refine lQ Tryz.func179 eB rfl #[.int .i64 Nq,.int .i64 4] (by rfl) rfl rfl Iu ?_;with_reducible refine(dG.calls k Nq 4 Mf _ A21.out ?hT).mono ?_
  case hT=>exact kG HT
  rintro e alq ⟨rfl,hb⟩;have Oo:=(hb.cell (World.block_lt_of_cell? _ _ (hHeld.1.2))).trans (hHeld.1.2);have FW:=(hb.cell (World.block_lt_of_cell? _ _ (hHeld.2))).trans (hHeld.2);refine⟨_,rfl,?_⟩;replace NI:=ae.mk (Kd.bz ahj hb);replace Rk:=ae.mk (Kd.bz (by(with_reducible repeat(first|apply Kd.bR|apply Kd.bP|apply Kd.bV));exact Rk.out) hb);replace jl:=jr (g:=oN) hb;replace HB:=iC hb;(try clear hb)
  refine hK.out _ _ ⟨⟨⟨(ag jl.out 0).trans rfl,(ag jl.out 1).trans rfl,(ag jl.out 2).trans rfl,(ag jl.out 3).trans rfl,(ag jl.out 4).trans rfl,(ag jl.out 5).trans rfl⟩,Oo⟩,FW⟩ (fun hHeld=>?_);clear hK K;refine dI ?_;repeat(first|refine ek ?_)
  refine gV (fun K hK=>?_);refine lQ Tryz.func180 eB rfl #[.agg #[.int .i64 Nq,.int .i64 Nr,.int .i64 Ns,.int .i64 RZ,.int .i64 R3,.int .i64 R4]] (by rfl) rfl rfl Iu ?_;with_reducible refine(jS.calls k Nq Nr Ns RZ R3 R4 Vj _ A24.out ?hT).mono ?_
  case hT=>exact kG HT
  rintro e alq ⟨rfl,hb⟩;have Oo:=(hb.cell (World.block_lt_of_cell? _ _ (hHeld.1.2))).trans (hHeld.1.2);have FW:=(hb.cell (World.block_lt_of_cell? _ _ (hHeld.2))).trans (hHeld.2);refine⟨_,rfl,?_⟩;replace NI:=ae.mk (Kd.bz ahj hb);replace Rk:=ae.mk (Kd.bz (by(with_reducible repeat(first|apply Kd.bR|apply Kd.bP|apply Kd.bV));exact Rk.out) hb);replace jl:=jr (g:=oN) hb;replace HB:=iC hb;(try clear hb)
  refine hK.out _ _ ⟨⟨⟨(ag jl.out 0).trans rfl,(ag jl.out 1).trans rfl,(ag jl.out 2).trans rfl,(ag jl.out 3).trans rfl,(ag jl.out 4).trans rfl,(ag jl.out 5).trans rfl⟩,Oo⟩,FW⟩ (fun hHeld=>?_);clear hK K;refine dI ?_;repeat(first|refine ek ?_)
  refine lh (gP HT_.out eB) ?_;try go_wp2
  go_ret;exact⟨by first|rfl|(simp[iN,iO] <;> rfl)|(simp only[<- Nt];first|rfl|(simp[iN,iO] <;> rfl))|(simp[*,iN,iO] <;> rfl),dL⟩
 ·obtain rfl:=gK H.out;go_enter Tryz.func136,Tryz.ntmps136;go_wp2_with(((with_reducible refine lS 37 rfl ?_);refine MW 5 rfl Tryz.func37 (iT.calls a0 false _ A2.out) fun nd=>?_));go_ret;exact⟨su,dL⟩
@[reducible,instance] def gT.c:=jM.of 0 Tryz.func136 @gT.calls


def eF.j0 : Nat->Int->Bool->Option (ByteArray)
 |0,_,_=>none
 |k+1,x0,x12=>if x12=true then(some (⟨#[]⟩:af)) else((dn.f k x0).bind fun yf=>((sw.f).bind fun FX=>((lL.f x0).bind fun BJ=>(if 0<=BJ then(if BJ<(FX.length:Int) then(if(ed ByteArray.empty FX BJ).size+2<=9223372036854775807 then((dG.f k yf.2.2.1 2).bind fun Mh=>(if((ed ByteArray.empty FX BJ)++(⟨#[44,32]⟩:af)).size+Mh.size<=9223372036854775807 then(if(((ed ByteArray.empty FX BJ)++(⟨#[44,32]⟩:af))++Mh).size+1<=9223372036854775807 then((mK.f).bind fun K4=>(if 0<=(wrap64 (yf.2.1-1)) then(if(wrap64 (yf.2.1-1))<(K4.length:Int) then(if((((ed ByteArray.empty FX BJ)++(⟨#[44,32]⟩:af))++Mh)++(⟨#[45]⟩:af)).size+(ed ByteArray.empty K4 (wrap64 (yf.2.1-1))).size<=9223372036854775807 then(if(((((ed ByteArray.empty FX BJ)++(⟨#[44,32]⟩:af))++Mh)++(⟨#[45]⟩:af))++(ed ByteArray.empty K4 (wrap64 (yf.2.1-1)))).size+1<=9223372036854775807 then((dG.f k yf.1 2).bind fun Vk=>(if((((((ed ByteArray.empty FX BJ)++(⟨#[44,32]⟩:af))++Mh)++(⟨#[45]⟩:af))++(ed ByteArray.empty K4 (wrap64 (yf.2.1-1))))++(⟨#[45]⟩:af)).size+Vk.size<=9223372036854775807 then(if(((((((ed ByteArray.empty FX BJ)++(⟨#[44,32]⟩:af))++Mh)++(⟨#[45]⟩:af))++(ed ByteArray.empty K4 (wrap64 (yf.2.1-1))))++(⟨#[45]⟩:af))++Vk).size+1<=9223372036854775807 then((jS.f k yf.1 yf.2.1 yf.2.2.1 yf.2.2.2.1 yf.2.2.2.2.1 yf.2.2.2.2.2).bind fun abb=>(if((((((((ed ByteArray.empty FX BJ)++(⟨#[44,32]⟩:af))++Mh)++(⟨#[45]⟩:af))++(ed ByteArray.empty K4 (wrap64 (yf.2.1-1))))++(⟨#[45]⟩:af))++Vk)++(⟨#[32]⟩:af)).size+abb.size<=9223372036854775807 then(if(((((((((ed ByteArray.empty FX BJ)++(⟨#[44,32]⟩:af))++Mh)++(⟨#[45]⟩:af))++(ed ByteArray.empty K4 (wrap64 (yf.2.1-1))))++(⟨#[45]⟩:af))++Vk)++(⟨#[32]⟩:af))++abb).size+4<=9223372036854775807 then(some ((((((((((ed ByteArray.empty FX BJ)++(⟨#[44,32]⟩:af))++Mh)++(⟨#[45]⟩:af))++(ed ByteArray.empty K4 (wrap64 (yf.2.1-1))))++(⟨#[45]⟩:af))++Vk)++(⟨#[32]⟩:af))++abb)++(⟨#[32,71,77,84]⟩:af))) else(none)) else(none))) else(none)) else(none))) else(none)) else(none)) else(none)) else(none))) else(none)) else(none))) else(none)) else(none)) else(none)))))
def eF.f (k:Nat) (a0:Int):Option (ByteArray):=(iT.f a0).bind fun awD=>(if awD=true then((dn.f k a0).bind fun as8=>(eF.j0 k a0 (decide (as8.1>2069)))) else(eF.j0 k a0 true))
def eF.T4 : Bool×List (List Nat×List Nat):=(true,[([],[]),([],[]),([1,0],[1]),([0,2],[0,2]),([3],[3]),([4],[4]),([],[]),([6],[6]),([7,2],[7]),([5,8],[5,8]),([9],[9]),([8],[]),([],[]),([12],[12]),([13],[13]),([11,14],[11,14]),([15],[15]),([10,16],[10,16]),([17],[17]),([],[]),([19],[19]),([20,11],[20]),([18,21],[18,21]),([22],[22]),([],[]),([24,21],[24]),([23,25],[23,25]),([26],[26]),([27,25,0,1,2,3,4,5,6,7,8,9,10,11,12,13,14,15,16,17,18,19,20,21,22,23,24,25,26,27],[27])])
def eF.B4 : List Nat:=[0,0,3,7,15,31,0,64,199,511,1023,455,0,4096,12288,31175,63943,131071,262143,0,524288,1575367,4194303,8388607,0,20449735,67108863,134217727,268435455]
theorem eF.Y5 : pX .any (opsOf Tryz.f137 4)=eF.T4:=by kernel_rfl
theorem eF.Pw : jK eF.T4.2 eF.B4=true:=by kernel_rfl
theorem eF.Mg {P:Program} {md:Region.Mode} {ops:Array Oper} {Q:Exit->Act->World->Prop} {S T:World->Prop}:∀(fuel:Nat) (l:Array Bool) (a:Act) (w:World),S w->T w->dm P md ops Q (fun w=>S w/\T w) [] fuel l a w->dm P md ops Q S [] fuel l a w
 |0,_,_,_,_,_,h=>h
 |fuel+1,_,_,_,hS,hT,h=>⟨h.1,fun i hi=>wpOp_mono (fun a' w' h'=>⟨fun _ _=>(h'.1 List.not_mem_nil ⟨hS,hT⟩).1,Mg fuel _ a' w' (h'.1 List.not_mem_nil ⟨hS,hT⟩).1 (h'.1 List.not_mem_nil ⟨hS,hT⟩).2 h'.2⟩) (h.2 i hi)⟩
attribute [local go_sem] Instr.field asAgg List.getElem?_toArray List.getElem?_cons_zero List.getElem_toArray List.getElem_cons_zero in
theorem eF.calls (k:Nat) (a0:Int) (r:ByteArray) (w:World) (h:eF.f k a0=some r) (HT0:nN w) :
  Calls Tryz.prog 137 #[.int .i64 a0] w fun e w'=>e = .returned (.string r)/\Below w.heap.size w w':=by
 have HT:=ae.mk HT0;clear HT0;have FR:=Tryz.underlying117;have HB:=ae.mk (Below.refl w.heap.size w);have H:=h;clear h;unfold eF.f at H;have vv:=ae.mk H;clear H;go_enter Tryz.func137,Tryz.ntmps137;go_upto_region 1 with(fail);go_cut [12] (fun v12 wc=>∃(kq:Nat) (Vl:Bool),v12 = .bool Vl/\ae (eF.j0 kq a0 Vl=some r)/\ae (kq<=k)/\ae (Below w.heap.size w wc))
 case first=>
  have H:=vv.out;clear vv;replace H:=WU H;rcases H with⟨A3,H⟩|⟨A3,H⟩
  ·replace H:=gD H;obtain⟨⟨aqo,awE,awF,awG,awH,awI⟩,A5,H⟩:=H;dsimp only at H;replace H:=ae.mk H;go_wp2_with(first|((with_reducible refine lS 37 rfl ?_);refine MW 5 rfl Tryz.func37 (iT.calls a0 true _ A3.out) fun nd=>?_)|(go_at_call 176;(with_reducible refine(dn.calls k a0 aqo awE awF awG awH awI _ A5.out).mono ?_);rintro e mo ⟨rfl,hb⟩;replace HB:=iC hb;clear hb));go_meet
   case rel=>exact⟨_,(decide (aqo>2069)),kD,H,⟨Ld⟩,⟨dL⟩⟩
  ·replace H:=ae.mk H;go_wp2_with(((with_reducible refine lS 37 rfl ?_);refine MW 5 rfl Tryz.func37 (iT.calls a0 false _ A3.out) fun nd=>?_));go_meet
   case rel=>exact⟨_,(true),kD,H,⟨Ld⟩,⟨dL⟩⟩
 case rest=>
  clear vv;obtain⟨kq,Vl,rfl,HA,Ch,HB⟩:=hcut;cases kq with
  |zero=>exact absurd HA.out (by simp[eF.j0])
  |succ vC=>
   have H:=HA.out;clear HA;simp only[eF.j0] at H;replace H:=gB H;rcases H with⟨rfl,H⟩|⟨rfl,H⟩
   ·obtain rfl:=gK H;go_wp2;go_ret;exact⟨su,dL⟩
   ·replace H:=gD H;obtain⟨⟨Nu,Nv,Nw,R6,R7,R8⟩,A8,H⟩:=H;dsimp only at H;replace H:=gD H;obtain⟨FX,A9,H⟩:=H;replace H:=gD H;obtain⟨BJ,A10,H⟩:=H;replace H:=gI H;rcases H with⟨-,EA,-,H⟩|⟨c11,-,-,H⟩
    ·replace H:=gN H;obtain⟨-,Ab,-,H⟩:=H;replace H:=gN H;obtain⟨c13,GX,zi,H⟩:=H;try have aiP:=eq_false (Nat.not_lt.2 c13)
     replace H:=gD H;obtain⟨Mh,A14,H⟩:=H;replace H:=gN H;obtain⟨c15,Vm,Cj,H⟩:=H;try have awJ:=eq_false (Nat.not_lt.2 c15)
     try(have Vn:=c15;simp only[ByteArray.size_append,yP,List.length_cons,List.length_nil,Nat.zero_add,Nat.reduceAdd] at Vn;replace Vn:=eq_false (Nat.not_lt.2 Vn))
     replace H:=gN H;obtain⟨c16,KX,DD,H⟩:=H;try have awK:=eq_false (Nat.not_lt.2 c16)
     try(have R9:=c16;simp only[ByteArray.size_append,yP,List.length_cons,List.length_nil,Nat.zero_add,Nat.reduceAdd] at R9;replace R9:=eq_false (Nat.not_lt.2 R9))
     replace H:=gD H;obtain⟨K4,ZZ,H⟩:=H;obtain⟨agA,PQ⟩:∃ j_:Int,(wrap64 (Nv-1))=j_:=⟨_,rfl⟩;(first|rw[PQ] at H|simp only[PQ] at H ⊢)
     (try rw[PQ] at A8)
     (try rw[PQ] at A9)
     (try rw[PQ] at A10)
     (try rw[PQ] at A14)
     (try rw[PQ] at ZZ)
     have aBQ:(IntKind.i64.wrap (Nv-1))=agA:=(jJ _).trans PQ;replace H:=gN H;obtain⟨-,KY,-,H⟩:=H;replace H:=gN H;obtain⟨-,KZ,-,H⟩:=H;replace H:=gN H;obtain⟨c21,K3,Ac,H⟩:=H;try have aiU:=eq_false (Nat.not_lt.2 c21)
     try(have Vo:=c21;simp only[ByteArray.size_append,yP,List.length_cons,List.length_nil,Nat.zero_add,Nat.reduceAdd] at Vo;replace Vo:=eq_false (Nat.not_lt.2 Vo))
     replace H:=gN H;obtain⟨c22,XW,RU,H⟩:=H;try have aqk:=eq_false (Nat.not_lt.2 c22)
     try(have Ja:=c22;simp only[ByteArray.size_append,yP,List.length_cons,List.length_nil,Nat.zero_add,Nat.reduceAdd] at Ja;replace Ja:=eq_false (Nat.not_lt.2 Ja))
     replace H:=gD H;obtain⟨Vk,A23,H⟩:=H;replace H:=gN H;obtain⟨c24,Vp,GZ,H⟩:=H;try have aqp:=eq_false (Nat.not_lt.2 c24)
     try(have K5:=c24;simp only[ByteArray.size_append,yP,List.length_cons,List.length_nil,Nat.zero_add,Nat.reduceAdd] at K5;replace K5:=eq_false (Nat.not_lt.2 K5))
     replace H:=gN H;obtain⟨Z4,X3,Ck,H⟩:=H;try have aqm:=eq_false (Nat.not_lt.2 Z4)
     try(have Jc:=Z4;simp only[ByteArray.size_append,yP,List.length_cons,List.length_nil,Nat.zero_add,Nat.reduceAdd] at Jc;replace Jc:=eq_false (Nat.not_lt.2 Jc))
     replace H:=gD H;obtain⟨abb,A26,H⟩:=H;replace H:=gN H;obtain⟨c27,aiV,Sa,H⟩:=H;try have aqr:=eq_false (Nat.not_lt.2 c27)
     try(have Jd:=c27;simp only[ByteArray.size_append,yP,List.length_cons,List.length_nil,Nat.zero_add,Nat.reduceAdd] at Jd;replace Jd:=eq_false (Nat.not_lt.2 Jd))
     replace H:=gN H;obtain⟨c28,aqs,ae1,H⟩:=H;try have aqt:=eq_false (Nat.not_lt.2 c28)
     try(have Je:=c28;simp only[ByteArray.size_append,yP,List.length_cons,List.length_nil,Nat.zero_add,Nat.reduceAdd] at Je;replace Je:=eq_false (Nat.not_lt.2 Je))
     obtain rfl:=gK H;try go_wp2_with(first|((with_reducible refine lS 176 rfl ?_);refine vI 14 rfl Tryz.func176 (dn.calls vC a0 Nu Nv Nw R6 R7 R8 _ A8.out) fun mV hb HB=>?_;clear hb)|((with_reducible refine vJ 3 rfl ?_);refine agk #[.int .i64 0,.int .i64 0,.int .i64 0,.int .i64 0,.int .i64 0,.int .i64 0] 117 ?_;clear HB;intro oO tT jm aBR HB;have _:=TQ jm))
     have yc:ae (((((((tT.setCell ⟨oO,0,none⟩ (.int .i64 Nu)).setCell ⟨oO,1,none⟩ (.int .i64 Nv)).setCell ⟨oO,2,none⟩ (.int .i64 Nw)).setCell ⟨oO,3,none⟩ (.int .i64 R6)).setCell ⟨oO,4,none⟩ (.int .i64 R7)).setCell ⟨oO,5,none⟩ (.int .i64 R8)).heap[oO]? = some (.cells #[.int .i64 Nu,.int .i64 Nv,.int .i64 Nw,.int .i64 R6,.int .i64 R7,.int .i64 R8] 117 (0,0))):=⟨yz⟩;have X4:ae (Below w.heap.size w ((((((tT.setCell ⟨oO,0,none⟩ (.int .i64 Nu)).setCell ⟨oO,1,none⟩ (.int .i64 Nv)).setCell ⟨oO,2,none⟩ (.int .i64 Nw)).setCell ⟨oO,3,none⟩ (.int .i64 R6)).setCell ⟨oO,4,none⟩ (.int .i64 R7)).setCell ⟨oO,5,none⟩ (.int .i64 R8))):=⟨dL⟩;(try clear jm)
     (try clear HB)
     generalize((((((tT.setCell ⟨oO,0,none⟩ (.int .i64 Nu)).setCell ⟨oO,1,none⟩ (.int .i64 Nv)).setCell ⟨oO,2,none⟩ (.int .i64 Nw)).setCell ⟨oO,3,none⟩ (.int .i64 R6)).setCell ⟨oO,4,none⟩ (.int .i64 R7)).setCell ⟨oO,5,none⟩ (.int .i64 R8))=LG at yc X4 ⊢;have jm:=yc;have HB:=X4;clear yc X4;replace jm:=ae.mk (dh jm.out);replace HB:=ae.mk (bn HB.out);refine kJ (n:=29) (S:=fun w'=>w'.cell? ⟨oO,0,none⟩=some (.int .i64 Nu)/\w'.cell? ⟨oO,1,none⟩=some (.int .i64 Nv)/\w'.cell? ⟨oO,2,none⟩=some (.int .i64 Nw)/\w'.cell? ⟨oO,3,none⟩=some (.int .i64 R6)/\w'.cell? ⟨oO,4,none⟩=some (.int .i64 R7)/\w'.cell? ⟨oO,5,none⟩=some (.int .i64 R8)) (ds:=[]) ⟨(ag jm.out 0).trans rfl,(ag jm.out 1).trans rfl,(ag jm.out 2).trans rfl,(ag jm.out 3).trans rfl,(ag jm.out 4).trans rfl,(ag jm.out 5).trans rfl⟩ (fun hHeld=>?_);refine dY eF.Y5 eF.Pw (fun HT_ HW_=>?_);generalize LG.drew=M7 at jm HB hHeld ⊢;refine bN 1 (some 16) ?_;refine bN 6 (some 21) ?_;refine fQ 7 (some 22) (hy:=Or.inl ⟨by rfl,by rintro w' ⟨s0,s1,s2,s3,s4,s5⟩;go_simp;with_reducible rfl⟩) ?_;refine bN 12 (some 27) ?_;refine fQ 13 (some 28) (hy:=Or.inl ⟨by rfl,by rintro w' ⟨s0,s1,s2,s3,s4,s5⟩;go_simp;with_reducible rfl⟩) ?_;refine bN 14 (some 29) ?_;refine bN 19 (some 34) ?_;refine fQ 20 (some 35) (hy:=Or.inl ⟨by rfl,by rintro w' ⟨s0,s1,s2,s3,s4,s5⟩;go_simp;with_reducible rfl⟩) ?_;refine fQ 24 (some 39) (hy:=Or.inl ⟨by rfl,by rintro w' ⟨s0,s1,s2,s3,s4,s5⟩;go_simp;with_reducible rfl⟩) ?_;refine gV (fun K hK=>?_);refine zrl Tryz.func177 (sw.calls  FX _ A9.out) ?_;rintro e agp ⟨aGu,rfl,ho0,hb⟩;refine⟨_,rfl,?_⟩;have NJ:=ae.mk (Kd.gZ ho0 (bq dL));replace jm:=jr (g:=oO) hb;replace HB:=iC hb;(try clear hb)
     (try clear ho0)
     refine hK.out _ _ ⟨(ag jm.out 0).trans rfl,(ag jm.out 1).trans rfl,(ag jm.out 2).trans rfl,(ag jm.out 3).trans rfl,(ag jm.out 4).trans rfl,(ag jm.out 5).trans rfl⟩ (fun hHeld=>?_);clear hK K;refine dI ?_;refine gV (fun K hK=>?_);refine Iw Tryz.func178 (lL.calls a0 BJ _ A10.out) fun nd=>?_;obtain⟨aAn,aAo,ahF⟩:=Kd.dE NJ.out;(first|subst ahF|(injection ahF with I1 Q5 I4;have Q6:=I1.symm;have Q7:=I4.symm;clear I1 Q5 I4;subst Q6;subst Q7))
     have aiW:0<=(BJ:Int):=aX gq;have aiX:BJ<(FX.length:Int):=aX gq;obtain⟨as9,awL,abd⟩:=Kd.iM (Kd.aJ NJ.out).2.2 BJ aiW aiX;cases awL
     replace aiW:=eq_true aiW;replace aiX:=eq_true aiX;refine hK.out _ _ ⟨(ag jm.out 0).trans rfl,(ag jm.out 1).trans rfl,(ag jm.out 2).trans rfl,(ag jm.out 3).trans rfl,(ag jm.out 4).trans rfl,(ag jm.out 5).trans rfl⟩ (fun hHeld=>?_);refine eF.Mg (T:=fun w'=>w'.cell? (as9.add (BJ).toNat)=some (.string (ed ByteArray.empty FX BJ))) _ _ _ _ hHeld abd ?_;have hHeld:=And.intro hHeld abd;clear hK K;refine dI ?_;repeat(first|refine mr ?_ (hy:=Or.inl ⟨by rfl,by rintro w' ⟨⟨s0,s1,s2,s3,s4,s5⟩,s6⟩;go_simp;with_reducible rfl⟩)|refine ek ?_)
     refine gV (fun K hK=>?_);refine lQ Tryz.func179 eB rfl #[.int .i64 Nw,.int .i64 2] (by rfl) rfl rfl Iu ?_;with_reducible refine(dG.calls vC Nw 2 Mh _ A14.out ?hT).mono ?_
     case hT=>exact kG HT
     rintro e aeA ⟨rfl,hb⟩;have FW:=(hb.cell (World.block_lt_of_cell? _ _ (hHeld.2))).trans (hHeld.2);refine⟨_,rfl,?_⟩;replace NJ:=ae.mk (Kd.bz ahk hb);replace jm:=jr (g:=oO) hb;replace HB:=iC hb;(try clear hb)
     refine hK.out _ _ ⟨⟨(ag jm.out 0).trans rfl,(ag jm.out 1).trans rfl,(ag jm.out 2).trans rfl,(ag jm.out 3).trans rfl,(ag jm.out 4).trans rfl,(ag jm.out 5).trans rfl⟩,FW⟩ (fun hHeld=>?_);clear hK K;refine dI ?_;repeat(first|refine ek ?_)
     refine gV (fun K hK=>?_);refine lQ Tryz.func171 eB rfl #[] (by rfl) rfl rfl Iu ?_;(with_reducible refine(mK.calls  K4 _ ZZ.out).mono ?_);rintro e aGv ⟨aGw,rfl,ho0,hb⟩;have FW:=(hb.cell (World.block_lt_of_cell? _ _ (hHeld.2))).trans (hHeld.2);refine⟨_,rfl,?_⟩;have Rl:=ae.mk (Kd.gZ (Kd.oF ho0 (Kd.vG ahk)) (bq dL));replace NJ:=ae.mk (Kd.EX ahk (Kd.nH ho0) hb);replace jm:=jr (g:=oO) hb;replace HB:=iC hb;(try clear hb)
     (try clear ho0)
     obtain⟨Km,Kn,aaW⟩:=Kd.dE Rl.out;(first|subst aaW|(injection aaW with I1 Q5 I4;have Q6:=I1.symm;have Q7:=I4.symm;clear I1 Q5 I4;subst Q6;subst Q7))
     have aiY:0<=((agA):Int):=aX gq;have aiZ:(agA)<(K4.length:Int):=aX gq;obtain⟨ata,awM,abe⟩:=Kd.iM (Kd.aJ Rl.out).2.2 (agA) aiY aiZ;cases awM
     replace aiY:=eq_true aiY;replace aiZ:=eq_true aiZ;refine hK.out _ _ ⟨⟨(ag jm.out 0).trans rfl,(ag jm.out 1).trans rfl,(ag jm.out 2).trans rfl,(ag jm.out 3).trans rfl,(ag jm.out 4).trans rfl,(ag jm.out 5).trans rfl⟩,FW⟩ (fun hHeld=>?_);refine eF.Mg (T:=fun w'=>w'.cell? (ata.add ((agA)).toNat)=some (.string (ed ByteArray.empty K4 (agA)))) _ _ _ _ hHeld abe ?_;have hHeld:=And.intro hHeld abe;clear hK K;refine dI ?_;repeat(first|refine mr ?_ (hy:=Or.inl ⟨by rfl,by rintro w' ⟨⟨⟨s0,s1,s2,s3,s4,s5⟩,s6⟩,s7⟩;go_simp;with_reducible rfl⟩)|refine ek ?_)
     refine gV (fun K hK=>?_);refine lQ Tryz.func179 eB rfl #[.int .i64 Nu,.int .i64 2] (by rfl) rfl rfl Iu ?_;with_reducible refine(dG.calls vC Nu 2 Vk _ A23.out ?hT).mono ?_
     case hT=>exact kG HT
     rintro e aeA ⟨rfl,hb⟩;have FW:=(hb.cell (World.block_lt_of_cell? _ _ (hHeld.1.2))).trans (hHeld.1.2);have adW:=(hb.cell (World.block_lt_of_cell? _ _ (hHeld.2))).trans (hHeld.2);refine⟨_,rfl,?_⟩;replace NJ:=ae.mk (Kd.bz ahk hb);replace Rl:=ae.mk (Kd.bz (by(with_reducible repeat(first|apply Kd.bR|apply Kd.bP|apply Kd.bV));exact Rl.out) hb);replace jm:=jr (g:=oO) hb;replace HB:=iC hb;(try clear hb)
     refine hK.out _ _ ⟨⟨⟨(ag jm.out 0).trans rfl,(ag jm.out 1).trans rfl,(ag jm.out 2).trans rfl,(ag jm.out 3).trans rfl,(ag jm.out 4).trans rfl,(ag jm.out 5).trans rfl⟩,FW⟩,adW⟩ (fun hHeld=>?_);clear hK K;refine dI ?_;repeat(first|refine ek ?_)
     refine gV (fun K hK=>?_);refine lQ Tryz.func180 eB rfl #[.agg #[.int .i64 Nu,.int .i64 Nv,.int .i64 Nw,.int .i64 R6,.int .i64 R7,.int .i64 R8]] (by rfl) rfl rfl Iu ?_;with_reducible refine(jS.calls vC Nu Nv Nw R6 R7 R8 abb _ A26.out ?hT).mono ?_
     case hT=>exact kG HT
     rintro e aeA ⟨rfl,hb⟩;have FW:=(hb.cell (World.block_lt_of_cell? _ _ (hHeld.1.2))).trans (hHeld.1.2);have adW:=(hb.cell (World.block_lt_of_cell? _ _ (hHeld.2))).trans (hHeld.2);refine⟨_,rfl,?_⟩;replace NJ:=ae.mk (Kd.bz ahk hb);replace Rl:=ae.mk (Kd.bz (by(with_reducible repeat(first|apply Kd.bR|apply Kd.bP|apply Kd.bV));exact Rl.out) hb);replace jm:=jr (g:=oO) hb;replace HB:=iC hb;(try clear hb)
     refine hK.out _ _ ⟨⟨⟨(ag jm.out 0).trans rfl,(ag jm.out 1).trans rfl,(ag jm.out 2).trans rfl,(ag jm.out 3).trans rfl,(ag jm.out 4).trans rfl,(ag jm.out 5).trans rfl⟩,FW⟩,adW⟩ (fun hHeld=>?_);clear hK K;refine dI ?_;repeat(first|refine ek ?_)
     refine lh (gP HT_.out eB) ?_;try go_wp2
     go_ret;exact⟨by first|rfl|(simp[iN,iO] <;> rfl)|(simp only[<- PQ];first|rfl|(simp[iN,iO] <;> rfl))|(simp[*,iN,iO] <;> rfl),dL⟩
    ·exact absurd H (by simp)
@[reducible,instance] def eF.c:=jM.of 0 Tryz.func137 @eF.calls


def dW.j0 : Nat->Int->ByteArray->Int->Int->Int->Int->Int->Int->Option (ByteArray)
 |0,_,_,_,_,_,_,_,_=>none
 |k+1,x0,x4,abf,yg,ai0,ai1,ai2,ai3=>(sw.f).bind fun yh=>((lL.f x0).bind fun vU=>(if 0<=vU then(if vU<(yh.length:Int) then(if 0<=3 then(if 3<=((ed ByteArray.empty yh vU).size:Int) then(if((ed ByteArray.empty yh vU).extract 0 3).size+1<=9223372036854775807 then((mK.f).bind fun Ad=>(if 0<=(wrap64 (yg-1)) then(if(wrap64 (yg-1))<(Ad.length:Int) then(if(((ed ByteArray.empty yh vU).extract 0 3)++(⟨#[32]⟩:af)).size+(ed ByteArray.empty Ad (wrap64 (yg-1))).size<=9223372036854775807 then(if((((ed ByteArray.empty yh vU).extract 0 3)++(⟨#[32]⟩:af))++(ed ByteArray.empty Ad (wrap64 (yg-1)))).size+1<=9223372036854775807 then(if(((((ed ByteArray.empty yh vU).extract 0 3)++(⟨#[32]⟩:af))++(ed ByteArray.empty Ad (wrap64 (yg-1))))++(⟨#[32]⟩:af)).size+x4.size<=9223372036854775807 then(if((((((ed ByteArray.empty yh vU).extract 0 3)++(⟨#[32]⟩:af))++(ed ByteArray.empty Ad (wrap64 (yg-1))))++(⟨#[32]⟩:af))++x4).size+1<=9223372036854775807 then((jS.f k abf yg ai0 ai1 ai2 ai3).bind fun PR=>(if(((((((ed ByteArray.empty yh vU).extract 0 3)++(⟨#[32]⟩:af))++(ed ByteArray.empty Ad (wrap64 (yg-1))))++(⟨#[32]⟩:af))++x4)++(⟨#[32]⟩:af)).size+PR.size<=9223372036854775807 then(if((((((((ed ByteArray.empty yh vU).extract 0 3)++(⟨#[32]⟩:af))++(ed ByteArray.empty Ad (wrap64 (yg-1))))++(⟨#[32]⟩:af))++x4)++(⟨#[32]⟩:af))++PR).size+1<=9223372036854775807 then((dG.f k abf 4).bind fun abg=>(if(((((((((ed ByteArray.empty yh vU).extract 0 3)++(⟨#[32]⟩:af))++(ed ByteArray.empty Ad (wrap64 (yg-1))))++(⟨#[32]⟩:af))++x4)++(⟨#[32]⟩:af))++PR)++(⟨#[32]⟩:af)).size+abg.size<=9223372036854775807 then(some ((((((((((ed ByteArray.empty yh vU).extract 0 3)++(⟨#[32]⟩:af))++(ed ByteArray.empty Ad (wrap64 (yg-1))))++(⟨#[32]⟩:af))++x4)++(⟨#[32]⟩:af))++PR)++(⟨#[32]⟩:af))++abg)) else(none))) else(none)) else(none))) else(none)) else(none)) else(none)) else(none)) else(none)) else(none))) else(none)) else(none)) else(none)) else(none)) else(none)))
def dW.f (k:Nat) (a0:Int):Option (ByteArray):=(iT.f a0).bind fun awN=>(if awN=true then((dn.f k a0).bind fun BK=>((dG.f k BK.2.2.1 2).bind fun K6=>(if BK.2.2.1<10 then(if 1<=(K6.size:Int) then(if 1+(K6.extract 1 K6.size).size<=9223372036854775807 then(dW.j0 k a0 ((⟨#[32]⟩:af)++(K6.extract 1 K6.size)) BK.1 BK.2.1 BK.2.2.1 BK.2.2.2.1 BK.2.2.2.2.1 BK.2.2.2.2.2) else(none)) else(none)) else(dW.j0 k a0 K6 BK.1 BK.2.1 BK.2.2.1 BK.2.2.2.1 BK.2.2.2.2.1 BK.2.2.2.2.2)))) else(some (⟨#[]⟩:af)))
def dW.T7 : Bool×List (List Nat×List Nat):=(true,[([],[]),([],[]),([1,0],[1]),([0,2],[0,2]),([3],[3]),([4],[4]),([5],[5]),([2],[]),([],[]),([8],[8]),([9],[9]),([7,10],[7,10]),([11],[11]),([6,12],[6,12]),([13],[13]),([],[]),([14,15],[14,15]),([16],[16]),([],[]),([18,7],[18]),([17,19],[17,19]),([20],[20]),([],[]),([22],[22]),([23,19],[23]),([21,24],[21,24]),([25,24,0,1,2,3,4,5,6,7,8,9,10,11,12,13,14,15,16,17,18,19,20,21,22,23,24,25],[25])])
def dW.B7 : List Nat:=[0,0,3,7,15,31,63,7,0,256,768,1927,3975,8191,16383,0,65535,131071,0,262279,1048575,2097151,0,4194304,13369479,33554431,67108863]
theorem dW.agB : pX .any (opsOf Tryz.f138 7)=dW.T7:=by kernel_rfl
theorem dW.X5 : jK dW.T7.2 dW.B7=true:=by kernel_rfl
theorem dW.Mg {P:Program} {md:Region.Mode} {ops:Array Oper} {Q:Exit->Act->World->Prop} {S T:World->Prop}:∀(fuel:Nat) (l:Array Bool) (a:Act) (w:World),S w->T w->dm P md ops Q (fun w=>S w/\T w) [] fuel l a w->dm P md ops Q S [] fuel l a w
 |0,_,_,_,_,_,h=>h
 |fuel+1,_,_,_,hS,hT,h=>⟨h.1,fun i hi=>wpOp_mono (fun a' w' h'=>⟨fun _ _=>(h'.1 List.not_mem_nil ⟨hS,hT⟩).1,Mg fuel _ a' w' (h'.1 List.not_mem_nil ⟨hS,hT⟩).1 (h'.1 List.not_mem_nil ⟨hS,hT⟩).2 h'.2⟩) (h.2 i hi)⟩
theorem dW.calls (k:Nat) (a0:Int) (r:ByteArray) (w:World) (h:dW.f k a0=some r) (HT0:nN w) :
  Calls Tryz.prog 138 #[.int .i64 a0] w fun e w'=>e = .returned (.string r)/\Below w.heap.size w w':=by
 have HT:=ae.mk HT0;clear HT0;have FR:=Tryz.underlying117;have HB:=ae.mk (Below.refl w.heap.size w);have H:=ae.mk h;clear h;unfold dW.f at H;rcases D6 H with⟨A2,H⟩|⟨A2,H⟩
 ·obtain⟨⟨PS,PT,Sb,Vq,Vr,Vs⟩,A4,H⟩:=xE H;dsimp only at H;obtain⟨K6,A5,H⟩:=xE H;have HC6:=H;clear H;go_enter Tryz.func138,Tryz.ntmps138;go_upto_if 15 with(first|((with_reducible refine lS 37 rfl ?_);refine MW 6 rfl Tryz.func37 (iT.calls a0 true _ A2.out) fun nd=>?_)|((with_reducible refine lS 176 rfl ?_);refine vI 9 rfl Tryz.func176 (dn.calls k a0 PS PT Sb Vq Vr Vs _ A4.out) fun w7 hb _=>?_;have qb:=iC hb;clear HB;have HB:=qb;clear qb;(try clear hb))|((with_reducible refine vJ 3 rfl ?_);refine qo #[.int .i64 0,.int .i64 0,.int .i64 0,.int .i64 0,.int .i64 0,.int .i64 0] 117 ?_;intro Em hg w8 hbox hb;have qb:=iC hb;have qU:=ae.mk (hbox);have I5:=rE hg;have UW:=rE hg;clear HB;have HB:=qb;have jW:=qU;have aBS:=I5;have aBT:=UW;clear qb qU I5 UW;clear hb hbox hg;have _:=TQ jW)|((with_reducible refine lS 179 rfl ?_);refine vI 12 rfl Tryz.func179 (dG.calls k Sb 2 K6 _ A5.out (kG HT)) fun w10 hb _=>?_;have qb:=jr (g:=Em) (o:=.cells #[.int .i64 PS,.int .i64 PT,.int .i64 Sb,.int .i64 Vq,.int .i64 Vr,.int .i64 Vs] 117 (0,0)) hb;have qU:=iC hb;clear jW;clear HB;have jW:=qb;have HB:=qU;clear qb qU;(try clear hb);have _:=TQ jW));(try simp only[Act.put,List.setIfInBounds_toArray,List.set_cons_zero,List.set_cons_succ])
  go_cut [4] (fun v4 wc=>∃(kq:Nat) (abh:ByteArray),v4 = .string abh/\ae (dW.j0 kq a0 abh PS PT Sb Vq Vr Vs=some r)/\ae (kq<=k)/\ae (wc.heap[Em]? = some (.cells #[.int .i64 PS,.int .i64 PT,.int .i64 Sb,.int .i64 Vq,.int .i64 Vr,.int .i64 Vs] 117 (0,0)))/\ae (Below w.heap.size w wc))
  case first=>
   have H:=HC6;clear HC6;rcases GM H with⟨-,Ab,-,H⟩|⟨-,Ab,-,H⟩
   ·(first|rw[Ab]|(simp only[jJ,lY];rw[Ab])|skip)
    obtain⟨-,GX,zi,H⟩:=Ci H;obtain⟨c14,R5,FV,H⟩:=Ci H;try have aeZ:=eq_false (Nat.not_lt.2 c14)
    have awu:(9223372036854775807<1+(K6.size-1))=False:=by have h_:=aeZ;simpa only[ByteArray.size_extract,Nat.min_self] using h_
    go_wp2;go_meet
    case rel=>exact⟨_,((⟨#[32]⟩:af)++(K6.extract 1 K6.size)),kD,H,⟨Ld⟩,⟨yz⟩,⟨dL⟩⟩
   ·(first|rw[Ab]|(simp only[jJ,lY];rw[Ab])|skip)
    go_wp2;go_meet
    case rel=>exact⟨_,(K6),kD,H,⟨Ld⟩,⟨yz⟩,⟨dL⟩⟩
  case rest=>
   clear HC6;obtain⟨kq,abh,rfl,HA,HJ5,jW,HB⟩:=hcut;cases kq with
   |zero=>exact absurd HA.out (by simp[dW.j0])
   |succ kj5=>
    have H:=HA;clear HA;simp only[dW.j0] at H;obtain⟨yh,A15,H⟩:=xE H;obtain⟨vU,A16,H⟩:=xE H;obtain⟨-,BG,-,H⟩:=Ci H;obtain⟨-,PM,-,H⟩:=Ci H;obtain⟨-,Py,KY,H⟩:=Ci H;obtain⟨-,Nn,KZ,H⟩:=Ci H;obtain⟨c21,K3,Ac,H⟩:=Ci H;try have aiU:=eq_false (Nat.not_lt.2 c21)
    try have aIU:(9223372036854775807<min 3 (ed ByteArray.empty yh vU).size+1)=False:=by have h_:=aiU;simpa only[ByteArray.size_extract,Nat.sub_zero] using h_
    obtain⟨Ad,A22,H⟩:=xE H;obtain⟨Rm,Vt⟩:∃ j_:Int,(wrap64 (PT-1))=j_:=⟨_,rfl⟩;(first|rw[Vt] at H|simp only[Vt] at H ⊢)
    (try rw[Vt] at A15)
    (try rw[Vt] at A16)
    (try rw[Vt] at A22)
    have aBU:(IntKind.i64.wrap (PT-1))=Rm:=(jJ _).trans Vt;obtain⟨-,GZ,-,H⟩:=Ci H;obtain⟨-,Ck,-,H⟩:=Ci H;obtain⟨c26,aqn,aaF,H⟩:=Ci H;try have awx:=eq_false (Nat.not_lt.2 c26)
    try(have PO:=c26;simp only[ByteArray.size_append,yP,List.length_cons,List.length_nil,Nat.zero_add,Nat.reduceAdd] at PO;replace PO:=eq_false (Nat.not_lt.2 PO))
    try have aBO:(9223372036854775807<min 3 (ed ByteArray.empty yh vU).size+1+(ed ByteArray.empty Ad (Rm)).size)=False:=by have h_:=PO;simpa only[ByteArray.size_extract,Nat.sub_zero] using h_
    obtain⟨c27,aiV,Sa,H⟩:=Ci H;try have aqr:=eq_false (Nat.not_lt.2 c27)
    try(have Jd:=c27;simp only[ByteArray.size_append,yP,List.length_cons,List.length_nil,Nat.zero_add,Nat.reduceAdd] at Jd;replace Jd:=eq_false (Nat.not_lt.2 Jd))
    try have aBV:(9223372036854775807<min 3 (ed ByteArray.empty yh vU).size+1+(ed ByteArray.empty Ad (Rm)).size+1)=False:=by have h_:=Jd;simpa only[ByteArray.size_extract,Nat.sub_zero] using h_
    obtain⟨c28,aqs,ae1,H⟩:=Ci H;try have aqt:=eq_false (Nat.not_lt.2 c28)
    try(have Je:=c28;simp only[ByteArray.size_append,yP,List.length_cons,List.length_nil,Nat.zero_add,Nat.reduceAdd] at Je;replace Je:=eq_false (Nat.not_lt.2 Je))
    try have aBW:(9223372036854775807<min 3 (ed ByteArray.empty yh vU).size+1+(ed ByteArray.empty Ad (Rm)).size+1+abh.size)=False:=by have h_:=Je;simpa only[ByteArray.size_extract,Nat.sub_zero] using h_
    obtain⟨c29,ai4,ai5,H⟩:=Ci H;try have aGx:=eq_false (Nat.not_lt.2 c29)
    try(have ae2:=c29;simp only[ByteArray.size_append,yP,List.length_cons,List.length_nil,Nat.zero_add,Nat.reduceAdd] at ae2;replace ae2:=eq_false (Nat.not_lt.2 ae2))
    try have aIV:(9223372036854775807<min 3 (ed ByteArray.empty yh vU).size+1+(ed ByteArray.empty Ad (Rm)).size+1+abh.size+1)=False:=by have h_:=ae2;simpa only[ByteArray.size_extract,Nat.sub_zero] using h_
    obtain⟨PR,A30,H⟩:=xE H;obtain⟨c31,aGy,aqu,H⟩:=Ci H;try have aGz:=eq_false (Nat.not_lt.2 c31)
    try(have ae3:=c31;simp only[ByteArray.size_append,yP,List.length_cons,List.length_nil,Nat.zero_add,Nat.reduceAdd] at ae3;replace ae3:=eq_false (Nat.not_lt.2 ae3))
    try have aIW:(9223372036854775807<min 3 (ed ByteArray.empty yh vU).size+1+(ed ByteArray.empty Ad (Rm)).size+1+abh.size+1+PR.size)=False:=by have h_:=ae3;simpa only[ByteArray.size_extract,Nat.sub_zero] using h_
    obtain⟨c32,abj,X6,H⟩:=Ci H;try have aGA:=eq_false (Nat.not_lt.2 c32)
    try(have ae4:=c32;simp only[ByteArray.size_append,yP,List.length_cons,List.length_nil,Nat.zero_add,Nat.reduceAdd] at ae4;replace ae4:=eq_false (Nat.not_lt.2 ae4))
    try have aIX:(9223372036854775807<min 3 (ed ByteArray.empty yh vU).size+1+(ed ByteArray.empty Ad (Rm)).size+1+abh.size+1+PR.size+1)=False:=by have h_:=ae4;simpa only[ByteArray.size_extract,Nat.sub_zero] using h_
    obtain⟨abg,A33,H⟩:=xE H;obtain⟨c34,ai6,ai7,H⟩:=Ci H;try have aGB:=eq_false (Nat.not_lt.2 c34)
    try(have ae5:=c34;simp only[ByteArray.size_append,yP,List.length_cons,List.length_nil,Nat.zero_add,Nat.reduceAdd] at ae5;replace ae5:=eq_false (Nat.not_lt.2 ae5))
    try have aIY:(9223372036854775807<min 3 (ed ByteArray.empty yh vU).size+1+(ed ByteArray.empty Ad (Rm)).size+1+abh.size+1+PR.size+1+abg.size)=False:=by have h_:=ae5;simpa only[ByteArray.size_extract,Nat.sub_zero] using h_
    obtain rfl:=gK H.out;try go_wp2
    replace jW:=ae.mk (dh jW.out);replace HB:=ae.mk (bn HB.out);refine kJ (n:=27) (S:=fun w'=>w'.cell? ⟨Em,0,none⟩=some (.int .i64 PS)/\w'.cell? ⟨Em,1,none⟩=some (.int .i64 PT)/\w'.cell? ⟨Em,2,none⟩=some (.int .i64 Sb)/\w'.cell? ⟨Em,3,none⟩=some (.int .i64 Vq)/\w'.cell? ⟨Em,4,none⟩=some (.int .i64 Vr)/\w'.cell? ⟨Em,5,none⟩=some (.int .i64 Vs)) (ds:=[]) ⟨(ag jW.out 0).trans rfl,(ag jW.out 1).trans rfl,(ag jW.out 2).trans rfl,(ag jW.out 3).trans rfl,(ag jW.out 4).trans rfl,(ag jW.out 5).trans rfl⟩ (fun hHeld=>?_);refine dY dW.agB dW.X5 (fun HT_ HW_=>?_);generalize wc.drew=mo at jW HB hHeld ⊢;refine bN 1 (some 20) ?_;refine bN 8 (some 27) ?_;refine fQ 9 (some 28) (hy:=Or.inl ⟨by rfl,by rintro w' ⟨s0,s1,s2,s3,s4,s5⟩;go_simp;with_reducible rfl⟩) ?_;refine bN 10 (some 29) ?_;refine bN 15 (some 34) ?_;refine fQ 18 (some 37) (hy:=Or.inl ⟨by rfl,by rintro w' ⟨s0,s1,s2,s3,s4,s5⟩;go_simp;with_reducible rfl⟩) ?_;refine bN 22 (some 41) ?_;refine fQ 23 (some 42) (hy:=Or.inl ⟨by rfl,by rintro w' ⟨s0,s1,s2,s3,s4,s5⟩;go_simp;with_reducible rfl⟩) ?_;refine gV (fun K hK=>?_);refine zrl Tryz.func177 (sw.calls  yh _ A15.out) ?_;rintro e mV ⟨aGC,rfl,ho0,hb⟩;refine⟨_,rfl,?_⟩;have QH:=ae.mk (Kd.gZ ho0 (bq dL));replace jW:=jr (g:=Em) hb;replace HB:=iC hb;(try clear hb)
    (try clear ho0)
    refine hK.out _ _ ⟨(ag jW.out 0).trans rfl,(ag jW.out 1).trans rfl,(ag jW.out 2).trans rfl,(ag jW.out 3).trans rfl,(ag jW.out 4).trans rfl,(ag jW.out 5).trans rfl⟩ (fun hHeld=>?_);clear hK K;refine dI ?_;refine gV (fun K hK=>?_);refine Iw Tryz.func178 (lL.calls a0 vU _ A16.out) fun nd=>?_;obtain⟨awO,awP,alJ⟩:=Kd.dE QH.out;(first|subst alJ|(injection alJ with I1 Q5 I4;have Q6:=I1.symm;have Q7:=I4.symm;clear I1 Q5 I4;subst Q6;subst Q7))
    have ai8:0<=(vU:Int):=aX gq;have ai9:vU<(yh.length:Int):=aX gq;obtain⟨atb,awQ,abk⟩:=Kd.iM (Kd.aJ QH.out).2.2 vU ai8 ai9;cases awQ
    replace ai8:=eq_true ai8;replace ai9:=eq_true ai9;refine hK.out _ _ ⟨(ag jW.out 0).trans rfl,(ag jW.out 1).trans rfl,(ag jW.out 2).trans rfl,(ag jW.out 3).trans rfl,(ag jW.out 4).trans rfl,(ag jW.out 5).trans rfl⟩ (fun hHeld=>?_);refine dW.Mg (T:=fun w'=>w'.cell? (atb.add (vU).toNat)=some (.string (ed ByteArray.empty yh vU))) _ _ _ _ hHeld abk ?_;have hHeld:=And.intro hHeld abk;clear hK K;refine dI ?_;repeat(first|refine mr ?_ (hy:=Or.inl ⟨by rfl,by rintro w' ⟨⟨s0,s1,s2,s3,s4,s5⟩,s6⟩;go_simp;with_reducible rfl⟩)|refine ek ?_)
    refine gV (fun K hK=>?_);refine lQ Tryz.func171 eB rfl #[] (by rfl) rfl rfl Iu ?_;(with_reducible refine(mK.calls  Ad _ A22.out).mono ?_);rintro e GH ⟨aGD,rfl,ho0,hb⟩;have Vu:=(hb.cell (World.block_lt_of_cell? _ _ (hHeld.2))).trans (hHeld.2);refine⟨_,rfl,?_⟩;have Rn:=ae.mk (Kd.gZ (Kd.oF ho0 (Kd.vG alo)) (bq dL));replace QH:=ae.mk (Kd.EX alo (Kd.nH ho0) hb);replace jW:=jr (g:=Em) hb;replace HB:=iC hb;(try clear hb)
    (try clear ho0)
    obtain⟨Ko,Kq,aaX⟩:=Kd.dE Rn.out;(first|subst aaX|(injection aaX with I1 Q5 I4;have Q6:=I1.symm;have Q7:=I4.symm;clear I1 Q5 I4;subst Q6;subst Q7))
    have aja:0<=((Rm):Int):=aX gq;have ajb:(Rm)<(Ad.length:Int):=aX gq;obtain⟨atc,awR,abl⟩:=Kd.iM (Kd.aJ Rn.out).2.2 (Rm) aja ajb;cases awR
    replace aja:=eq_true aja;replace ajb:=eq_true ajb;refine hK.out _ _ ⟨⟨(ag jW.out 0).trans rfl,(ag jW.out 1).trans rfl,(ag jW.out 2).trans rfl,(ag jW.out 3).trans rfl,(ag jW.out 4).trans rfl,(ag jW.out 5).trans rfl⟩,Vu⟩ (fun hHeld=>?_);refine dW.Mg (T:=fun w'=>w'.cell? (atc.add ((Rm)).toNat)=some (.string (ed ByteArray.empty Ad (Rm)))) _ _ _ _ hHeld abl ?_;have hHeld:=And.intro hHeld abl;clear hK K;refine dI ?_;repeat(first|refine mr ?_ (hy:=Or.inl ⟨by rfl,by rintro w' ⟨⟨⟨s0,s1,s2,s3,s4,s5⟩,s6⟩,s7⟩;go_simp;with_reducible rfl⟩)|refine ek ?_)
    refine gV (fun K hK=>?_);refine lQ Tryz.func180 eB rfl #[.agg #[.int .i64 PS,.int .i64 PT,.int .i64 Sb,.int .i64 Vq,.int .i64 Vr,.int .i64 Vs]] (by rfl) rfl rfl Iu ?_;with_reducible refine(jS.calls kj5 PS PT Sb Vq Vr Vs PR _ A30.out ?hT).mono ?_
    case hT=>exact kG HT
    rintro e LG ⟨rfl,hb⟩;have Vu:=(hb.cell (World.block_lt_of_cell? _ _ (hHeld.1.2))).trans (hHeld.1.2);have adX:=(hb.cell (World.block_lt_of_cell? _ _ (hHeld.2))).trans (hHeld.2);refine⟨_,rfl,?_⟩;replace QH:=ae.mk (Kd.bz alo hb);replace Rn:=ae.mk (Kd.bz (by(with_reducible repeat(first|apply Kd.bR|apply Kd.bP|apply Kd.bV));exact Rn.out) hb);replace jW:=jr (g:=Em) hb;replace HB:=iC hb;(try clear hb)
    refine hK.out _ _ ⟨⟨⟨(ag jW.out 0).trans rfl,(ag jW.out 1).trans rfl,(ag jW.out 2).trans rfl,(ag jW.out 3).trans rfl,(ag jW.out 4).trans rfl,(ag jW.out 5).trans rfl⟩,Vu⟩,adX⟩ (fun hHeld=>?_);clear hK K;refine dI ?_;repeat(first|refine ek ?_)
    refine gV (fun K hK=>?_);refine lQ Tryz.func179 eB rfl #[.int .i64 PS,.int .i64 4] (by rfl) rfl rfl Iu ?_;with_reducible refine(dG.calls kj5 PS 4 abg _ A33.out ?hT).mono ?_
    case hT=>exact kG HT
    rintro e LG ⟨rfl,hb⟩;have Vu:=(hb.cell (World.block_lt_of_cell? _ _ (hHeld.1.2))).trans (hHeld.1.2);have adX:=(hb.cell (World.block_lt_of_cell? _ _ (hHeld.2))).trans (hHeld.2);refine⟨_,rfl,?_⟩;replace QH:=ae.mk (Kd.bz alo hb);replace Rn:=ae.mk (Kd.bz (by(with_reducible repeat(first|apply Kd.bR|apply Kd.bP|apply Kd.bV));exact Rn.out) hb);replace jW:=jr (g:=Em) hb;replace HB:=iC hb;(try clear hb)
    refine hK.out _ _ ⟨⟨⟨(ag jW.out 0).trans rfl,(ag jW.out 1).trans rfl,(ag jW.out 2).trans rfl,(ag jW.out 3).trans rfl,(ag jW.out 4).trans rfl,(ag jW.out 5).trans rfl⟩,Vu⟩,adX⟩ (fun hHeld=>?_);clear hK K;refine dI ?_;repeat(first|refine ek ?_)
    refine lh (gP HT_.out eB) ?_;try go_wp2
    go_ret;exact⟨by first|rfl|(simp[iN,iO] <;> rfl)|(simp only[<- Vt];first|rfl|(simp[iN,iO] <;> rfl))|(simp[*,iN,iO] <;> rfl),dL⟩
 ·obtain rfl:=gK H.out;go_enter Tryz.func138,Tryz.ntmps138;go_wp2_with(((with_reducible refine lS 37 rfl ?_);refine MW 6 rfl Tryz.func37 (iT.calls a0 false _ A2.out) fun nd=>?_));go_ret;exact⟨su,dL⟩
@[reducible,instance] def dW.c:=jM.of 0 Tryz.func138 @dW.calls

end Go.Proofs.YtfhllanhldbkkaaGreatDoor.P
