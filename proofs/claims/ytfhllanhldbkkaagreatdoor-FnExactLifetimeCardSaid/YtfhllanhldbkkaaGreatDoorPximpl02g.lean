import Derived.Test.YtfhllanhldbkkaaGreatDoorPximpl01a
namespace Go.Proofs.YtfhllanhldbkkaaGreatDoor.P
set_option maxHeartbeats 8000000
set_option maxRecDepth 100000
open Go.RowKit Go.Proofs.YtfhllanhldbkkaaGreatDoorW.bf Go.Proofs.YtfhllanhldbkkaaGreatDoorW.iK Go.Proofs.YtfhllanhldbkkaaGreatDoorW.kG
attribute [local go_sem] rE rF uF uG pE pF rG rH   -- for this text's walks alone
set_option linter.unusedVariables false
set_option linter.unusedSimpArgs false

def gV.f (k:Nat) (a0:Int):Option (ByteArray):=(gW.f a0).bind fun auZ=>(if auZ=true then((dL.f k a0).bind fun sU=>((rT.f).bind fun rQ=>((kz.f a0).bind fun pY=>(if 0<=pY then(if pY<(rQ.length:Int) then(if 0<=3 then(if 3<=((dh ByteArray.empty rQ pY).size:Int) then(if((dh ByteArray.empty rQ pY).extract 0 3).size+2<=9223372036854775807 then((dR.f k sU.2.2.1 2).bind fun wD=>(if(((dh ByteArray.empty rQ pY).extract 0 3)++(⟨#[44,32]⟩:af)).size+wD.size<=9223372036854775807 then(if((((dh ByteArray.empty rQ pY).extract 0 3)++(⟨#[44,32]⟩:af))++wD).size+1<=9223372036854775807 then((mH.f).bind fun wW=>(if 0<=(wrap64 (sU.2.1-1)) then(if(wrap64 (sU.2.1-1))<(wW.length:Int) then(if(((((dh ByteArray.empty rQ pY).extract 0 3)++(⟨#[44,32]⟩:af))++wD)++(⟨#[32]⟩:af)).size+(dh ByteArray.empty wW (wrap64 (sU.2.1-1))).size<=9223372036854775807 then(if((((((dh ByteArray.empty rQ pY).extract 0 3)++(⟨#[44,32]⟩:af))++wD)++(⟨#[32]⟩:af))++(dh ByteArray.empty wW (wrap64 (sU.2.1-1)))).size+1<=9223372036854775807 then((dR.f k sU.1 4).bind fun Eo=>(if(((((((dh ByteArray.empty rQ pY).extract 0 3)++(⟨#[44,32]⟩:af))++wD)++(⟨#[32]⟩:af))++(dh ByteArray.empty wW (wrap64 (sU.2.1-1))))++(⟨#[32]⟩:af)).size+Eo.size<=9223372036854775807 then(if((((((((dh ByteArray.empty rQ pY).extract 0 3)++(⟨#[44,32]⟩:af))++wD)++(⟨#[32]⟩:af))++(dh ByteArray.empty wW (wrap64 (sU.2.1-1))))++(⟨#[32]⟩:af))++Eo).size+1<=9223372036854775807 then((jE.f k sU.1 sU.2.1 sU.2.2.1 sU.2.2.2.1 sU.2.2.2.2.1 sU.2.2.2.2.2).bind fun O5=>(if(((((((((dh ByteArray.empty rQ pY).extract 0 3)++(⟨#[44,32]⟩:af))++wD)++(⟨#[32]⟩:af))++(dh ByteArray.empty wW (wrap64 (sU.2.1-1))))++(⟨#[32]⟩:af))++Eo)++(⟨#[32]⟩:af)).size+O5.size<=9223372036854775807 then(if((((((((((dh ByteArray.empty rQ pY).extract 0 3)++(⟨#[44,32]⟩:af))++wD)++(⟨#[32]⟩:af))++(dh ByteArray.empty wW (wrap64 (sU.2.1-1))))++(⟨#[32]⟩:af))++Eo)++(⟨#[32]⟩:af))++O5).size+4<=9223372036854775807 then(some (((((((((((dh ByteArray.empty rQ pY).extract 0 3)++(⟨#[44,32]⟩:af))++wD)++(⟨#[32]⟩:af))++(dh ByteArray.empty wW (wrap64 (sU.2.1-1))))++(⟨#[32]⟩:af))++Eo)++(⟨#[32]⟩:af))++O5)++(⟨#[32,71,77,84]⟩:af))) else(none)) else(none))) else(none)) else(none))) else(none)) else(none)) else(none)) else(none))) else(none)) else(none))) else(none)) else(none)) else(none)) else(none)) else(none))))) else(some (⟨#[]⟩:af)))
def gV.T4 : Bool×List (List Nat×List Nat):=(true,[([],[]),([],[]),([1,0],[1]),([0,2],[0,2]),([3],[3]),([4],[4]),([5],[5]),([],[]),([7],[7]),([8,2],[8]),([6,9],[6,9]),([10],[10]),([9],[]),([],[]),([13],[13]),([14],[14]),([12,15],[12,15]),([16],[16]),([11,17],[11,17]),([18],[18]),([],[]),([20],[20]),([21,12],[21]),([19,22],[19,22]),([23],[23]),([],[]),([25,22],[25]),([24,26],[24,26]),([27],[27]),([28,26,0,1,2,3,4,5,6,7,8,9,10,11,12,13,14,15,16,17,18,19,20,21,22,23,24,25,26,27,28],[28])])
def gV.B4 : List Nat:=[0,0,3,7,15,31,63,0,128,391,1023,2047,903,0,8192,24576,62343,127879,262143,524287,0,1048576,3150727,8388607,16777215,0,40899463,134217727,268435455,536870911]
theorem gV.aaz : nL .any (opsOf Tryz.f136 4)=gV.T4:=by kernel_rfl
theorem gV.O6 : jf gV.T4.2 gV.B4=true:=by kernel_rfl
theorem gV.Ep {P:Program} {md:Region.Mode} {ops:Array Oper} {Q:Exit->Act->World->Prop} {S T:World->Prop}:∀(fuel:Nat) (l:Array Bool) (a:Act) (w:World),S w->T w->bP P md ops Q (fun w=>S w/\T w) [] fuel l a w->bP P md ops Q S [] fuel l a w
 |0,_,_,_,_,_,h=>h
 |fuel+1,_,_,_,hS,hT,h=>⟨h.1,fun i hi=>wpOp_mono (fun a' w' h'=>⟨fun _ _=>(h'.1 List.not_mem_nil ⟨hS,hT⟩).1,Ep fuel _ a' w' (h'.1 List.not_mem_nil ⟨hS,hT⟩).1 (h'.1 List.not_mem_nil ⟨hS,hT⟩).2 h'.2⟩) (h.2 i hi)⟩
theorem gV.calls (k:Nat) (a0:Int) (r:ByteArray) (w:World) (h:gV.f k a0=some r) (HT0:mX w) :
  Calls Tryz.prog 136 #[.int .i64 a0] w fun e w'=>e = .returned (.string r)/\Below w.heap.size w w':=by
 have HT:=aa.mk HT0;clear HT0;have zL:=Tryz.underlying117;have HB:=aa.mk (Below.refl w.heap.size w);have H:=aa.mk h;clear h;unfold gV.f at H;rcases lu H with⟨A2,H⟩|⟨A2,H⟩
 ·obtain⟨⟨FR,FT,FU,Li,Lj,Ll⟩,A4,H⟩:=nP H;dsimp only at H;obtain⟨rQ,A5,H⟩:=nP H;obtain⟨pY,A6,H⟩:=nP H;obtain⟨-,nR,-,H⟩:=nZ H;obtain⟨-,mU,-,H⟩:=nZ H;obtain⟨-,xy,pg,H⟩:=nZ H;obtain⟨-,Aw,pX,H⟩:=nZ H;obtain⟨c11,Aq,oV,H⟩:=nZ H;try have ahd:=eq_false (Nat.not_lt.2 c11)
  try have azS:(9223372036854775807<min 3 (dh ByteArray.empty rQ pY).size+2)=False:=by have h_:=ahd;simpa only[ByteArray.size_extract,Nat.sub_zero] using h_
  obtain⟨wD,JR,H⟩:=nP H;obtain⟨c13,wo,qG,H⟩:=nZ H;try have ab1:=eq_false (Nat.not_lt.2 c13)
  try(have Bv:=c13;simp only[ByteArray.size_append,si,List.length_cons,List.length_nil,Nat.zero_add,Nat.reduceAdd] at Bv;replace Bv:=eq_false (Nat.not_lt.2 Bv))
  try have azT:(9223372036854775807<min 3 (dh ByteArray.empty rQ pY).size+2+wD.size)=False:=by have h_:=Bv;simpa only[ByteArray.size_extract,Nat.sub_zero] using h_
  obtain⟨c14,Lm,wu,H⟩:=nZ H;try have ab2:=eq_false (Nat.not_lt.2 c14)
  try(have Bw:=c14;simp only[ByteArray.size_append,si,List.length_cons,List.length_nil,Nat.zero_add,Nat.reduceAdd] at Bw;replace Bw:=eq_false (Nat.not_lt.2 Bw))
  try have au0:(9223372036854775807<min 3 (dh ByteArray.empty rQ pY).size+2+wD.size+1)=False:=by have h_:=Bw;simpa only[ByteArray.size_extract,Nat.sub_zero] using h_
  obtain⟨wW,UI,H⟩:=nP H;obtain⟨MI,FV⟩:∃ j_:Int,(wrap64 (FT-1))=j_:=⟨_,rfl⟩;(first|rw[FV] at H|simp only[FV] at H ⊢)
  (try rw[FV] at A2)
  (try rw[FV] at A4)
  (try rw[FV] at A5)
  (try rw[FV] at A6)
  (try rw[FV] at JR)
  (try rw[FV] at UI)
  have azU:(IntKind.i64.wrap (FT-1))=MI:=(dU _).trans FV;obtain⟨-,sP,-,H⟩:=nZ H;obtain⟨-,FP,-,H⟩:=nZ H;obtain⟨c19,Eh,yG,H⟩:=nZ H;try have aoC:=eq_false (Nat.not_lt.2 c19)
  try(have Jb:=c19;simp only[ByteArray.size_append,si,List.length_cons,List.length_nil,Nat.zero_add,Nat.reduceAdd] at Jb;replace Jb:=eq_false (Nat.not_lt.2 Jb))
  try have azV:(9223372036854775807<min 3 (dh ByteArray.empty rQ pY).size+2+wD.size+1+(dh ByteArray.empty wW (MI)).size)=False:=by have h_:=Jb;simpa only[ByteArray.size_extract,Nat.sub_zero] using h_
  obtain⟨c20,Dl,uu,H⟩:=nZ H;try have Xt:=eq_false (Nat.not_lt.2 c20)
  try(have xS:=c20;simp only[ByteArray.size_append,si,List.length_cons,List.length_nil,Nat.zero_add,Nat.reduceAdd] at xS;replace xS:=eq_false (Nat.not_lt.2 xS))
  try have au1:(9223372036854775807<min 3 (dh ByteArray.empty rQ pY).size+2+wD.size+1+(dh ByteArray.empty wW (MI)).size+1)=False:=by have h_:=xS;simpa only[ByteArray.size_extract,Nat.sub_zero] using h_
  obtain⟨Eo,A21,H⟩:=nP H;obtain⟨c22,Sv,Lg,H⟩:=nZ H;try have aoD:=eq_false (Nat.not_lt.2 c22)
  try(have Bz:=c22;simp only[ByteArray.size_append,si,List.length_cons,List.length_nil,Nat.zero_add,Nat.reduceAdd] at Bz;replace Bz:=eq_false (Nat.not_lt.2 Bz))
  try have azW:(9223372036854775807<min 3 (dh ByteArray.empty rQ pY).size+2+wD.size+1+(dh ByteArray.empty wW (MI)).size+1+Eo.size)=False:=by have h_:=Bz;simpa only[ByteArray.size_extract,Nat.sub_zero] using h_
  obtain⟨c23,Sr,Le,H⟩:=nZ H;try have aoE:=eq_false (Nat.not_lt.2 c23)
  try(have BA:=c23;simp only[ByteArray.size_append,si,List.length_cons,List.length_nil,Nat.zero_add,Nat.reduceAdd] at BA;replace BA:=eq_false (Nat.not_lt.2 BA))
  try have azX:(9223372036854775807<min 3 (dh ByteArray.empty rQ pY).size+2+wD.size+1+(dh ByteArray.empty wW (MI)).size+1+Eo.size+1)=False:=by have h_:=BA;simpa only[ByteArray.size_extract,Nat.sub_zero] using h_
  obtain⟨O5,A24,H⟩:=nP H;obtain⟨SA,O7,wz,H⟩:=nZ H;try have ahe:=eq_false (Nat.not_lt.2 SA)
  try(have BB:=SA;simp only[ByteArray.size_append,si,List.length_cons,List.length_nil,Nat.zero_add,Nat.reduceAdd] at BB;replace BB:=eq_false (Nat.not_lt.2 BB))
  try have azY:(9223372036854775807<min 3 (dh ByteArray.empty rQ pY).size+2+wD.size+1+(dh ByteArray.empty wW (MI)).size+1+Eo.size+1+O5.size)=False:=by have h_:=BB;simpa only[ByteArray.size_extract,Nat.sub_zero] using h_
  obtain⟨c26,SB,Ec,H⟩:=nZ H;try have au2:=eq_false (Nat.not_lt.2 c26)
  try(have Jc:=c26;simp only[ByteArray.size_append,si,List.length_cons,List.length_nil,Nat.zero_add,Nat.reduceAdd] at Jc;replace Jc:=eq_false (Nat.not_lt.2 Jc))
  try have azZ:(9223372036854775807<min 3 (dh ByteArray.empty rQ pY).size+2+wD.size+1+(dh ByteArray.empty wW (MI)).size+1+Eo.size+1+O5.size+4)=False:=by have h_:=Jc;simpa only[ByteArray.size_extract,Nat.sub_zero] using h_
  obtain rfl:=aI H.out;go_enter Tryz.func136,Tryz.ntmps136;try go_wp2_with(first|((with_reducible refine cZ 37 rfl ?_);refine mM 5 rfl Tryz.func37 (gW.calls a0 true _ A2.out) fun nd=>?_)|((with_reducible refine cZ 176 rfl ?_);refine iW 8 rfl Tryz.func176 (dL.calls k a0 FR FT FU Li Lj Ll _ A4.out) fun gG hb HB=>?_;clear hb)|((with_reducible refine lT 3 rfl ?_);refine Fp #[.int .i64 0,.int .i64 0,.int .i64 0,.int .i64 0,.int .i64 0,.int .i64 0] 117 ?_;clear HB;intro l6 jH ib az0 HB;have _:=nN ib))
  have yJ:aa (((((((jH.setCell ⟨l6,0,none⟩ (.int .i64 FR)).setCell ⟨l6,1,none⟩ (.int .i64 FT)).setCell ⟨l6,2,none⟩ (.int .i64 FU)).setCell ⟨l6,3,none⟩ (.int .i64 Li)).setCell ⟨l6,4,none⟩ (.int .i64 Lj)).setCell ⟨l6,5,none⟩ (.int .i64 Ll)).heap[l6]? = some (.cells #[.int .i64 FR,.int .i64 FT,.int .i64 FU,.int .i64 Li,.int .i64 Lj,.int .i64 Ll] 117 (0,0))):=⟨oQ⟩;have uW:aa (Below w.heap.size w ((((((jH.setCell ⟨l6,0,none⟩ (.int .i64 FR)).setCell ⟨l6,1,none⟩ (.int .i64 FT)).setCell ⟨l6,2,none⟩ (.int .i64 FU)).setCell ⟨l6,3,none⟩ (.int .i64 Li)).setCell ⟨l6,4,none⟩ (.int .i64 Lj)).setCell ⟨l6,5,none⟩ (.int .i64 Ll))):=⟨aX⟩;(try clear ib)
  (try clear HB)
  generalize((((((jH.setCell ⟨l6,0,none⟩ (.int .i64 FR)).setCell ⟨l6,1,none⟩ (.int .i64 FT)).setCell ⟨l6,2,none⟩ (.int .i64 FU)).setCell ⟨l6,3,none⟩ (.int .i64 Li)).setCell ⟨l6,4,none⟩ (.int .i64 Lj)).setCell ⟨l6,5,none⟩ (.int .i64 Ll))=uo at yJ uW ⊢;have ib:=yJ;have HB:=uW;clear yJ uW;replace ib:=aa.mk (eu ib.out);replace HB:=aa.mk (bE HB.out);refine jP (n:=30) (S:=fun w'=>w'.cell? ⟨l6,0,none⟩=some (.int .i64 FR)/\w'.cell? ⟨l6,1,none⟩=some (.int .i64 FT)/\w'.cell? ⟨l6,2,none⟩=some (.int .i64 FU)/\w'.cell? ⟨l6,3,none⟩=some (.int .i64 Li)/\w'.cell? ⟨l6,4,none⟩=some (.int .i64 Lj)/\w'.cell? ⟨l6,5,none⟩=some (.int .i64 Ll)) (ds:=[]) ⟨(ah ib.out 0).trans rfl,(ah ib.out 1).trans rfl,(ah ib.out 2).trans rfl,(ah ib.out 3).trans rfl,(ah ib.out 4).trans rfl,(ah ib.out 5).trans rfl⟩ (fun hHeld=>?_);refine dw gV.aaz gV.O6 (fun HT_ HW_=>?_);generalize uo.drew=Af at ib HB hHeld ⊢;refine bq 1 (some 10) ?_;refine bq 7 (some 16) ?_;refine fB 8 (some 17) (hy:=Or.inl ⟨by rfl,by rintro w' ⟨s0,s1,s2,s3,s4,s5⟩;go_simp;with_reducible rfl⟩) ?_;refine bq 13 (some 22) ?_;refine fB 14 (some 23) (hy:=Or.inl ⟨by rfl,by rintro w' ⟨s0,s1,s2,s3,s4,s5⟩;go_simp;with_reducible rfl⟩) ?_;refine bq 15 (some 24) ?_;refine bq 20 (some 29) ?_;refine fB 21 (some 30) (hy:=Or.inl ⟨by rfl,by rintro w' ⟨s0,s1,s2,s3,s4,s5⟩;go_simp;with_reducible rfl⟩) ?_;refine fB 25 (some 34) (hy:=Or.inl ⟨by rfl,by rintro w' ⟨s0,s1,s2,s3,s4,s5⟩;go_simp;with_reducible rfl⟩) ?_;refine fG (fun K hK=>?_);refine zrl Tryz.func177 (rT.calls  rQ _ A5.out) ?_;rintro e Cu ⟨aDd,rfl,ho0,hb⟩;refine⟨_,rfl,?_⟩;have Gl:=aa.mk (Kd.gu ho0 (aN aX));replace ib:=eF (g:=l6) hb;replace HB:=fw hb;(try clear hb)
  (try clear ho0)
  refine hK.out _ _ ⟨(ah ib.out 0).trans rfl,(ah ib.out 1).trans rfl,(ah ib.out 2).trans rfl,(ah ib.out 3).trans rfl,(ah ib.out 4).trans rfl,(ah ib.out 5).trans rfl⟩ (fun hHeld=>?_);clear hK K;refine bY ?_;refine fG (fun K hK=>?_);refine BZ Tryz.func178 (kz.calls a0 pY _ A6.out) fun nd=>?_;obtain⟨ax2,ax3,afZ⟩:=Kd.eD Gl.out;(first|subst afZ|(injection afZ with IC Uu IE;have Uv:=IC.symm;have Uw:=IE.symm;clear IC Uu IE;subst Uv;subst Uw))
  have ahf:0<=(pY:Int):=ay bM;have ahg:pY<(rQ.length:Int):=ay bM;obtain⟨aq5,au3,Xu⟩:=Kd.eG (Kd.aH Gl.out).2.2 pY ahf ahg;cases au3
  replace ahf:=eq_true ahf;replace ahg:=eq_true ahg;refine hK.out _ _ ⟨(ah ib.out 0).trans rfl,(ah ib.out 1).trans rfl,(ah ib.out 2).trans rfl,(ah ib.out 3).trans rfl,(ah ib.out 4).trans rfl,(ah ib.out 5).trans rfl⟩ (fun hHeld=>?_);refine gV.Ep (T:=fun w'=>w'.cell? (aq5.add (pY).toNat)=some (.string (dh ByteArray.empty rQ pY))) _ _ _ _ hHeld Xu ?_;have hHeld:=And.intro hHeld Xu;clear hK K;refine bY ?_;repeat(first|refine lC ?_ (hy:=Or.inl ⟨by rfl,by rintro w' ⟨⟨s0,s1,s2,s3,s4,s5⟩,s6⟩;go_simp;with_reducible rfl⟩)|refine dA ?_)
  refine fG (fun K hK=>?_);refine jZ Tryz.func179 dK rfl #[.int .i64 FU,.int .i64 2] (by rfl) rfl rfl Bd ?_;with_reducible refine(dR.calls k FU 2 wD _ JR.out ?hT).mono ?_
  case hT=>exact dV HT
  rintro e VR ⟨rfl,hb⟩;have GU:=(hb.cell (World.block_lt_of_cell? _ _ (hHeld.2))).trans (hHeld.2);refine⟨_,rfl,?_⟩;replace Gl:=aa.mk (Kd.bL ae4 hb);replace ib:=eF (g:=l6) hb;replace HB:=fw hb;(try clear hb)
  refine hK.out _ _ ⟨⟨(ah ib.out 0).trans rfl,(ah ib.out 1).trans rfl,(ah ib.out 2).trans rfl,(ah ib.out 3).trans rfl,(ah ib.out 4).trans rfl,(ah ib.out 5).trans rfl⟩,GU⟩ (fun hHeld=>?_);clear hK K;refine bY ?_;repeat(first|refine dA ?_)
  refine fG (fun K hK=>?_);refine jZ Tryz.func171 dK rfl #[] (by rfl) rfl rfl Bd ?_;(with_reducible refine(mH.calls  wW _ UI.out).mono ?_);rintro e K7 ⟨aDe,rfl,ho0,hb⟩;have GU:=(hb.cell (World.block_lt_of_cell? _ _ (hHeld.2))).trans (hHeld.2);refine⟨_,rfl,?_⟩;have Km:=aa.mk (Kd.gu (Kd.rq ho0 (Kd.vI ae4)) (aN aX));replace Gl:=aa.mk (Kd.zh ae4 (Kd.qo ho0) hb);replace ib:=eF (g:=l6) hb;replace HB:=fw hb;(try clear hb)
  (try clear ho0)
  obtain⟨akG,akH,aaA⟩:=Kd.eD Km.out;(first|subst aaA|(injection aaA with IC Uu IE;have Uv:=IC.symm;have Uw:=IE.symm;clear IC Uu IE;subst Uv;subst Uw))
  have ahh:0<=((MI):Int):=ay bM;have ahi:(MI)<(wW.length:Int):=ay bM;obtain⟨aq6,au4,Xv⟩:=Kd.eG (Kd.aH Km.out).2.2 (MI) ahh ahi;cases au4
  replace ahh:=eq_true ahh;replace ahi:=eq_true ahi;refine hK.out _ _ ⟨⟨(ah ib.out 0).trans rfl,(ah ib.out 1).trans rfl,(ah ib.out 2).trans rfl,(ah ib.out 3).trans rfl,(ah ib.out 4).trans rfl,(ah ib.out 5).trans rfl⟩,GU⟩ (fun hHeld=>?_);refine gV.Ep (T:=fun w'=>w'.cell? (aq6.add ((MI)).toNat)=some (.string (dh ByteArray.empty wW (MI)))) _ _ _ _ hHeld Xv ?_;have hHeld:=And.intro hHeld Xv;clear hK K;refine bY ?_;repeat(first|refine lC ?_ (hy:=Or.inl ⟨by rfl,by rintro w' ⟨⟨⟨s0,s1,s2,s3,s4,s5⟩,s6⟩,s7⟩;go_simp;with_reducible rfl⟩)|refine dA ?_)
  refine fG (fun K hK=>?_);refine jZ Tryz.func179 dK rfl #[.int .i64 FR,.int .i64 4] (by rfl) rfl rfl Bd ?_;with_reducible refine(dR.calls k FR 4 Eo _ A21.out ?hT).mono ?_
  case hT=>exact dV HT
  rintro e VR ⟨rfl,hb⟩;have GU:=(hb.cell (World.block_lt_of_cell? _ _ (hHeld.1.2))).trans (hHeld.1.2);have zN:=(hb.cell (World.block_lt_of_cell? _ _ (hHeld.2))).trans (hHeld.2);refine⟨_,rfl,?_⟩;replace Gl:=aa.mk (Kd.bL ae4 hb);replace Km:=aa.mk (Kd.bL (by(with_reducible repeat(first|apply Kd.cK|apply Kd.cz|apply Kd.dB));exact Km.out) hb);replace ib:=eF (g:=l6) hb;replace HB:=fw hb;(try clear hb)
  refine hK.out _ _ ⟨⟨⟨(ah ib.out 0).trans rfl,(ah ib.out 1).trans rfl,(ah ib.out 2).trans rfl,(ah ib.out 3).trans rfl,(ah ib.out 4).trans rfl,(ah ib.out 5).trans rfl⟩,GU⟩,zN⟩ (fun hHeld=>?_);clear hK K;refine bY ?_;repeat(first|refine dA ?_)
  refine fG (fun K hK=>?_);refine jZ Tryz.func180 dK rfl #[.agg #[.int .i64 FR,.int .i64 FT,.int .i64 FU,.int .i64 Li,.int .i64 Lj,.int .i64 Ll]] (by rfl) rfl rfl Bd ?_;with_reducible refine(jE.calls k FR FT FU Li Lj Ll O5 _ A24.out ?hT).mono ?_
  case hT=>exact dV HT
  rintro e VR ⟨rfl,hb⟩;have GU:=(hb.cell (World.block_lt_of_cell? _ _ (hHeld.1.2))).trans (hHeld.1.2);have zN:=(hb.cell (World.block_lt_of_cell? _ _ (hHeld.2))).trans (hHeld.2);refine⟨_,rfl,?_⟩;replace Gl:=aa.mk (Kd.bL ae4 hb);replace Km:=aa.mk (Kd.bL (by(with_reducible repeat(first|apply Kd.cK|apply Kd.cz|apply Kd.dB));exact Km.out) hb);replace ib:=eF (g:=l6) hb;replace HB:=fw hb;(try clear hb)
  refine hK.out _ _ ⟨⟨⟨(ah ib.out 0).trans rfl,(ah ib.out 1).trans rfl,(ah ib.out 2).trans rfl,(ah ib.out 3).trans rfl,(ah ib.out 4).trans rfl,(ah ib.out 5).trans rfl⟩,GU⟩,zN⟩ (fun hHeld=>?_);clear hK K;refine bY ?_;repeat(first|refine dA ?_)
  refine kI (fP HT_.out dK) ?_;try go_wp2
  go_ret;exact⟨by first|rfl|(simp[dP,dQ] <;> rfl)|(simp only[<- FV];first|rfl|(simp[dP,dQ] <;> rfl))|(simp[*,dP,dQ] <;> rfl),aX⟩
 ·obtain rfl:=aI H.out;go_enter Tryz.func136,Tryz.ntmps136;go_wp2_with(((with_reducible refine cZ 37 rfl ?_);refine mM 5 rfl Tryz.func37 (gW.calls a0 false _ A2.out) fun nd=>?_));go_ret;exact⟨jv,aX⟩


def eP.j0 : Nat->Int->Bool->Option (ByteArray)
 |0,_,_=>none
 |k+1,x0,x12=>if x12=true then(some (⟨#[]⟩:af)) else((dL.f k x0).bind fun sV=>((rT.f).bind fun zO=>((kz.f x0).bind fun wE=>(if 0<=wE then(if wE<(zO.length:Int) then(if(dh ByteArray.empty zO wE).size+2<=9223372036854775807 then((dR.f k sV.2.2.1 2).bind fun Er=>(if((dh ByteArray.empty zO wE)++(⟨#[44,32]⟩:af)).size+Er.size<=9223372036854775807 then(if(((dh ByteArray.empty zO wE)++(⟨#[44,32]⟩:af))++Er).size+1<=9223372036854775807 then((mH.f).bind fun Dq=>(if 0<=(wrap64 (sV.2.1-1)) then(if(wrap64 (sV.2.1-1))<(Dq.length:Int) then(if((((dh ByteArray.empty zO wE)++(⟨#[44,32]⟩:af))++Er)++(⟨#[45]⟩:af)).size+(dh ByteArray.empty Dq (wrap64 (sV.2.1-1))).size<=9223372036854775807 then(if(((((dh ByteArray.empty zO wE)++(⟨#[44,32]⟩:af))++Er)++(⟨#[45]⟩:af))++(dh ByteArray.empty Dq (wrap64 (sV.2.1-1)))).size+1<=9223372036854775807 then((dR.f k sV.1 2).bind fun O8=>(if((((((dh ByteArray.empty zO wE)++(⟨#[44,32]⟩:af))++Er)++(⟨#[45]⟩:af))++(dh ByteArray.empty Dq (wrap64 (sV.2.1-1))))++(⟨#[45]⟩:af)).size+O8.size<=9223372036854775807 then(if(((((((dh ByteArray.empty zO wE)++(⟨#[44,32]⟩:af))++Er)++(⟨#[45]⟩:af))++(dh ByteArray.empty Dq (wrap64 (sV.2.1-1))))++(⟨#[45]⟩:af))++O8).size+1<=9223372036854775807 then((jE.f k sV.1 sV.2.1 sV.2.2.1 sV.2.2.2.1 sV.2.2.2.2.1 sV.2.2.2.2.2).bind fun Xw=>(if((((((((dh ByteArray.empty zO wE)++(⟨#[44,32]⟩:af))++Er)++(⟨#[45]⟩:af))++(dh ByteArray.empty Dq (wrap64 (sV.2.1-1))))++(⟨#[45]⟩:af))++O8)++(⟨#[32]⟩:af)).size+Xw.size<=9223372036854775807 then(if(((((((((dh ByteArray.empty zO wE)++(⟨#[44,32]⟩:af))++Er)++(⟨#[45]⟩:af))++(dh ByteArray.empty Dq (wrap64 (sV.2.1-1))))++(⟨#[45]⟩:af))++O8)++(⟨#[32]⟩:af))++Xw).size+4<=9223372036854775807 then(some ((((((((((dh ByteArray.empty zO wE)++(⟨#[44,32]⟩:af))++Er)++(⟨#[45]⟩:af))++(dh ByteArray.empty Dq (wrap64 (sV.2.1-1))))++(⟨#[45]⟩:af))++O8)++(⟨#[32]⟩:af))++Xw)++(⟨#[32,71,77,84]⟩:af))) else(none)) else(none))) else(none)) else(none))) else(none)) else(none)) else(none)) else(none))) else(none)) else(none))) else(none)) else(none)) else(none)))))
def eP.f (k:Nat) (a0:Int):Option (ByteArray):=(gW.f a0).bind fun au5=>(if au5=true then((dL.f k a0).bind fun aq7=>(eP.j0 k a0 (decide (aq7.1>2069)))) else(eP.j0 k a0 true))
def eP.T4 : Bool×List (List Nat×List Nat):=(true,[([],[]),([],[]),([1,0],[1]),([0,2],[0,2]),([3],[3]),([4],[4]),([],[]),([6],[6]),([7,2],[7]),([5,8],[5,8]),([9],[9]),([8],[]),([],[]),([12],[12]),([13],[13]),([11,14],[11,14]),([15],[15]),([10,16],[10,16]),([17],[17]),([],[]),([19],[19]),([20,11],[20]),([18,21],[18,21]),([22],[22]),([],[]),([24,21],[24]),([23,25],[23,25]),([26],[26]),([27,25,0,1,2,3,4,5,6,7,8,9,10,11,12,13,14,15,16,17,18,19,20,21,22,23,24,25,26,27],[27])])
def eP.B4 : List Nat:=[0,0,3,7,15,31,0,64,199,511,1023,455,0,4096,12288,31175,63943,131071,262143,0,524288,1575367,4194303,8388607,0,20449735,67108863,134217727,268435455]
theorem eP.aaz : nL .any (opsOf Tryz.f137 4)=eP.T4:=by kernel_rfl
theorem eP.O6 : jf eP.T4.2 eP.B4=true:=by kernel_rfl
theorem eP.Ep {P:Program} {md:Region.Mode} {ops:Array Oper} {Q:Exit->Act->World->Prop} {S T:World->Prop}:∀(fuel:Nat) (l:Array Bool) (a:Act) (w:World),S w->T w->bP P md ops Q (fun w=>S w/\T w) [] fuel l a w->bP P md ops Q S [] fuel l a w
 |0,_,_,_,_,_,h=>h
 |fuel+1,_,_,_,hS,hT,h=>⟨h.1,fun i hi=>wpOp_mono (fun a' w' h'=>⟨fun _ _=>(h'.1 List.not_mem_nil ⟨hS,hT⟩).1,Ep fuel _ a' w' (h'.1 List.not_mem_nil ⟨hS,hT⟩).1 (h'.1 List.not_mem_nil ⟨hS,hT⟩).2 h'.2⟩) (h.2 i hi)⟩
attribute [local go_sem] Instr.field asAgg List.getElem?_toArray List.getElem?_cons_zero List.getElem_toArray List.getElem_cons_zero in
theorem eP.calls (k:Nat) (a0:Int) (r:ByteArray) (w:World) (h:eP.f k a0=some r) (HT0:mX w) :
  Calls Tryz.prog 137 #[.int .i64 a0] w fun e w'=>e = .returned (.string r)/\Below w.heap.size w w':=by
 have HT:=aa.mk HT0;clear HT0;have zL:=Tryz.underlying117;have HB:=aa.mk (Below.refl w.heap.size w);have H:=h;clear h;unfold eP.f at H;have qz:=aa.mk H;clear H;go_enter Tryz.func137,Tryz.ntmps137;go_upto_region 1 with(fail);go_cut [12] (fun v12 wc=>∃(kq:Nat) (Oq:Bool),v12 = .bool Oq/\aa (eP.j0 kq a0 Oq=some r)/\aa (kq<=k)/\aa (Below w.heap.size w wc))
 case first=>
  have H:=qz.out;clear qz;replace H:=xE H;rcases H with⟨A3,H⟩|⟨A3,H⟩
  ·replace H:=gD H;obtain⟨⟨aoF,au6,au7,au8,au9,ava⟩,A5,H⟩:=H;dsimp only at H;replace H:=aa.mk H;go_wp2_with(first|((with_reducible refine cZ 37 rfl ?_);refine mM 5 rfl Tryz.func37 (gW.calls a0 true _ A3.out) fun nd=>?_)|(go_at_call 176;(with_reducible refine(dL.calls k a0 aoF au6 au7 au8 au9 ava _ A5.out).mono ?_);rintro e gG ⟨rfl,hb⟩;replace HB:=fw hb;clear hb));go_meet
   case rel=>exact⟨_,(decide (aoF>2069)),bR,H,⟨tT⟩,⟨aX⟩⟩
  ·replace H:=aa.mk H;go_wp2_with(((with_reducible refine cZ 37 rfl ?_);refine mM 5 rfl Tryz.func37 (gW.calls a0 false _ A3.out) fun nd=>?_));go_meet
   case rel=>exact⟨_,(true),bR,H,⟨tT⟩,⟨aX⟩⟩
 case rest=>
  clear qz;obtain⟨kq,Oq,rfl,HA,tC,HB⟩:=hcut;cases kq with
  |zero=>exact absurd HA.out (by simp[eP.j0])
  |succ oz=>
   have H:=HA.out;clear HA;simp only[eP.j0] at H;replace H:=gB H;rcases H with⟨rfl,H⟩|⟨rfl,H⟩
   ·obtain rfl:=aI H;go_wp2;go_ret;exact⟨jv,aX⟩
   ·replace H:=gD H;obtain⟨⟨FW,FX,FY,Lp,Lr,Ls⟩,A8,H⟩:=H;dsimp only at H;replace H:=gD H;obtain⟨zO,A9,H⟩:=H;replace H:=gD H;obtain⟨wE,JQ,H⟩:=H;replace H:=gI H;rcases H with⟨-,oV,-,H⟩|⟨c11,-,-,H⟩
    ·replace H:=gN H;obtain⟨-,nS,-,H⟩:=H;replace H:=gN H;obtain⟨c13,wo,qG,H⟩:=H;try have ab1:=eq_false (Nat.not_lt.2 c13)
     replace H:=gD H;obtain⟨Er,A14,H⟩:=H;replace H:=gN H;obtain⟨c15,Dh,sQ,H⟩:=H;try have avb:=eq_false (Nat.not_lt.2 c15)
     try(have O9:=c15;simp only[ByteArray.size_append,si,List.length_cons,List.length_nil,Nat.zero_add,Nat.reduceAdd] at O9;replace O9:=eq_false (Nat.not_lt.2 O9))
     replace H:=gN H;obtain⟨c16,Bu,sS,H⟩:=H;try have avc:=eq_false (Nat.not_lt.2 c16)
     try(have Lt:=c16;simp only[ByteArray.size_append,si,List.length_cons,List.length_nil,Nat.zero_add,Nat.reduceAdd] at Lt;replace Lt:=eq_false (Nat.not_lt.2 Lt))
     replace H:=gD H;obtain⟨Dq,WV,H⟩:=H;obtain⟨aeh,Jd⟩:∃ j_:Int,(wrap64 (FX-1))=j_:=⟨_,rfl⟩;(first|rw[Jd] at H|simp only[Jd] at H ⊢)
     (try rw[Jd] at A8)
     (try rw[Jd] at A9)
     (try rw[Jd] at JQ)
     (try rw[Jd] at A14)
     (try rw[Jd] at WV)
     have az1:(IntKind.i64.wrap (FX-1))=aeh:=(dU _).trans Jd;replace H:=gN H;obtain⟨-,yG,-,H⟩:=H;replace H:=gN H;obtain⟨-,uu,-,H⟩:=H;replace H:=gN H;obtain⟨c21,Dm,uw,H⟩:=H;try have ahj:=eq_false (Nat.not_lt.2 c21)
     try(have Pb:=c21;simp only[ByteArray.size_append,si,List.length_cons,List.length_nil,Nat.zero_add,Nat.reduceAdd] at Pb;replace Pb:=eq_false (Nat.not_lt.2 Pb))
     replace H:=gN H;obtain⟨c22,Sv,Lg,H⟩:=H;try have aoD:=eq_false (Nat.not_lt.2 c22)
     try(have Bz:=c22;simp only[ByteArray.size_append,si,List.length_cons,List.length_nil,Nat.zero_add,Nat.reduceAdd] at Bz;replace Bz:=eq_false (Nat.not_lt.2 Bz))
     replace H:=gD H;obtain⟨O8,A23,H⟩:=H;replace H:=gN H;obtain⟨c24,IX,yI,H⟩:=H;try have aoG:=eq_false (Nat.not_lt.2 c24)
     try(have Dr:=c24;simp only[ByteArray.size_append,si,List.length_cons,List.length_nil,Nat.zero_add,Nat.reduceAdd] at Dr;replace Dr:=eq_false (Nat.not_lt.2 Dr))
     replace H:=gN H;obtain⟨SA,O7,wz,H⟩:=H;try have ahe:=eq_false (Nat.not_lt.2 SA)
     try(have BB:=SA;simp only[ByteArray.size_append,si,List.length_cons,List.length_nil,Nat.zero_add,Nat.reduceAdd] at BB;replace BB:=eq_false (Nat.not_lt.2 BB))
     replace H:=gD H;obtain⟨Xw,A26,H⟩:=H;replace H:=gN H;obtain⟨YZ,ab3,IW,H⟩:=H;try have ahk:=eq_false (Nat.not_lt.2 YZ)
     try(have BC:=YZ;simp only[ByteArray.size_append,si,List.length_cons,List.length_nil,Nat.zero_add,Nat.reduceAdd] at BC;replace BC:=eq_false (Nat.not_lt.2 BC))
     replace H:=gN H;obtain⟨c28,Wl,Ov,H⟩:=H;try have aoH:=eq_false (Nat.not_lt.2 c28)
     try(have BD:=c28;simp only[ByteArray.size_append,si,List.length_cons,List.length_nil,Nat.zero_add,Nat.reduceAdd] at BD;replace BD:=eq_false (Nat.not_lt.2 BD))
     obtain rfl:=aI H;try go_wp2_with(first|((with_reducible refine cZ 176 rfl ?_);refine iW 14 rfl Tryz.func176 (dL.calls oz a0 FW FX FY Lp Lr Ls _ A8.out) fun jH hb HB=>?_;clear hb)|((with_reducible refine lT 3 rfl ?_);refine Fp #[.int .i64 0,.int .i64 0,.int .i64 0,.int .i64 0,.int .i64 0,.int .i64 0] 117 ?_;clear HB;intro l8 mP ic az2 HB;have _:=nN ic))
     have uW:aa (((((((mP.setCell ⟨l8,0,none⟩ (.int .i64 FW)).setCell ⟨l8,1,none⟩ (.int .i64 FX)).setCell ⟨l8,2,none⟩ (.int .i64 FY)).setCell ⟨l8,3,none⟩ (.int .i64 Lp)).setCell ⟨l8,4,none⟩ (.int .i64 Lr)).setCell ⟨l8,5,none⟩ (.int .i64 Ls)).heap[l8]? = some (.cells #[.int .i64 FW,.int .i64 FX,.int .i64 FY,.int .i64 Lp,.int .i64 Lr,.int .i64 Ls] 117 (0,0))):=⟨oQ⟩;have SC:aa (Below w.heap.size w ((((((mP.setCell ⟨l8,0,none⟩ (.int .i64 FW)).setCell ⟨l8,1,none⟩ (.int .i64 FX)).setCell ⟨l8,2,none⟩ (.int .i64 FY)).setCell ⟨l8,3,none⟩ (.int .i64 Lp)).setCell ⟨l8,4,none⟩ (.int .i64 Lr)).setCell ⟨l8,5,none⟩ (.int .i64 Ls))):=⟨aX⟩;(try clear ic)
     (try clear HB)
     generalize((((((mP.setCell ⟨l8,0,none⟩ (.int .i64 FW)).setCell ⟨l8,1,none⟩ (.int .i64 FX)).setCell ⟨l8,2,none⟩ (.int .i64 FY)).setCell ⟨l8,3,none⟩ (.int .i64 Lp)).setCell ⟨l8,4,none⟩ (.int .i64 Lr)).setCell ⟨l8,5,none⟩ (.int .i64 Ls))=Af at uW SC ⊢;have ic:=uW;have HB:=SC;clear uW SC;replace ic:=aa.mk (eu ic.out);replace HB:=aa.mk (bE HB.out);refine jP (n:=29) (S:=fun w'=>w'.cell? ⟨l8,0,none⟩=some (.int .i64 FW)/\w'.cell? ⟨l8,1,none⟩=some (.int .i64 FX)/\w'.cell? ⟨l8,2,none⟩=some (.int .i64 FY)/\w'.cell? ⟨l8,3,none⟩=some (.int .i64 Lp)/\w'.cell? ⟨l8,4,none⟩=some (.int .i64 Lr)/\w'.cell? ⟨l8,5,none⟩=some (.int .i64 Ls)) (ds:=[]) ⟨(ah ic.out 0).trans rfl,(ah ic.out 1).trans rfl,(ah ic.out 2).trans rfl,(ah ic.out 3).trans rfl,(ah ic.out 4).trans rfl,(ah ic.out 5).trans rfl⟩ (fun hHeld=>?_);refine dw eP.aaz eP.O6 (fun HT_ HW_=>?_);generalize Af.drew=Cu at ic HB hHeld ⊢;refine bq 1 (some 16) ?_;refine bq 6 (some 21) ?_;refine fB 7 (some 22) (hy:=Or.inl ⟨by rfl,by rintro w' ⟨s0,s1,s2,s3,s4,s5⟩;go_simp;with_reducible rfl⟩) ?_;refine bq 12 (some 27) ?_;refine fB 13 (some 28) (hy:=Or.inl ⟨by rfl,by rintro w' ⟨s0,s1,s2,s3,s4,s5⟩;go_simp;with_reducible rfl⟩) ?_;refine bq 14 (some 29) ?_;refine bq 19 (some 34) ?_;refine fB 20 (some 35) (hy:=Or.inl ⟨by rfl,by rintro w' ⟨s0,s1,s2,s3,s4,s5⟩;go_simp;with_reducible rfl⟩) ?_;refine fB 24 (some 39) (hy:=Or.inl ⟨by rfl,by rintro w' ⟨s0,s1,s2,s3,s4,s5⟩;go_simp;with_reducible rfl⟩) ?_;refine fG (fun K hK=>?_);refine zrl Tryz.func177 (rT.calls  zO _ A9.out) ?_;rintro e Kb ⟨aDf,rfl,ho0,hb⟩;refine⟨_,rfl,?_⟩;have Gm:=aa.mk (Kd.gu ho0 (aN aX));replace ic:=eF (g:=l8) hb;replace HB:=fw hb;(try clear hb)
     (try clear ho0)
     refine hK.out _ _ ⟨(ah ic.out 0).trans rfl,(ah ic.out 1).trans rfl,(ah ic.out 2).trans rfl,(ah ic.out 3).trans rfl,(ah ic.out 4).trans rfl,(ah ic.out 5).trans rfl⟩ (fun hHeld=>?_);clear hK K;refine bY ?_;refine fG (fun K hK=>?_);refine BZ Tryz.func178 (kz.calls a0 wE _ JQ.out) fun nd=>?_;obtain⟨aFH,aFI,avd⟩:=Kd.eD Gm.out;(first|subst avd|(injection avd with IC Uu IE;have Uv:=IC.symm;have Uw:=IE.symm;clear IC Uu IE;subst Uv;subst Uw))
     have ahl:0<=(wE:Int):=ay bM;have ahm:wE<(zO.length:Int):=ay bM;obtain⟨aq8,ave,Xx⟩:=Kd.eG (Kd.aH Gm.out).2.2 wE ahl ahm;cases ave
     replace ahl:=eq_true ahl;replace ahm:=eq_true ahm;refine hK.out _ _ ⟨(ah ic.out 0).trans rfl,(ah ic.out 1).trans rfl,(ah ic.out 2).trans rfl,(ah ic.out 3).trans rfl,(ah ic.out 4).trans rfl,(ah ic.out 5).trans rfl⟩ (fun hHeld=>?_);refine eP.Ep (T:=fun w'=>w'.cell? (aq8.add (wE).toNat)=some (.string (dh ByteArray.empty zO wE))) _ _ _ _ hHeld Xx ?_;have hHeld:=And.intro hHeld Xx;clear hK K;refine bY ?_;repeat(first|refine lC ?_ (hy:=Or.inl ⟨by rfl,by rintro w' ⟨⟨s0,s1,s2,s3,s4,s5⟩,s6⟩;go_simp;with_reducible rfl⟩)|refine dA ?_)
     refine fG (fun K hK=>?_);refine jZ Tryz.func179 dK rfl #[.int .i64 FY,.int .i64 2] (by rfl) rfl rfl Bd ?_;with_reducible refine(dR.calls oz FY 2 Er _ A14.out ?hT).mono ?_
     case hT=>exact dV HT
     rintro e K7 ⟨rfl,hb⟩;have zN:=(hb.cell (World.block_lt_of_cell? _ _ (hHeld.2))).trans (hHeld.2);refine⟨_,rfl,?_⟩;replace Gm:=aa.mk (Kd.bL ae5 hb);replace ic:=eF (g:=l8) hb;replace HB:=fw hb;(try clear hb)
     refine hK.out _ _ ⟨⟨(ah ic.out 0).trans rfl,(ah ic.out 1).trans rfl,(ah ic.out 2).trans rfl,(ah ic.out 3).trans rfl,(ah ic.out 4).trans rfl,(ah ic.out 5).trans rfl⟩,zN⟩ (fun hHeld=>?_);clear hK K;refine bY ?_;repeat(first|refine dA ?_)
     refine fG (fun K hK=>?_);refine jZ Tryz.func171 dK rfl #[] (by rfl) rfl rfl Bd ?_;(with_reducible refine(mH.calls  Dq _ WV.out).mono ?_);rintro e avf ⟨aDg,rfl,ho0,hb⟩;have zN:=(hb.cell (World.block_lt_of_cell? _ _ (hHeld.2))).trans (hHeld.2);refine⟨_,rfl,?_⟩;have Kn:=aa.mk (Kd.gu (Kd.rq ho0 (Kd.vI ae5)) (aN aX));replace Gm:=aa.mk (Kd.zh ae5 (Kd.qo ho0) hb);replace ic:=eF (g:=l8) hb;replace HB:=fw hb;(try clear hb)
     (try clear ho0)
     obtain⟨auD,auE,aec⟩:=Kd.eD Kn.out;(first|subst aec|(injection aec with IC Uu IE;have Uv:=IC.symm;have Uw:=IE.symm;clear IC Uu IE;subst Uv;subst Uw))
     have ahn:0<=((aeh):Int):=ay bM;have aho:(aeh)<(Dq.length:Int):=ay bM;obtain⟨aq9,avg,Xy⟩:=Kd.eG (Kd.aH Kn.out).2.2 (aeh) ahn aho;cases avg
     replace ahn:=eq_true ahn;replace aho:=eq_true aho;refine hK.out _ _ ⟨⟨(ah ic.out 0).trans rfl,(ah ic.out 1).trans rfl,(ah ic.out 2).trans rfl,(ah ic.out 3).trans rfl,(ah ic.out 4).trans rfl,(ah ic.out 5).trans rfl⟩,zN⟩ (fun hHeld=>?_);refine eP.Ep (T:=fun w'=>w'.cell? (aq9.add ((aeh)).toNat)=some (.string (dh ByteArray.empty Dq (aeh)))) _ _ _ _ hHeld Xy ?_;have hHeld:=And.intro hHeld Xy;clear hK K;refine bY ?_;repeat(first|refine lC ?_ (hy:=Or.inl ⟨by rfl,by rintro w' ⟨⟨⟨s0,s1,s2,s3,s4,s5⟩,s6⟩,s7⟩;go_simp;with_reducible rfl⟩)|refine dA ?_)
     refine fG (fun K hK=>?_);refine jZ Tryz.func179 dK rfl #[.int .i64 FW,.int .i64 2] (by rfl) rfl rfl Bd ?_;with_reducible refine(dR.calls oz FW 2 O8 _ A23.out ?hT).mono ?_
     case hT=>exact dV HT
     rintro e K7 ⟨rfl,hb⟩;have zN:=(hb.cell (World.block_lt_of_cell? _ _ (hHeld.1.2))).trans (hHeld.1.2);have aaB:=(hb.cell (World.block_lt_of_cell? _ _ (hHeld.2))).trans (hHeld.2);refine⟨_,rfl,?_⟩;replace Gm:=aa.mk (Kd.bL ae5 hb);replace Kn:=aa.mk (Kd.bL (by(with_reducible repeat(first|apply Kd.cK|apply Kd.cz|apply Kd.dB));exact Kn.out) hb);replace ic:=eF (g:=l8) hb;replace HB:=fw hb;(try clear hb)
     refine hK.out _ _ ⟨⟨⟨(ah ic.out 0).trans rfl,(ah ic.out 1).trans rfl,(ah ic.out 2).trans rfl,(ah ic.out 3).trans rfl,(ah ic.out 4).trans rfl,(ah ic.out 5).trans rfl⟩,zN⟩,aaB⟩ (fun hHeld=>?_);clear hK K;refine bY ?_;repeat(first|refine dA ?_)
     refine fG (fun K hK=>?_);refine jZ Tryz.func180 dK rfl #[.agg #[.int .i64 FW,.int .i64 FX,.int .i64 FY,.int .i64 Lp,.int .i64 Lr,.int .i64 Ls]] (by rfl) rfl rfl Bd ?_;with_reducible refine(jE.calls oz FW FX FY Lp Lr Ls Xw _ A26.out ?hT).mono ?_
     case hT=>exact dV HT
     rintro e K7 ⟨rfl,hb⟩;have zN:=(hb.cell (World.block_lt_of_cell? _ _ (hHeld.1.2))).trans (hHeld.1.2);have aaB:=(hb.cell (World.block_lt_of_cell? _ _ (hHeld.2))).trans (hHeld.2);refine⟨_,rfl,?_⟩;replace Gm:=aa.mk (Kd.bL ae5 hb);replace Kn:=aa.mk (Kd.bL (by(with_reducible repeat(first|apply Kd.cK|apply Kd.cz|apply Kd.dB));exact Kn.out) hb);replace ic:=eF (g:=l8) hb;replace HB:=fw hb;(try clear hb)
     refine hK.out _ _ ⟨⟨⟨(ah ic.out 0).trans rfl,(ah ic.out 1).trans rfl,(ah ic.out 2).trans rfl,(ah ic.out 3).trans rfl,(ah ic.out 4).trans rfl,(ah ic.out 5).trans rfl⟩,zN⟩,aaB⟩ (fun hHeld=>?_);clear hK K;refine bY ?_;repeat(first|refine dA ?_)
     refine kI (fP HT_.out dK) ?_;try go_wp2
     go_ret;exact⟨by first|rfl|(simp[dP,dQ] <;> rfl)|(simp only[<- Jd];first|rfl|(simp[dP,dQ] <;> rfl))|(simp[*,dP,dQ] <;> rfl),aX⟩
    ·exact absurd H (by simp)


def ed.j0 : Nat->Int->ByteArray->Int->Int->Int->Int->Int->Int->Option (ByteArray)
 |0,_,_,_,_,_,_,_,_=>none
 |k+1,x0,x4,Xz,sW,ahp,ahq,ahr,ahs=>(rT.f).bind fun sZ=>((kz.f x0).bind fun qV=>(if 0<=qV then(if qV<(sZ.length:Int) then(if 0<=3 then(if 3<=((dh ByteArray.empty sZ qV).size:Int) then(if((dh ByteArray.empty sZ qV).extract 0 3).size+1<=9223372036854775807 then((mH.f).bind fun u6=>(if 0<=(wrap64 (sW-1)) then(if(wrap64 (sW-1))<(u6.length:Int) then(if(((dh ByteArray.empty sZ qV).extract 0 3)++(⟨#[32]⟩:af)).size+(dh ByteArray.empty u6 (wrap64 (sW-1))).size<=9223372036854775807 then(if((((dh ByteArray.empty sZ qV).extract 0 3)++(⟨#[32]⟩:af))++(dh ByteArray.empty u6 (wrap64 (sW-1)))).size+1<=9223372036854775807 then(if(((((dh ByteArray.empty sZ qV).extract 0 3)++(⟨#[32]⟩:af))++(dh ByteArray.empty u6 (wrap64 (sW-1))))++(⟨#[32]⟩:af)).size+x4.size<=9223372036854775807 then(if((((((dh ByteArray.empty sZ qV).extract 0 3)++(⟨#[32]⟩:af))++(dh ByteArray.empty u6 (wrap64 (sW-1))))++(⟨#[32]⟩:af))++x4).size+1<=9223372036854775807 then((jE.f k Xz sW ahp ahq ahr ahs).bind fun Je=>(if(((((((dh ByteArray.empty sZ qV).extract 0 3)++(⟨#[32]⟩:af))++(dh ByteArray.empty u6 (wrap64 (sW-1))))++(⟨#[32]⟩:af))++x4)++(⟨#[32]⟩:af)).size+Je.size<=9223372036854775807 then(if((((((((dh ByteArray.empty sZ qV).extract 0 3)++(⟨#[32]⟩:af))++(dh ByteArray.empty u6 (wrap64 (sW-1))))++(⟨#[32]⟩:af))++x4)++(⟨#[32]⟩:af))++Je).size+1<=9223372036854775807 then((dR.f k Xz 4).bind fun XA=>(if(((((((((dh ByteArray.empty sZ qV).extract 0 3)++(⟨#[32]⟩:af))++(dh ByteArray.empty u6 (wrap64 (sW-1))))++(⟨#[32]⟩:af))++x4)++(⟨#[32]⟩:af))++Je)++(⟨#[32]⟩:af)).size+XA.size<=9223372036854775807 then(some ((((((((((dh ByteArray.empty sZ qV).extract 0 3)++(⟨#[32]⟩:af))++(dh ByteArray.empty u6 (wrap64 (sW-1))))++(⟨#[32]⟩:af))++x4)++(⟨#[32]⟩:af))++Je)++(⟨#[32]⟩:af))++XA)) else(none))) else(none)) else(none))) else(none)) else(none)) else(none)) else(none)) else(none)) else(none))) else(none)) else(none)) else(none)) else(none)) else(none)))
def ed.f (k:Nat) (a0:Int):Option (ByteArray):=(gW.f a0).bind fun avh=>(if avh=true then((dL.f k a0).bind fun wF=>((dR.f k wF.2.2.1 2).bind fun Dt=>(if wF.2.2.1<10 then(if 1<=(Dt.size:Int) then(if 1+(Dt.extract 1 Dt.size).size<=9223372036854775807 then(ed.j0 k a0 ((⟨#[32]⟩:af)++(Dt.extract 1 Dt.size)) wF.1 wF.2.1 wF.2.2.1 wF.2.2.2.1 wF.2.2.2.2.1 wF.2.2.2.2.2) else(none)) else(none)) else(ed.j0 k a0 Dt wF.1 wF.2.1 wF.2.2.1 wF.2.2.2.1 wF.2.2.2.2.1 wF.2.2.2.2.2)))) else(some (⟨#[]⟩:af)))
def ed.T7 : Bool×List (List Nat×List Nat):=(true,[([],[]),([],[]),([1,0],[1]),([0,2],[0,2]),([3],[3]),([4],[4]),([5],[5]),([2],[]),([],[]),([8],[8]),([9],[9]),([7,10],[7,10]),([11],[11]),([6,12],[6,12]),([13],[13]),([],[]),([14,15],[14,15]),([16],[16]),([],[]),([18,7],[18]),([17,19],[17,19]),([20],[20]),([],[]),([22],[22]),([23,19],[23]),([21,24],[21,24]),([25,24,0,1,2,3,4,5,6,7,8,9,10,11,12,13,14,15,16,17,18,19,20,21,22,23,24,25],[25])])
def ed.B7 : List Nat:=[0,0,3,7,15,31,63,7,0,256,768,1927,3975,8191,16383,0,65535,131071,0,262279,1048575,2097151,0,4194304,13369479,33554431,67108863]
theorem ed.ad8 : nL .any (opsOf Tryz.f138 7)=ed.T7:=by kernel_rfl
theorem ed.Sk : jf ed.T7.2 ed.B7=true:=by kernel_rfl
theorem ed.Ep {P:Program} {md:Region.Mode} {ops:Array Oper} {Q:Exit->Act->World->Prop} {S T:World->Prop}:∀(fuel:Nat) (l:Array Bool) (a:Act) (w:World),S w->T w->bP P md ops Q (fun w=>S w/\T w) [] fuel l a w->bP P md ops Q S [] fuel l a w
 |0,_,_,_,_,_,h=>h
 |fuel+1,_,_,_,hS,hT,h=>⟨h.1,fun i hi=>wpOp_mono (fun a' w' h'=>⟨fun _ _=>(h'.1 List.not_mem_nil ⟨hS,hT⟩).1,Ep fuel _ a' w' (h'.1 List.not_mem_nil ⟨hS,hT⟩).1 (h'.1 List.not_mem_nil ⟨hS,hT⟩).2 h'.2⟩) (h.2 i hi)⟩
theorem ed.calls (k:Nat) (a0:Int) (r:ByteArray) (w:World) (h:ed.f k a0=some r) (HT0:mX w) :
  Calls Tryz.prog 138 #[.int .i64 a0] w fun e w'=>e = .returned (.string r)/\Below w.heap.size w w':=by
 have HT:=aa.mk HT0;clear HT0;have zL:=Tryz.underlying117;have HB:=aa.mk (Below.refl w.heap.size w);have H:=aa.mk h;clear h;unfold ed.f at H;rcases lu H with⟨A2,H⟩|⟨A2,H⟩
 ·obtain⟨⟨Jf,Jg,Lu,Pd,Pe,Pf⟩,A4,H⟩:=nP H;dsimp only at H;obtain⟨Dt,A5,H⟩:=nP H;have HC6:=H;clear H;go_enter Tryz.func138,Tryz.ntmps138;go_upto_if 15 with(first|((with_reducible refine cZ 37 rfl ?_);refine mM 6 rfl Tryz.func37 (gW.calls a0 true _ A2.out) fun nd=>?_)|((with_reducible refine cZ 176 rfl ?_);refine iW 9 rfl Tryz.func176 (dL.calls k a0 Jf Jg Lu Pd Pe Pf _ A4.out) fun w7 hb _=>?_;have kR:=fw hb;clear HB;have HB:=kR;clear kR;(try clear hb))|((with_reducible refine lT 3 rfl ?_);refine jL #[.int .i64 0,.int .i64 0,.int .i64 0,.int .i64 0,.int .i64 0,.int .i64 0] 117 ?_;intro yw hg w8 hbox hb;have kR:=fw hb;have lF:=aa.mk (hbox);have uy:=lJ hg;have OD:=lJ hg;clear HB;have HB:=kR;have iQ:=lF;have az3:=uy;have az4:=OD;clear kR lF uy OD;clear hb hbox hg;have _:=nN iQ)|((with_reducible refine cZ 179 rfl ?_);refine iW 12 rfl Tryz.func179 (dR.calls k Lu 2 Dt _ A5.out (dV HT)) fun w10 hb _=>?_;have kR:=eF (g:=yw) (o:=.cells #[.int .i64 Jf,.int .i64 Jg,.int .i64 Lu,.int .i64 Pd,.int .i64 Pe,.int .i64 Pf] 117 (0,0)) hb;have lF:=fw hb;clear iQ;clear HB;have iQ:=kR;have HB:=lF;clear kR lF;(try clear hb);have _:=nN iQ));(try simp only[Act.put,List.setIfInBounds_toArray,List.set_cons_zero,List.set_cons_succ])
  go_cut [4] (fun v4 wc=>∃(kq:Nat) (XB:ByteArray),v4 = .string XB/\aa (ed.j0 kq a0 XB Jf Jg Lu Pd Pe Pf=some r)/\aa (kq<=k)/\aa (wc.heap[yw]? = some (.cells #[.int .i64 Jf,.int .i64 Jg,.int .i64 Lu,.int .i64 Pd,.int .i64 Pe,.int .i64 Pf] 117 (0,0)))/\aa (Below w.heap.size w wc))
  case first=>
   have H:=HC6;clear HC6;rcases jw H with⟨-,nS,-,H⟩|⟨-,nS,-,H⟩
   ·(first|rw[nS]|(simp only[dU,fK];rw[nS])|skip)
    obtain⟨-,wo,qG,H⟩:=nZ H;obtain⟨c14,Lm,wu,H⟩:=nZ H;try have ab2:=eq_false (Nat.not_lt.2 c14)
    have au0:(9223372036854775807<1+(Dt.size-1))=False:=by have h_:=ab2;simpa only[ByteArray.size_extract,Nat.min_self] using h_
    go_wp2;go_meet
    case rel=>exact⟨_,((⟨#[32]⟩:af)++(Dt.extract 1 Dt.size)),bR,H,⟨tT⟩,⟨oQ⟩,⟨aX⟩⟩
   ·(first|rw[nS]|(simp only[dU,fK];rw[nS])|skip)
    go_wp2;go_meet
    case rel=>exact⟨_,(Dt),bR,H,⟨tT⟩,⟨oQ⟩,⟨aX⟩⟩
  case rest=>
   clear HC6;obtain⟨kq,XB,rfl,HA,HJ5,iQ,HB⟩:=hcut;cases kq with
   |zero=>exact absurd HA.out (by simp[ed.j0])
   |succ kj5=>
    have H:=HA;clear HA;simp only[ed.j0] at H;obtain⟨sZ,UI,H⟩:=nP H;obtain⟨qV,ZN,H⟩:=nP H;obtain⟨-,sP,-,H⟩:=nZ H;obtain⟨-,FP,-,H⟩:=nZ H;obtain⟨-,Eh,yG,H⟩:=nZ H;obtain⟨-,Dl,uu,H⟩:=nZ H;obtain⟨c21,Dm,uw,H⟩:=nZ H;try have ahj:=eq_false (Nat.not_lt.2 c21)
    try have aFJ:(9223372036854775807<min 3 (dh ByteArray.empty sZ qV).size+1)=False:=by have h_:=ahj;simpa only[ByteArray.size_extract,Nat.sub_zero] using h_
    obtain⟨u6,Wj,H⟩:=nP H;obtain⟨Ko,Pg⟩:∃ j_:Int,(wrap64 (Jg-1))=j_:=⟨_,rfl⟩;(first|rw[Pg] at H|simp only[Pg] at H ⊢)
    (try rw[Pg] at UI)
    (try rw[Pg] at ZN)
    (try rw[Pg] at Wj)
    have az5:(IntKind.i64.wrap (Jg-1))=Ko:=(dU _).trans Pg;obtain⟨-,yI,-,H⟩:=nZ H;obtain⟨-,wz,-,H⟩:=nZ H;obtain⟨c26,SB,Ec,H⟩:=nZ H;try have au2:=eq_false (Nat.not_lt.2 c26)
    try(have Jc:=c26;simp only[ByteArray.size_append,si,List.length_cons,List.length_nil,Nat.zero_add,Nat.reduceAdd] at Jc;replace Jc:=eq_false (Nat.not_lt.2 Jc))
    try have azZ:(9223372036854775807<min 3 (dh ByteArray.empty sZ qV).size+1+(dh ByteArray.empty u6 (Ko)).size)=False:=by have h_:=Jc;simpa only[ByteArray.size_extract,Nat.sub_zero] using h_
    obtain⟨YZ,ab3,IW,H⟩:=nZ H;try have ahk:=eq_false (Nat.not_lt.2 YZ)
    try(have BC:=YZ;simp only[ByteArray.size_append,si,List.length_cons,List.length_nil,Nat.zero_add,Nat.reduceAdd] at BC;replace BC:=eq_false (Nat.not_lt.2 BC))
    try have az6:(9223372036854775807<min 3 (dh ByteArray.empty sZ qV).size+1+(dh ByteArray.empty u6 (Ko)).size+1)=False:=by have h_:=BC;simpa only[ByteArray.size_extract,Nat.sub_zero] using h_
    obtain⟨c28,Wl,Ov,H⟩:=nZ H;try have aoH:=eq_false (Nat.not_lt.2 c28)
    try(have BD:=c28;simp only[ByteArray.size_append,si,List.length_cons,List.length_nil,Nat.zero_add,Nat.reduceAdd] at BD;replace BD:=eq_false (Nat.not_lt.2 BD))
    try have az7:(9223372036854775807<min 3 (dh ByteArray.empty sZ qV).size+1+(dh ByteArray.empty u6 (Ko)).size+1+XB.size)=False:=by have h_:=BD;simpa only[ByteArray.size_extract,Nat.sub_zero] using h_
    obtain⟨Sg,IV,IU,H⟩:=nZ H;try have avi:=eq_false (Nat.not_lt.2 Sg)
    try(have Lv:=Sg;simp only[ByteArray.size_append,si,List.length_cons,List.length_nil,Nat.zero_add,Nat.reduceAdd] at Lv;replace Lv:=eq_false (Nat.not_lt.2 Lv))
    try have aFK:(9223372036854775807<min 3 (dh ByteArray.empty sZ qV).size+1+(dh ByteArray.empty u6 (Ko)).size+1+XB.size+1)=False:=by have h_:=Lv;simpa only[ByteArray.size_extract,Nat.sub_zero] using h_
    obtain⟨Je,ZP,H⟩:=nP H;obtain⟨c31,avj,agF,H⟩:=nZ H;try have avk:=eq_false (Nat.not_lt.2 c31)
    try(have Lx:=c31;simp only[ByteArray.size_append,si,List.length_cons,List.length_nil,Nat.zero_add,Nat.reduceAdd] at Lx;replace Lx:=eq_false (Nat.not_lt.2 Lx))
    try have aFL:(9223372036854775807<min 3 (dh ByteArray.empty sZ qV).size+1+(dh ByteArray.empty u6 (Ko)).size+1+XB.size+1+Je.size)=False:=by have h_:=Lx;simpa only[ByteArray.size_extract,Nat.sub_zero] using h_
    obtain⟨c32,WQ,Sn,H⟩:=nZ H;try have aDh:=eq_false (Nat.not_lt.2 c32)
    try(have ab4:=c32;simp only[ByteArray.size_append,si,List.length_cons,List.length_nil,Nat.zero_add,Nat.reduceAdd] at ab4;replace ab4:=eq_false (Nat.not_lt.2 ab4))
    try have aFM:(9223372036854775807<min 3 (dh ByteArray.empty sZ qV).size+1+(dh ByteArray.empty u6 (Ko)).size+1+XB.size+1+Je.size+1)=False:=by have h_:=ab4;simpa only[ByteArray.size_extract,Nat.sub_zero] using h_
    obtain⟨XA,A33,H⟩:=nP H;obtain⟨c34,XC,XD,H⟩:=nZ H;try have aDi:=eq_false (Nat.not_lt.2 c34)
    try(have ab5:=c34;simp only[ByteArray.size_append,si,List.length_cons,List.length_nil,Nat.zero_add,Nat.reduceAdd] at ab5;replace ab5:=eq_false (Nat.not_lt.2 ab5))
    try have aFN:(9223372036854775807<min 3 (dh ByteArray.empty sZ qV).size+1+(dh ByteArray.empty u6 (Ko)).size+1+XB.size+1+Je.size+1+XA.size)=False:=by have h_:=ab5;simpa only[ByteArray.size_extract,Nat.sub_zero] using h_
    obtain rfl:=aI H.out;try go_wp2
    replace iQ:=aa.mk (eu iQ.out);replace HB:=aa.mk (bE HB.out);refine jP (n:=27) (S:=fun w'=>w'.cell? ⟨yw,0,none⟩=some (.int .i64 Jf)/\w'.cell? ⟨yw,1,none⟩=some (.int .i64 Jg)/\w'.cell? ⟨yw,2,none⟩=some (.int .i64 Lu)/\w'.cell? ⟨yw,3,none⟩=some (.int .i64 Pd)/\w'.cell? ⟨yw,4,none⟩=some (.int .i64 Pe)/\w'.cell? ⟨yw,5,none⟩=some (.int .i64 Pf)) (ds:=[]) ⟨(ah iQ.out 0).trans rfl,(ah iQ.out 1).trans rfl,(ah iQ.out 2).trans rfl,(ah iQ.out 3).trans rfl,(ah iQ.out 4).trans rfl,(ah iQ.out 5).trans rfl⟩ (fun hHeld=>?_);refine dw ed.ad8 ed.Sk (fun HT_ HW_=>?_);generalize wc.drew=gG at iQ HB hHeld ⊢;refine bq 1 (some 20) ?_;refine bq 8 (some 27) ?_;refine fB 9 (some 28) (hy:=Or.inl ⟨by rfl,by rintro w' ⟨s0,s1,s2,s3,s4,s5⟩;go_simp;with_reducible rfl⟩) ?_;refine bq 10 (some 29) ?_;refine bq 15 (some 34) ?_;refine fB 18 (some 37) (hy:=Or.inl ⟨by rfl,by rintro w' ⟨s0,s1,s2,s3,s4,s5⟩;go_simp;with_reducible rfl⟩) ?_;refine bq 22 (some 41) ?_;refine fB 23 (some 42) (hy:=Or.inl ⟨by rfl,by rintro w' ⟨s0,s1,s2,s3,s4,s5⟩;go_simp;with_reducible rfl⟩) ?_;refine fG (fun K hK=>?_);refine zrl Tryz.func177 (rT.calls  sZ _ UI.out) ?_;rintro e jH ⟨aDj,rfl,ho0,hb⟩;refine⟨_,rfl,?_⟩;have JY:=aa.mk (Kd.gu ho0 (aN aX));replace iQ:=eF (g:=yw) hb;replace HB:=fw hb;(try clear hb)
    (try clear ho0)
    refine hK.out _ _ ⟨(ah iQ.out 0).trans rfl,(ah iQ.out 1).trans rfl,(ah iQ.out 2).trans rfl,(ah iQ.out 3).trans rfl,(ah iQ.out 4).trans rfl,(ah iQ.out 5).trans rfl⟩ (fun hHeld=>?_);clear hK K;refine bY ?_;refine fG (fun K hK=>?_);refine BZ Tryz.func178 (kz.calls a0 qV _ ZN.out) fun nd=>?_;obtain⟨auh,aui,aki⟩:=Kd.eD JY.out;(first|subst aki|(injection aki with IC Uu IE;have Uv:=IC.symm;have Uw:=IE.symm;clear IC Uu IE;subst Uv;subst Uw))
    have aht:0<=(qV:Int):=ay bM;have ahu:qV<(sZ.length:Int):=ay bM;obtain⟨ara,avl,XE⟩:=Kd.eG (Kd.aH JY.out).2.2 qV aht ahu;cases avl
    replace aht:=eq_true aht;replace ahu:=eq_true ahu;refine hK.out _ _ ⟨(ah iQ.out 0).trans rfl,(ah iQ.out 1).trans rfl,(ah iQ.out 2).trans rfl,(ah iQ.out 3).trans rfl,(ah iQ.out 4).trans rfl,(ah iQ.out 5).trans rfl⟩ (fun hHeld=>?_);refine ed.Ep (T:=fun w'=>w'.cell? (ara.add (qV).toNat)=some (.string (dh ByteArray.empty sZ qV))) _ _ _ _ hHeld XE ?_;have hHeld:=And.intro hHeld XE;clear hK K;refine bY ?_;repeat(first|refine lC ?_ (hy:=Or.inl ⟨by rfl,by rintro w' ⟨⟨s0,s1,s2,s3,s4,s5⟩,s6⟩;go_simp;with_reducible rfl⟩)|refine dA ?_)
    refine fG (fun K hK=>?_);refine jZ Tryz.func171 dK rfl #[] (by rfl) rfl rfl Bd ?_;(with_reducible refine(mH.calls  u6 _ Wj.out).mono ?_);rintro e uo ⟨aDk,rfl,ho0,hb⟩;have Ph:=(hb.cell (World.block_lt_of_cell? _ _ (hHeld.2))).trans (hHeld.2);refine⟨_,rfl,?_⟩;have Kq:=aa.mk (Kd.gu (Kd.rq ho0 (Kd.vI ajO)) (aN aX));replace JY:=aa.mk (Kd.zh ajO (Kd.qo ho0) hb);replace iQ:=eF (g:=yw) hb;replace HB:=fw hb;(try clear hb)
    (try clear ho0)
    obtain⟨auF,auG,aed⟩:=Kd.eD Kq.out;(first|subst aed|(injection aed with IC Uu IE;have Uv:=IC.symm;have Uw:=IE.symm;clear IC Uu IE;subst Uv;subst Uw))
    have ahv:0<=((Ko):Int):=ay bM;have ahw:(Ko)<(u6.length:Int):=ay bM;obtain⟨arb,avm,XF⟩:=Kd.eG (Kd.aH Kq.out).2.2 (Ko) ahv ahw;cases avm
    replace ahv:=eq_true ahv;replace ahw:=eq_true ahw;refine hK.out _ _ ⟨⟨(ah iQ.out 0).trans rfl,(ah iQ.out 1).trans rfl,(ah iQ.out 2).trans rfl,(ah iQ.out 3).trans rfl,(ah iQ.out 4).trans rfl,(ah iQ.out 5).trans rfl⟩,Ph⟩ (fun hHeld=>?_);refine ed.Ep (T:=fun w'=>w'.cell? (arb.add ((Ko)).toNat)=some (.string (dh ByteArray.empty u6 (Ko)))) _ _ _ _ hHeld XF ?_;have hHeld:=And.intro hHeld XF;clear hK K;refine bY ?_;repeat(first|refine lC ?_ (hy:=Or.inl ⟨by rfl,by rintro w' ⟨⟨⟨s0,s1,s2,s3,s4,s5⟩,s6⟩,s7⟩;go_simp;with_reducible rfl⟩)|refine dA ?_)
    refine fG (fun K hK=>?_);refine jZ Tryz.func180 dK rfl #[.agg #[.int .i64 Jf,.int .i64 Jg,.int .i64 Lu,.int .i64 Pd,.int .i64 Pe,.int .i64 Pf]] (by rfl) rfl rfl Bd ?_;with_reducible refine(jE.calls kj5 Jf Jg Lu Pd Pe Pf Je _ ZP.out ?hT).mono ?_
    case hT=>exact dV HT
    rintro e Af ⟨rfl,hb⟩;have Ph:=(hb.cell (World.block_lt_of_cell? _ _ (hHeld.1.2))).trans (hHeld.1.2);have aaC:=(hb.cell (World.block_lt_of_cell? _ _ (hHeld.2))).trans (hHeld.2);refine⟨_,rfl,?_⟩;replace JY:=aa.mk (Kd.bL ajO hb);replace Kq:=aa.mk (Kd.bL (by(with_reducible repeat(first|apply Kd.cK|apply Kd.cz|apply Kd.dB));exact Kq.out) hb);replace iQ:=eF (g:=yw) hb;replace HB:=fw hb;(try clear hb)
    refine hK.out _ _ ⟨⟨⟨(ah iQ.out 0).trans rfl,(ah iQ.out 1).trans rfl,(ah iQ.out 2).trans rfl,(ah iQ.out 3).trans rfl,(ah iQ.out 4).trans rfl,(ah iQ.out 5).trans rfl⟩,Ph⟩,aaC⟩ (fun hHeld=>?_);clear hK K;refine bY ?_;repeat(first|refine dA ?_)
    refine fG (fun K hK=>?_);refine jZ Tryz.func179 dK rfl #[.int .i64 Jf,.int .i64 4] (by rfl) rfl rfl Bd ?_;with_reducible refine(dR.calls kj5 Jf 4 XA _ A33.out ?hT).mono ?_
    case hT=>exact dV HT
    rintro e Af ⟨rfl,hb⟩;have Ph:=(hb.cell (World.block_lt_of_cell? _ _ (hHeld.1.2))).trans (hHeld.1.2);have aaC:=(hb.cell (World.block_lt_of_cell? _ _ (hHeld.2))).trans (hHeld.2);refine⟨_,rfl,?_⟩;replace JY:=aa.mk (Kd.bL ajO hb);replace Kq:=aa.mk (Kd.bL (by(with_reducible repeat(first|apply Kd.cK|apply Kd.cz|apply Kd.dB));exact Kq.out) hb);replace iQ:=eF (g:=yw) hb;replace HB:=fw hb;(try clear hb)
    refine hK.out _ _ ⟨⟨⟨(ah iQ.out 0).trans rfl,(ah iQ.out 1).trans rfl,(ah iQ.out 2).trans rfl,(ah iQ.out 3).trans rfl,(ah iQ.out 4).trans rfl,(ah iQ.out 5).trans rfl⟩,Ph⟩,aaC⟩ (fun hHeld=>?_);clear hK K;refine bY ?_;repeat(first|refine dA ?_)
    refine kI (fP HT_.out dK) ?_;try go_wp2
    go_ret;exact⟨by first|rfl|(simp[dP,dQ] <;> rfl)|(simp only[<- Pg];first|rfl|(simp[dP,dQ] <;> rfl))|(simp[*,dP,dQ] <;> rfl),aX⟩
 ·obtain rfl:=aI H.out;go_enter Tryz.func138,Tryz.ntmps138;go_wp2_with(((with_reducible refine cZ 37 rfl ?_);refine mM 6 rfl Tryz.func37 (gW.calls a0 false _ A2.out) fun nd=>?_));go_ret;exact⟨jv,aX⟩


mutual
def aj.j0 : Nat->ByteArray->Bool->Option (Int×Bool)
 |0,_,_=>none
 |k+1,x0,x17=>if x17=true then(some (0,false)) else((bg.f k x0).bind fun bX=>(if(bX.length:Int)=5 then(if 3<=(x0.size:Int) then((iy.f k (x0.extract 3 x0.size)).bind fun ab6=>((strings_IndexByte.f x0 44).bind fun Jh=>(if Jh>=0 then(if 0<=Jh then(if Jh<=(x0.size:Int) then((iy.f k (x0.extract (Jh:Int).toNat x0.size)).bind fun FZ=>(if 1<(bX.length:Int) then(if 0<(bX.length:Int) then(if 2<(bX.length:Int) then(if 3<(bX.length:Int) then(if 4<(bX.length:Int) then((strings_IndexByte.f x0 45).bind fun XG=>(if XG>=0 then(if(wrap64 ((rd bX 1)+1900))<1970 then(aj.j1 k x0 (wrap64 ((wrap64 ((rd bX 1)+1900))+100)) FZ (rd bX 0) (rd bX 2) (rd bX 3) (rd bX 4)) else(aj.j1 k x0 (wrap64 ((rd bX 1)+1900)) FZ (rd bX 0) (rd bX 2) (rd bX 3) (rd bX 4))) else(aj.j1 k x0 (rd bX 1) FZ (rd bX 0) (rd bX 2) (rd bX 3) (rd bX 4)))) else(none)) else(none)) else(none)) else(none)) else(none))) else(none)) else(none)) else(if 4<(bX.length:Int) then(if 0<(bX.length:Int) then(if 1<(bX.length:Int) then(if 2<(bX.length:Int) then(if 3<(bX.length:Int) then(aj.j1 k x0 (rd bX 4) ab6 (rd bX 0) (rd bX 1) (rd bX 2) (rd bX 3)) else(none)) else(none)) else(none)) else(none)) else(none))))) else(none)) else(some (0,false))))
def aj.j1 : Nat->ByteArray->Int->Int->Int->Int->Int->Int->Option (Int×Bool)
 |0,_,_,_,_,_,_,_=>none
 |k+1,x0,ahx,ahy,ahz,ahA,ahB,ahC=>(gX.f k ahx ahy ahz ahA ahB ahC).bind fun GV=>(if GV.2=true then((gV.f k GV.1).bind fun ahD=>(if ahD.toList=x0.toList then(some (GV.1,true)) else((eP.f k GV.1).bind fun ahE=>(if ahE.toList=x0.toList then(some (GV.1,true)) else((ed.f k GV.1).bind fun ahF=>(if ahF.toList=x0.toList then(some (GV.1,true)) else(some (0,false)))))))) else(some (0,false)))
end
def aj.f (k:Nat) (a0:ByteArray):Option (Int×Bool):=if(a0.size:Int)<6 then(aj.j0 k a0 true) else(aj.j0 k a0 (decide ((a0.size:Int)>40)))
def aj.T11 : Bool×List (List Nat×List Nat):=(true,[([],[]),([0],[0]),([1],[1]),([],[]),([],[]),([4],[4]),([5],[5]),([],[]),([7],[7]),([8],[8]),([],[]),([10],[10]),([11],[11]),([],[]),([13],[13]),([14],[14]),([2,3,6,9,12,15],[2,3,6,9,12,15]),([16,0,1,2,3,4,5,6,7,8,9,10,11,12,13,14,15,16],[16])])
def aj.B11 : List Nat:=[0,1,3,0,0,16,48,0,128,384,0,1024,3072,0,8192,24576,65535,131071]
theorem aj.ahG : nL .any (opsOf Tryz.f91 11)=aj.T11:=by kernel_rfl
theorem aj.aaD : jf aj.T11.2 aj.B11=true:=by kernel_rfl
def aj.T16 : Bool×List (List Nat×List Nat):=(true,[([],[]),([0],[0]),([1],[1]),([],[]),([],[]),([4],[4]),([5],[5]),([],[]),([7],[7]),([8],[8]),([],[]),([10],[10]),([11],[11]),([],[]),([13],[13]),([14],[14]),([2,3,6,9,12,15],[2,3,6,9,12,15]),([16,0,1,2,3,4,5,6,7,8,9,10,11,12,13,14,15,16],[16])])
def aj.B16 : List Nat:=[0,1,3,0,0,16,48,0,128,384,0,1024,3072,0,8192,24576,65535,131071]
theorem aj.avn : nL .any (opsOf Tryz.f91 16)=aj.T16:=by kernel_rfl
theorem aj.arc : jf aj.T16.2 aj.B16=true:=by kernel_rfl
theorem aj.e0 {p:Prop} (h:p:=by
  go_wp2_with(first|((with_reducible refine cZ 132 rfl ?_);refine NL 19 rfl Tryz.func132 (bg.calls oz a0 bX _ A5.out) ?_;rintro e aDl ⟨avo,rfl,ho0,hb⟩;refine⟨_,rfl,?_⟩;have iH:=aa.mk (Kd.gu ho0 (aN aX));replace HB:=fw hb;clear hb;(try clear ho0);obtain⟨aFO,aFP,az8⟩:=Kd.eD iH.out;subst az8)|((with_reducible refine cZ 135 rfl ?_);refine iW 84 rfl Tryz.func135 (gX.calls kj9 zP zQ zR zS zT zU XH false _ A65.out) fun aDm hb HB=>?_;replace dx:=eF (g:=mD) hb;clear hb)|((with_reducible refine cZ 135 rfl ?_);refine iW 84 rfl Tryz.func135 (gX.calls kj9 zP zQ zR zS zT zU XH true _ A65.out) fun aog hb HB=>?_;replace dx:=eF (g:=mD) hb;clear hb)|(go_at_call 136;(with_reducible refine(gV.calls kj9 XH ahD _ A67.out ?hT).mono ?_);(case hT=>exact dV HT);rintro e atG ⟨rfl,hb⟩;replace dx:=eF (g:=mD) hb;replace HB:=fw hb;clear hb)|(go_at_call 137;(with_reducible refine(eP.calls kj9 XH ahE _ A72.out ?hT).mono ?_);(case hT=>exact dV HT);rintro e atH ⟨rfl,hb⟩;replace dx:=eF (g:=mD) hb;replace HB:=fw hb;clear hb)|(go_at_call 138;(with_reducible refine(ed.calls kj9 XH ahF _ A78.out ?hT).mono ?_);(case hT=>exact dV HT);rintro e atI ⟨rfl,hb⟩;replace dx:=eF (g:=mD) hb;replace HB:=fw hb;clear hb))
  go_ret2
  exact⟨jv,aX⟩):p:=h
theorem aj.calls (k:Nat) (a0:ByteArray) (r1:Int) (r2:Bool) (w:World) (h:aj.f k a0=some (r1,r2)) (HT0:mX w) :
  Calls Tryz.prog 91 #[.string a0] w fun e w'=>e = .returned (.tuple #[.int .i64 r1,.bool r2])/\Below w.heap.size w w':=by
 have HT:=aa.mk HT0;clear HT0;have zL:=Tryz.underlying117;have HB:=aa.mk (Below.refl w.heap.size w);have H:=h;clear h;unfold aj.f at H;have qz:=aa.mk H;clear H;go_enter Tryz.func91,Tryz.ntmps91;go_upto_region 1 with(fail);go_cut [17] (fun v17 wc=>∃(kq:Nat) (ahH:Bool),v17 = .bool ahH/\aa (aj.j0 kq a0 ahH=some (r1,r2))/\aa (kq<=k)/\aa (Below w.heap.size w wc))
 case first=>
  have H:=qz.out;clear qz;replace H:=gI H;rcases H with⟨c3,cB,-,H⟩|⟨c3,cB,-,H⟩
  ·have nE:decide (a0.size<6)=true:=bK ae;clear c3;(first|rw[cB]|(simp only[dU,fK];rw[cB])|skip)
   replace H:=aa.mk H;go_wp2;go_meet
   case rel=>exact⟨_,(true),bR,H,⟨tT⟩,⟨aX⟩⟩
  ·have nE:decide (a0.size<6)=false:=bQ ae;clear c3;(first|rw[cB]|(simp only[dU,fK];rw[cB])|skip)
   replace H:=aa.mk H;go_wp2;go_meet
   case rel=>exact⟨_,(decide ((a0.size:Int)>40)),bR,H,⟨tT⟩,⟨aX⟩⟩
 case rest=>
  clear qz;obtain⟨kq,ahH,rfl,HA,tC,HB⟩:=hcut;cases kq with
  |zero=>exact absurd HA.out (by simp[aj.j0])
  |succ oz=>
   have H:=HA.out;clear HA;simp only[aj.j0] at H;replace H:=gB H;rcases H with⟨rfl,H⟩|⟨rfl,H⟩
   ·simp only[Option.some.injEq,Prod.mk.injEq] at H;obtain⟨rfl,rfl⟩:=H;go_wp2;go_ret2;exact⟨jv,aX⟩
   ·replace H:=gD H;obtain⟨bX,A5,H⟩:=H;replace H:=gI H;rcases H with⟨c6,-,-,H⟩|⟨c6,-,-,H⟩
    ·obtain⟨jy,pq⟩:=kT c6;clear c6;replace H:=gN H;obtain⟨-,Ag,nR,H⟩:=H;replace H:=gD H;obtain⟨ab6,A8,H⟩:=H;replace H:=gD H;obtain⟨Jh,A9,H⟩:=H;have ard:=aa.mk H;clear H;go_upto_if 29 with(first|((with_reducible refine cZ 132 rfl ?_);refine NL 19 rfl Tryz.func132 (bg.calls oz a0 bX _ A5.out) ?_;rintro e FM ⟨avo,rfl,ho0,hb⟩;refine⟨_,rfl,?_⟩;have kR:=aa.mk (Kd.gu ho0 (aN aX));have lF:=fw hb;clear HB;have iH:=kR;have HB:=lF;clear kR lF;clear hb;(try clear ho0);obtain⟨atl,atm,apZ⟩:=Kd.eD iH.out;subst apZ)|((with_reducible refine cZ 133 rfl ?_);refine iW 25 rfl Tryz.func133 (iy.calls oz (a0.extract 3 a0.size) ab6 _ A8.out (dV HT)) fun AX hb _=>?_;have kR:=aa.mk (Kd.bL ae6 hb);have lF:=fw hb;clear iH;clear HB;have iH:=kR;have HB:=lF;clear kR lF;clear hb)|((with_reducible refine lT 6 rfl ?_);refine yM #[.int .i64 0,.int .i64 0,.int .i64 0,.int .i64 0,.int .i64 0,.int .i64 0] 117 ?_;intro mD hg w14 hbox hb;have kR:=aa.mk (Kd.bL ae6 hb);have lF:=fw hb;have uy:=aa.mk (hbox);have OD:=lJ hg;have n4_:=lJ hg;clear iH;clear HB;have iH:=kR;have HB:=lF;have dx:=uy;have az9:=OD;have aAa:=n4_;clear kR lF uy OD n4_;clear hb hbox hg)|((with_reducible refine cZ 134 rfl ?_);refine mM 27 rfl Tryz.func134 (strings_IndexByte.calls a0 44 Jh _ A9.out) fun nd=>?_));(try simp only[Act.put,List.setIfInBounds_toArray,List.set_cons_zero,List.set_cons_succ])
     go_cut [] (fun wc=>∃(kq:Nat) (zP:Int) (zQ:Int) (zR:Int) (zS:Int) (zT:Int) (zU:Int),aa (aj.j1 kq a0 zP zQ zR zS zT zU=some (r1,r2))/\aa (kq<=oz)/\aa (wc.heap[mD]? = some (.cells #[.int .i64 zP,.int .i64 zQ,.int .i64 zR,.int .i64 zS,.int .i64 zT,.int .i64 zU] 117 (0,0)))/\aa (Below w.heap.size w wc))
     case first=>
      have H:=ard.out;clear ard;replace H:=gI H;rcases H with⟨-,sQ,-,H⟩|⟨-,sQ,-,H⟩
      ·(first|rw[sQ]|(simp only[dU,fK];rw[sQ])|skip)
       replace H:=gN H;obtain⟨-,Bu,sS,H⟩:=H;replace H:=gN H;obtain⟨-,Az,sP,H⟩:=H;replace H:=gD H;obtain⟨FZ,ZV,H⟩:=H;replace H:=gN H;obtain⟨c19,yG,-,H⟩:=H;have Eh:decide (1<bX.length)=true:=bK ae;clear c19;replace H:=gN H;obtain⟨c20,uu,-,H⟩:=H;have Dl:decide (0<bX.length)=true:=bK ae;clear c20;replace H:=gN H;obtain⟨c21,uw,-,H⟩:=H;have Dm:decide (2<bX.length)=true:=bK ae;clear c21;replace H:=gN H;obtain⟨c22,Lg,-,H⟩:=H;have Sv:decide (3<bX.length)=true:=bK ae;clear c22;replace H:=gN H;obtain⟨c23,Le,-,H⟩:=H;have Sr:decide (4<bX.length)=true:=bK ae;clear c23;replace H:=gD H;obtain⟨XG,A24,H⟩:=H;replace H:=gI H;rcases H with⟨-,wz,-,H⟩|⟨-,wz,-,H⟩
       ·replace H:=gI H;rcases H with⟨-,Ec,-,H⟩|⟨-,Ec,-,H⟩
        ·replace H:=aa.mk H;try go_wp2_with(((with_reducible refine cZ 133 rfl ?_);refine iW 33 rfl Tryz.func133 (iy.calls oz (a0.extract (Jh:Int).toNat a0.size) FZ _ ZV.out (dV HT)) fun gG hb HB=>?_;replace iH:=aa.mk (Kd.bL ae6 hb);replace dx:=eF (g:=mD) hb;clear hb))
         replace iH:=aa.mk (Kd.dB iH.out);replace dx:=aa.mk (eu dx.out);replace HB:=aa.mk (bE HB.out);have Es:0<=(1:Int):=aA;have AA:1<(bX.length:Int):=ay bM;obtain⟨fQ,XI,qa⟩:=Kd.o5 (Kd.aH iH.out).2.2 1 Es AA;cases XI
         (try simp only[show(1:Int).toNat=1 from rfl,Nat.reduceMul,Nat.reduceEqDiff,Go.Addr.add,↓reduceIte] at qa)
         have ahI:(1<bX.length)=True:=eq_true (Int.ofNat_lt.1 AA);(try rw[show((1:Int)).toNat=1 from rfl] at qa)
         replace Es:=eq_true Es;replace AA:=eq_true AA;have Et:0<=(0:Int):=aA;have AB:0<(bX.length:Int):=ay bM;obtain⟨Pj,XJ,qb⟩:=Kd.o5 (Kd.aH iH.out).2.2 0 Et AB;obtain rfl:fQ=Pj:=(by injection XJ);have ahJ:(0<bX.length)=True:=eq_true (Int.ofNat_lt.1 AB);(try rw[show((0:Int)).toNat=0 from rfl] at qb)
         (try rw[Addr.add_zero'] at qb)
         replace Et:=eq_true Et;replace AB:=eq_true AB;have Eu:0<=(2:Int):=aA;have AJ:2<(bX.length:Int):=ay bM;obtain⟨Pk,XK,qc⟩:=Kd.o5 (Kd.aH iH.out).2.2 2 Eu AJ;obtain rfl:fQ=Pk:=(by injection XK);(try simp only[show(2:Int).toNat=2 from rfl,Nat.reduceMul,Nat.reduceEqDiff,Go.Addr.add,↓reduceIte] at qc)
         have ahK:(2<bX.length)=True:=eq_true (Int.ofNat_lt.1 AJ);(try rw[show((2:Int)).toNat=2 from rfl] at qc)
         replace Eu:=eq_true Eu;replace AJ:=eq_true AJ;have Ew:0<=(3:Int):=aA;have AL:3<(bX.length:Int):=ay bM;obtain⟨Pm,XL,qd⟩:=Kd.o5 (Kd.aH iH.out).2.2 3 Ew AL;obtain rfl:fQ=Pm:=(by injection XL);(try simp only[show(3:Int).toNat=3 from rfl,Nat.reduceMul,Nat.reduceEqDiff,Go.Addr.add,↓reduceIte] at qd)
         have ahL:(3<bX.length)=True:=eq_true (Int.ofNat_lt.1 AL);(try rw[show((3:Int)).toNat=3 from rfl] at qd)
         replace Ew:=eq_true Ew;replace AL:=eq_true AL;have Ex:0<=(4:Int):=aA;have AO:4<(bX.length:Int):=ay bM;obtain⟨Pn,XM,qf⟩:=Kd.o5 (Kd.aH iH.out).2.2 4 Ex AO;obtain rfl:fQ=Pn:=(by injection XM);(try simp only[show(4:Int).toNat=4 from rfl,Nat.reduceMul,Nat.reduceEqDiff,Go.Addr.add,↓reduceIte] at qf)
         have ahM:(4<bX.length)=True:=eq_true (Int.ofNat_lt.1 AO);(try rw[show((4:Int)).toNat=4 from rfl] at qf)
         replace Ex:=eq_true Ex;replace AO:=eq_true AO;refine Ce (n:=18) (S:=fun w'=>w'.cell? ⟨fQ.block,fQ.off+1,none⟩=some (.int .i64 (rd bX 1))/\w'.cell? fQ=some (.int .i64 (rd bX 0))/\w'.cell? ⟨fQ.block,fQ.off+2,none⟩=some (.int .i64 (rd bX 2))/\w'.cell? ⟨fQ.block,fQ.off+3,none⟩=some (.int .i64 (rd bX 3))/\w'.cell? ⟨fQ.block,fQ.off+4,none⟩=some (.int .i64 (rd bX 4))) (ds:=[]) #[false,false,false,false,false,false,false,false,false,false,false,false,false,false,false,false,false,false] dK rfl rfl ⟨qa,qb,qc,qd,qf⟩ (fun hHeld=>?_);refine dw aj.ahG aj.aaD (fun HT_ HW_=>?_);generalize gG.drew=jH at iH dx HB qa qb qc qd qf hHeld ⊢;refine bq 0 (some 34) ?_;refine bq 1 (some 35) ?_;refine bq 3 (some 37) ?_;refine bq 4 (some 38) ?_;refine bq 5 (some 39) ?_;refine bq 7 (some 41) ?_;refine bq 8 (some 42) ?_;refine bq 10 (some 44) ?_;refine bq 11 (some 45) ?_;refine bq 13 (some 47) ?_;refine bq 14 (some 48) ?_;refine fB 2 (some 36) (hy:=Or.inl ⟨by rfl,xK⟩) ?_;refine fB 6 (some 40) (hy:=Or.inl ⟨by rfl,xK⟩) ?_;refine fB 9 (some 43) (hy:=Or.inl ⟨by rfl,xK⟩) ?_;refine fB 12 (some 46) (hy:=Or.inl ⟨by rfl,xK⟩) ?_;refine fB 15 (some 49) (hy:=Or.inl ⟨by rfl,xK⟩) ?_;refine bq 16 (some 50) ?_;refine Fh (i:=17) (N:=none) #[true,true,true,true,true,true,true,true,true,true,true,true,true,true,true,true,true,true] rfl rfl (vJ HT_.out dK) aA (fun K hK=>?_);have _:=Dz dx;have _:=ag dx.out 0;have ahN:=DC dx;have aaE:=ag dx.out 1;have ahO:=L8 dx;have aaF:=ag dx.out 2;have ahP:=MV dx;have aaG:=ag dx.out 3;have ahQ:=L9 dx;have aaH:=ag dx.out 4;have aaI:=Gj dx;have UJ:=ag dx.out 5;refine abg (w1:=?_) (by rfl) rfl ?_ ?_;rotate_left
         ·go_simp
          rfl
         have hne_:fQ.block≠mD:=gq1;have cf_:∀(w':World) (o o':Nat) (v:Value),(w'.setCell ⟨mD,o,none⟩ v).cell? ⟨fQ.block,o',none⟩=w'.cell? ⟨fQ.block,o',none⟩:=fun w' o o' v=>cell_far (p:=⟨mD,o,none⟩) (a:=⟨fQ.block,o',none⟩) hne_ v;have cg_:∀(w':World) (o:Nat) (v:Value),(w'.setCell ⟨mD,o,none⟩ v).cell? fQ=w'.cell? fQ:=fun w' o v=>cell_far (p:=⟨mD,o,none⟩) hne_ v;refine hK.out _ _ (by simp only[cf_,cg_];exact hHeld) (fun hHeld=>?_);clear hne_ cf_ cg_;clear hK K;refine kI (fP HT_.out dK) ?_;try go_wp2_with(((with_reducible refine cZ 134 rfl ?_);refine mM 52 rfl Tryz.func134 (strings_IndexByte.calls a0 45 XG _ A24.out) fun nd=>?_;have _:=nN dx))
         go_meet
         case rel=>exact⟨_,(wrap64 ((wrap64 ((rd bX 1)+1900))+100)),(FZ),(rd bX 0),(rd bX 2),(rd bX 3),(rd bX 4),H,⟨Qt⟩,⟨oQ⟩,⟨aX⟩⟩
        ·replace H:=aa.mk H;try go_wp2_with(((with_reducible refine cZ 133 rfl ?_);refine iW 33 rfl Tryz.func133 (iy.calls oz (a0.extract (Jh:Int).toNat a0.size) FZ _ ZV.out (dV HT)) fun gG hb HB=>?_;replace iH:=aa.mk (Kd.bL ae6 hb);replace dx:=eF (g:=mD) hb;clear hb))
         replace iH:=aa.mk (Kd.dB iH.out);replace dx:=aa.mk (eu dx.out);replace HB:=aa.mk (bE HB.out);have Es:0<=(1:Int):=aA;have AA:1<(bX.length:Int):=ay bM;obtain⟨fQ,XI,qa⟩:=Kd.o5 (Kd.aH iH.out).2.2 1 Es AA;cases XI
         (try simp only[show(1:Int).toNat=1 from rfl,Nat.reduceMul,Nat.reduceEqDiff,Go.Addr.add,↓reduceIte] at qa)
         have ahI:(1<bX.length)=True:=eq_true (Int.ofNat_lt.1 AA);(try rw[show((1:Int)).toNat=1 from rfl] at qa)
         replace Es:=eq_true Es;replace AA:=eq_true AA;have Et:0<=(0:Int):=aA;have AB:0<(bX.length:Int):=ay bM;obtain⟨Pj,XJ,qb⟩:=Kd.o5 (Kd.aH iH.out).2.2 0 Et AB;obtain rfl:fQ=Pj:=(by injection XJ);have ahJ:(0<bX.length)=True:=eq_true (Int.ofNat_lt.1 AB);(try rw[show((0:Int)).toNat=0 from rfl] at qb)
         (try rw[Addr.add_zero'] at qb)
         replace Et:=eq_true Et;replace AB:=eq_true AB;have Eu:0<=(2:Int):=aA;have AJ:2<(bX.length:Int):=ay bM;obtain⟨Pk,XK,qc⟩:=Kd.o5 (Kd.aH iH.out).2.2 2 Eu AJ;obtain rfl:fQ=Pk:=(by injection XK);(try simp only[show(2:Int).toNat=2 from rfl,Nat.reduceMul,Nat.reduceEqDiff,Go.Addr.add,↓reduceIte] at qc)
         have ahK:(2<bX.length)=True:=eq_true (Int.ofNat_lt.1 AJ);(try rw[show((2:Int)).toNat=2 from rfl] at qc)
         replace Eu:=eq_true Eu;replace AJ:=eq_true AJ;have Ew:0<=(3:Int):=aA;have AL:3<(bX.length:Int):=ay bM;obtain⟨Pm,XL,qd⟩:=Kd.o5 (Kd.aH iH.out).2.2 3 Ew AL;obtain rfl:fQ=Pm:=(by injection XL);(try simp only[show(3:Int).toNat=3 from rfl,Nat.reduceMul,Nat.reduceEqDiff,Go.Addr.add,↓reduceIte] at qd)
         have ahL:(3<bX.length)=True:=eq_true (Int.ofNat_lt.1 AL);(try rw[show((3:Int)).toNat=3 from rfl] at qd)
         replace Ew:=eq_true Ew;replace AL:=eq_true AL;have Ex:0<=(4:Int):=aA;have AO:4<(bX.length:Int):=ay bM;obtain⟨Pn,XM,qf⟩:=Kd.o5 (Kd.aH iH.out).2.2 4 Ex AO;obtain rfl:fQ=Pn:=(by injection XM);(try simp only[show(4:Int).toNat=4 from rfl,Nat.reduceMul,Nat.reduceEqDiff,Go.Addr.add,↓reduceIte] at qf)
         have ahM:(4<bX.length)=True:=eq_true (Int.ofNat_lt.1 AO);(try rw[show((4:Int)).toNat=4 from rfl] at qf)
         replace Ex:=eq_true Ex;replace AO:=eq_true AO;refine Ce (n:=18) (S:=fun w'=>w'.cell? ⟨fQ.block,fQ.off+1,none⟩=some (.int .i64 (rd bX 1))/\w'.cell? fQ=some (.int .i64 (rd bX 0))/\w'.cell? ⟨fQ.block,fQ.off+2,none⟩=some (.int .i64 (rd bX 2))/\w'.cell? ⟨fQ.block,fQ.off+3,none⟩=some (.int .i64 (rd bX 3))/\w'.cell? ⟨fQ.block,fQ.off+4,none⟩=some (.int .i64 (rd bX 4))) (ds:=[]) #[false,false,false,false,false,false,false,false,false,false,false,false,false,false,false,false,false,false] dK rfl rfl ⟨qa,qb,qc,qd,qf⟩ (fun hHeld=>?_);refine dw aj.ahG aj.aaD (fun HT_ HW_=>?_);generalize gG.drew=jH at iH dx HB qa qb qc qd qf hHeld ⊢;refine bq 0 (some 34) ?_;refine bq 1 (some 35) ?_;refine bq 3 (some 37) ?_;refine bq 4 (some 38) ?_;refine bq 5 (some 39) ?_;refine bq 7 (some 41) ?_;refine bq 8 (some 42) ?_;refine bq 10 (some 44) ?_;refine bq 11 (some 45) ?_;refine bq 13 (some 47) ?_;refine bq 14 (some 48) ?_;refine fB 2 (some 36) (hy:=Or.inl ⟨by rfl,xK⟩) ?_;refine fB 6 (some 40) (hy:=Or.inl ⟨by rfl,xK⟩) ?_;refine fB 9 (some 43) (hy:=Or.inl ⟨by rfl,xK⟩) ?_;refine fB 12 (some 46) (hy:=Or.inl ⟨by rfl,xK⟩) ?_;refine fB 15 (some 49) (hy:=Or.inl ⟨by rfl,xK⟩) ?_;refine bq 16 (some 50) ?_;refine Fh (i:=17) (N:=none) #[true,true,true,true,true,true,true,true,true,true,true,true,true,true,true,true,true,true] rfl rfl (vJ HT_.out dK) aA (fun K hK=>?_);have _:=Dz dx;have _:=ag dx.out 0;have ahN:=DC dx;have aaE:=ag dx.out 1;have ahO:=L8 dx;have aaF:=ag dx.out 2;have ahP:=MV dx;have aaG:=ag dx.out 3;have ahQ:=L9 dx;have aaH:=ag dx.out 4;have aaI:=Gj dx;have UJ:=ag dx.out 5;refine abg (w1:=?_) (by rfl) rfl ?_ ?_;rotate_left
         ·go_simp
          rfl
         have hne_:fQ.block≠mD:=gq1;have cf_:∀(w':World) (o o':Nat) (v:Value),(w'.setCell ⟨mD,o,none⟩ v).cell? ⟨fQ.block,o',none⟩=w'.cell? ⟨fQ.block,o',none⟩:=fun w' o o' v=>cell_far (p:=⟨mD,o,none⟩) (a:=⟨fQ.block,o',none⟩) hne_ v;have cg_:∀(w':World) (o:Nat) (v:Value),(w'.setCell ⟨mD,o,none⟩ v).cell? fQ=w'.cell? fQ:=fun w' o v=>cell_far (p:=⟨mD,o,none⟩) hne_ v;refine hK.out _ _ (by simp only[cf_,cg_];exact hHeld) (fun hHeld=>?_);clear hne_ cf_ cg_;clear hK K;refine kI (fP HT_.out dK) ?_;try go_wp2_with(((with_reducible refine cZ 134 rfl ?_);refine mM 52 rfl Tryz.func134 (strings_IndexByte.calls a0 45 XG _ A24.out) fun nd=>?_;have _:=nN dx))
         go_meet
         case rel=>exact⟨_,(wrap64 ((rd bX 1)+1900)),(FZ),(rd bX 0),(rd bX 2),(rd bX 3),(rd bX 4),H,⟨Qt⟩,⟨oQ⟩,⟨aX⟩⟩
       ·replace H:=aa.mk H;try go_wp2_with(((with_reducible refine cZ 133 rfl ?_);refine iW 33 rfl Tryz.func133 (iy.calls oz (a0.extract (Jh:Int).toNat a0.size) FZ _ ZV.out (dV HT)) fun gG hb HB=>?_;replace iH:=aa.mk (Kd.bL ae6 hb);replace dx:=eF (g:=mD) hb;clear hb))
        replace iH:=aa.mk (Kd.dB iH.out);replace dx:=aa.mk (eu dx.out);replace HB:=aa.mk (bE HB.out);have Es:0<=(1:Int):=aA;have AA:1<(bX.length:Int):=ay bM;obtain⟨fQ,XI,qa⟩:=Kd.o5 (Kd.aH iH.out).2.2 1 Es AA;cases XI
        (try simp only[show(1:Int).toNat=1 from rfl,Nat.reduceMul,Nat.reduceEqDiff,Go.Addr.add,↓reduceIte] at qa)
        have ahI:(1<bX.length)=True:=eq_true (Int.ofNat_lt.1 AA);(try rw[show((1:Int)).toNat=1 from rfl] at qa)
        replace Es:=eq_true Es;replace AA:=eq_true AA;have Et:0<=(0:Int):=aA;have AB:0<(bX.length:Int):=ay bM;obtain⟨Pj,XJ,qb⟩:=Kd.o5 (Kd.aH iH.out).2.2 0 Et AB;obtain rfl:fQ=Pj:=(by injection XJ);have ahJ:(0<bX.length)=True:=eq_true (Int.ofNat_lt.1 AB);(try rw[show((0:Int)).toNat=0 from rfl] at qb)
        (try rw[Addr.add_zero'] at qb)
        replace Et:=eq_true Et;replace AB:=eq_true AB;have Eu:0<=(2:Int):=aA;have AJ:2<(bX.length:Int):=ay bM;obtain⟨Pk,XK,qc⟩:=Kd.o5 (Kd.aH iH.out).2.2 2 Eu AJ;obtain rfl:fQ=Pk:=(by injection XK);(try simp only[show(2:Int).toNat=2 from rfl,Nat.reduceMul,Nat.reduceEqDiff,Go.Addr.add,↓reduceIte] at qc)
        have ahK:(2<bX.length)=True:=eq_true (Int.ofNat_lt.1 AJ);(try rw[show((2:Int)).toNat=2 from rfl] at qc)
        replace Eu:=eq_true Eu;replace AJ:=eq_true AJ;have Ew:0<=(3:Int):=aA;have AL:3<(bX.length:Int):=ay bM;obtain⟨Pm,XL,qd⟩:=Kd.o5 (Kd.aH iH.out).2.2 3 Ew AL;obtain rfl:fQ=Pm:=(by injection XL);(try simp only[show(3:Int).toNat=3 from rfl,Nat.reduceMul,Nat.reduceEqDiff,Go.Addr.add,↓reduceIte] at qd)
        have ahL:(3<bX.length)=True:=eq_true (Int.ofNat_lt.1 AL);(try rw[show((3:Int)).toNat=3 from rfl] at qd)
        replace Ew:=eq_true Ew;replace AL:=eq_true AL;have Ex:0<=(4:Int):=aA;have AO:4<(bX.length:Int):=ay bM;obtain⟨Pn,XM,qf⟩:=Kd.o5 (Kd.aH iH.out).2.2 4 Ex AO;obtain rfl:fQ=Pn:=(by injection XM);(try simp only[show(4:Int).toNat=4 from rfl,Nat.reduceMul,Nat.reduceEqDiff,Go.Addr.add,↓reduceIte] at qf)
        have ahM:(4<bX.length)=True:=eq_true (Int.ofNat_lt.1 AO);(try rw[show((4:Int)).toNat=4 from rfl] at qf)
        replace Ex:=eq_true Ex;replace AO:=eq_true AO;refine Ce (n:=18) (S:=fun w'=>w'.cell? ⟨fQ.block,fQ.off+1,none⟩=some (.int .i64 (rd bX 1))/\w'.cell? fQ=some (.int .i64 (rd bX 0))/\w'.cell? ⟨fQ.block,fQ.off+2,none⟩=some (.int .i64 (rd bX 2))/\w'.cell? ⟨fQ.block,fQ.off+3,none⟩=some (.int .i64 (rd bX 3))/\w'.cell? ⟨fQ.block,fQ.off+4,none⟩=some (.int .i64 (rd bX 4))) (ds:=[]) #[false,false,false,false,false,false,false,false,false,false,false,false,false,false,false,false,false,false] dK rfl rfl ⟨qa,qb,qc,qd,qf⟩ (fun hHeld=>?_);refine dw aj.ahG aj.aaD (fun HT_ HW_=>?_);generalize gG.drew=jH at iH dx HB qa qb qc qd qf hHeld ⊢;refine bq 0 (some 34) ?_;refine bq 1 (some 35) ?_;refine bq 3 (some 37) ?_;refine bq 4 (some 38) ?_;refine bq 5 (some 39) ?_;refine bq 7 (some 41) ?_;refine bq 8 (some 42) ?_;refine bq 10 (some 44) ?_;refine bq 11 (some 45) ?_;refine bq 13 (some 47) ?_;refine bq 14 (some 48) ?_;refine fB 2 (some 36) (hy:=Or.inl ⟨by rfl,xK⟩) ?_;refine fB 6 (some 40) (hy:=Or.inl ⟨by rfl,xK⟩) ?_;refine fB 9 (some 43) (hy:=Or.inl ⟨by rfl,xK⟩) ?_;refine fB 12 (some 46) (hy:=Or.inl ⟨by rfl,xK⟩) ?_;refine fB 15 (some 49) (hy:=Or.inl ⟨by rfl,xK⟩) ?_;refine bq 16 (some 50) ?_;refine Fh (i:=17) (N:=none) #[true,true,true,true,true,true,true,true,true,true,true,true,true,true,true,true,true,true] rfl rfl (vJ HT_.out dK) aA (fun K hK=>?_);have _:=Dz dx;have _:=ag dx.out 0;have ahN:=DC dx;have aaE:=ag dx.out 1;have ahO:=L8 dx;have aaF:=ag dx.out 2;have ahP:=MV dx;have aaG:=ag dx.out 3;have ahQ:=L9 dx;have aaH:=ag dx.out 4;have aaI:=Gj dx;have UJ:=ag dx.out 5;refine abg (w1:=?_) (by rfl) rfl ?_ ?_;rotate_left
        ·go_simp
         rfl
        have hne_:fQ.block≠mD:=gq1;have cf_:∀(w':World) (o o':Nat) (v:Value),(w'.setCell ⟨mD,o,none⟩ v).cell? ⟨fQ.block,o',none⟩=w'.cell? ⟨fQ.block,o',none⟩:=fun w' o o' v=>cell_far (p:=⟨mD,o,none⟩) (a:=⟨fQ.block,o',none⟩) hne_ v;have cg_:∀(w':World) (o:Nat) (v:Value),(w'.setCell ⟨mD,o,none⟩ v).cell? fQ=w'.cell? fQ:=fun w' o v=>cell_far (p:=⟨mD,o,none⟩) hne_ v;refine hK.out _ _ (by simp only[cf_,cg_];exact hHeld) (fun hHeld=>?_);clear hne_ cf_ cg_;clear hK K;refine kI (fP HT_.out dK) ?_;try go_wp2_with(((with_reducible refine cZ 134 rfl ?_);refine mM 52 rfl Tryz.func134 (strings_IndexByte.calls a0 45 XG _ A24.out) fun nd=>?_))
        go_meet
        case rel=>exact⟨_,(rd bX 1),(FZ),(rd bX 0),(rd bX 2),(rd bX 3),(rd bX 4),H,⟨Qt⟩,⟨oQ⟩,⟨aX⟩⟩
      ·(first|rw[sQ]|(simp only[dU,fK];rw[sQ])|skip)
       replace H:=gN H;obtain⟨c53,aoI,-,H⟩:=H;have aoJ:decide (4<bX.length)=true:=bK ae;clear c53;replace H:=gN H;obtain⟨c54,aDn,-,H⟩:=H;have aDo:decide (0<bX.length)=true:=bK ae;clear c54;replace H:=gN H;obtain⟨c55,aDp,-,H⟩:=H;have aDq:decide (1<bX.length)=true:=bK ae;clear c55;replace H:=gN H;obtain⟨c56,La,-,H⟩:=H;have aDr:decide (2<bX.length)=true:=bK ae;clear c56;replace H:=gN H;obtain⟨c57,avp,-,H⟩:=H;have avq:decide (3<bX.length)=true:=bK ae;clear c57;replace H:=aa.mk H;try go_wp2
       have hn0:=aa.mk (Kd.cz iH.out nd);have hn1:=aa.mk (kH dx.out nd);have hn2:=aa.mk (yL HB.out nd);clear iH dx HB;generalize w14.drewN nd=aAb at hn0 hn1 hn2 ⊢;have iH:=hn0;have dx:=hn1;have HB:=hn2;clear hn0 hn1 hn2;replace iH:=aa.mk (Kd.dB iH.out);replace dx:=aa.mk (eu dx.out);replace HB:=aa.mk (bE HB.out);have ahR:0<=(4:Int):=aA;have ab7:4<(bX.length:Int):=ay bM;obtain⟨rC,avr,Ji⟩:=Kd.o5 (Kd.aH iH.out).2.2 4 ahR ab7;cases avr
       (try simp only[show(4:Int).toNat=4 from rfl,Nat.reduceMul,Nat.reduceEqDiff,Go.Addr.add,↓reduceIte] at Ji)
       have aAc:(4<bX.length)=True:=eq_true (Int.ofNat_lt.1 ab7);(try rw[show((4:Int)).toNat=4 from rfl] at Ji)
       replace ahR:=eq_true ahR;replace ab7:=eq_true ab7;have ahS:0<=(0:Int):=aA;have ab8:0<(bX.length:Int):=ay bM;obtain⟨arf,avs,Jj⟩:=Kd.o5 (Kd.aH iH.out).2.2 0 ahS ab8;obtain rfl:rC=arf:=(by injection avs);have aAd:(0<bX.length)=True:=eq_true (Int.ofNat_lt.1 ab8);(try rw[show((0:Int)).toNat=0 from rfl] at Jj)
       (try rw[Addr.add_zero'] at Jj)
       replace ahS:=eq_true ahS;replace ab8:=eq_true ab8;have ahT:0<=(1:Int):=aA;have ab9:1<(bX.length:Int):=ay bM;obtain⟨arh,avt,Jk⟩:=Kd.o5 (Kd.aH iH.out).2.2 1 ahT ab9;obtain rfl:rC=arh:=(by injection avt);(try simp only[show(1:Int).toNat=1 from rfl,Nat.reduceMul,Nat.reduceEqDiff,Go.Addr.add,↓reduceIte] at Jk)
       have aAe:(1<bX.length)=True:=eq_true (Int.ofNat_lt.1 ab9);(try rw[show((1:Int)).toNat=1 from rfl] at Jk)
       replace ahT:=eq_true ahT;replace ab9:=eq_true ab9;have ahU:0<=(2:Int):=aA;have aca:2<(bX.length:Int):=ay bM;obtain⟨ari,avu,Jl⟩:=Kd.o5 (Kd.aH iH.out).2.2 2 ahU aca;obtain rfl:rC=ari:=(by injection avu);(try simp only[show(2:Int).toNat=2 from rfl,Nat.reduceMul,Nat.reduceEqDiff,Go.Addr.add,↓reduceIte] at Jl)
       have aAf:(2<bX.length)=True:=eq_true (Int.ofNat_lt.1 aca);(try rw[show((2:Int)).toNat=2 from rfl] at Jl)
       replace ahU:=eq_true ahU;replace aca:=eq_true aca;have ahV:0<=(3:Int):=aA;have acb:3<(bX.length:Int):=ay bM;obtain⟨arj,avv,Jm⟩:=Kd.o5 (Kd.aH iH.out).2.2 3 ahV acb;obtain rfl:rC=arj:=(by injection avv);(try simp only[show(3:Int).toNat=3 from rfl,Nat.reduceMul,Nat.reduceEqDiff,Go.Addr.add,↓reduceIte] at Jm)
       have aAg:(3<bX.length)=True:=eq_true (Int.ofNat_lt.1 acb);(try rw[show((3:Int)).toNat=3 from rfl] at Jm)
       replace ahV:=eq_true ahV;replace acb:=eq_true acb;refine Ce (n:=18) (S:=fun w'=>w'.cell? ⟨rC.block,rC.off+4,none⟩=some (.int .i64 (rd bX 4))/\w'.cell? rC=some (.int .i64 (rd bX 0))/\w'.cell? ⟨rC.block,rC.off+1,none⟩=some (.int .i64 (rd bX 1))/\w'.cell? ⟨rC.block,rC.off+2,none⟩=some (.int .i64 (rd bX 2))/\w'.cell? ⟨rC.block,rC.off+3,none⟩=some (.int .i64 (rd bX 3))) (ds:=[]) #[false,false,false,false,false,false,false,false,false,false,false,false,false,false,false,false,false,false] dK rfl rfl ⟨Ji,Jj,Jk,Jl,Jm⟩ (fun hHeld=>?_);refine dw aj.avn aj.arc (fun HT_ HW_=>?_);generalize aAb.drew=agx at iH dx HB Ji Jj Jk Jl Jm hHeld ⊢;refine bq 0 (some 65) ?_;refine bq 1 (some 66) ?_;refine bq 3 (some 68) ?_;refine bq 4 (some 69) ?_;refine bq 5 (some 70) ?_;refine bq 7 (some 72) ?_;refine bq 8 (some 73) ?_;refine bq 10 (some 75) ?_;refine bq 11 (some 76) ?_;refine bq 13 (some 78) ?_;refine bq 14 (some 79) ?_;refine fB 2 (some 67) (hy:=Or.inl ⟨by rfl,xK⟩) ?_;refine fB 6 (some 71) (hy:=Or.inl ⟨by rfl,xK⟩) ?_;refine fB 9 (some 74) (hy:=Or.inl ⟨by rfl,xK⟩) ?_;refine fB 12 (some 77) (hy:=Or.inl ⟨by rfl,xK⟩) ?_;refine fB 15 (some 80) (hy:=Or.inl ⟨by rfl,xK⟩) ?_;refine bq 16 (some 81) ?_;refine Fh (i:=17) (N:=none) #[true,true,true,true,true,true,true,true,true,true,true,true,true,true,true,true,true,true] rfl rfl (vJ HT_.out dK) aA (fun K hK=>?_);have _:=Dz dx;have _:=ag dx.out 0;have ahN:=DC dx;have aaE:=ag dx.out 1;have ahO:=L8 dx;have aaF:=ag dx.out 2;have ahP:=MV dx;have aaG:=ag dx.out 3;have ahQ:=L9 dx;have aaH:=ag dx.out 4;have aaI:=Gj dx;have UJ:=ag dx.out 5;refine abg (w1:=?_) (by rfl) rfl ?_ ?_;rotate_left
       ·go_simp
        rfl
       have hne_:rC.block≠mD:=gq1;have cf_:∀(w':World) (o o':Nat) (v:Value),(w'.setCell ⟨mD,o,none⟩ v).cell? ⟨rC.block,o',none⟩=w'.cell? ⟨rC.block,o',none⟩:=fun w' o o' v=>cell_far (p:=⟨mD,o,none⟩) (a:=⟨rC.block,o',none⟩) hne_ v;have cg_:∀(w':World) (o:Nat) (v:Value),(w'.setCell ⟨mD,o,none⟩ v).cell? rC=w'.cell? rC:=fun w' o v=>cell_far (p:=⟨mD,o,none⟩) hne_ v;refine hK.out _ _ (by simp only[cf_,cg_];exact hHeld) (fun hHeld=>?_);clear hne_ cf_ cg_;clear hK K;refine kI (fP HT_.out dK) ?_;try go_wp2
       go_meet
       case rel=>exact⟨_,(rd bX 4),(ab6),(rd bX 0),(rd bX 1),(rd bX 2),(rd bX 3),H,⟨Qt⟩,⟨oQ⟩,⟨aX⟩⟩
     case rest=>
      clear ard;obtain⟨kq,zP,zQ,zR,zS,zT,zU,HA,HJ9,dx,HB⟩:=hcut;cases kq with
      |zero=>exact absurd HA.out (by simp[aj.j1])
      |succ kj9=>
       have H:=HA.out;clear HA;simp only[aj.j1] at H;replace H:=gD H;obtain⟨⟨XH,aDs⟩,A65,H⟩:=H;dsimp only at H;replace H:=gB H;rcases H with⟨rfl,H⟩|⟨rfl,H⟩
       ·replace H:=gD H;obtain⟨ahD,A67,H⟩:=H;replace H:=gI H;rcases H with⟨c68,-,-,H⟩|⟨c68,-,-,H⟩
        ·obtain⟨avw,avx⟩:=kT c68;clear c68;simp only[Option.some.injEq,Prod.mk.injEq] at H;obtain⟨rfl,rfl⟩:=H;have _:=nN dx;exact aj.e0
        ·obtain⟨avw,avx⟩:=kU c68;replace H:=gD H;obtain⟨ahE,A72,H⟩:=H;replace H:=gI H;rcases H with⟨c73,-,-,H⟩|⟨c73,-,-,H⟩
         ·obtain⟨avy,avz⟩:=kT c73;clear c73;simp only[Option.some.injEq,Prod.mk.injEq] at H;obtain⟨rfl,rfl⟩:=H;have _:=nN dx;exact aj.e0
         ·obtain⟨avy,avz⟩:=kU c73;replace H:=gD H;obtain⟨ahF,A78,H⟩:=H;replace H:=gI H;rcases H with⟨c79,-,-,H⟩|⟨c79,-,-,H⟩
          ·obtain⟨avA,avB⟩:=kT c79;clear c79;simp only[Option.some.injEq,Prod.mk.injEq] at H;obtain⟨rfl,rfl⟩:=H;have _:=nN dx;exact aj.e0
          ·obtain⟨avA,avB⟩:=kU c79;simp only[Option.some.injEq,Prod.mk.injEq] at H;obtain⟨rfl,rfl⟩:=H;have _:=nN dx;exact aj.e0
       ·simp only[Option.some.injEq,Prod.mk.injEq] at H;obtain⟨rfl,rfl⟩:=H;have _:=nN dx;exact aj.e0
    ·obtain⟨jy,pq⟩:=kU c6;simp only[Option.some.injEq,Prod.mk.injEq] at H;obtain⟨rfl,rfl⟩:=H;exact aj.e0


def fE.f (k:Nat) (ak:ByteArray) (au:ByteArray):Option (Bool):=(lU.f k ak).bind fun aAh=>(if aAh=true then(if(ak.size:Int)<=40 then(if(au.size:Int)<=190 then((bS.f k au).bind fun aAi=>(if aAi=true then((ek.f k au).bind fun ark=>(some (ark.toList==au.toList))) else(some false))) else(some false)) else(some false)) else(some false))
def fE.T1 : Bool×List (List Nat×List Nat):=(true,[([],[]),([0],[0]),([1],[1]),([2,2],[2]),([3],[3]),([4,3],[3,4]),([5,3],[3,5]),([6,3],[3,6]),([3,7],[3,7]),([8,3],[8]),([9],[9]),([10,9],[9,10]),([11,9],[9,11]),([12,9],[9,12]),([9,13],[9,13]),([14,9],[14]),([15],[15]),([16,15],[15,16]),([17,15,15],[15,17]),([15,18],[15,18]),([19,18],[19]),([20],[20]),([21,20],[20,21]),([22,20,20],[20,22]),([20],[20]),([24,20],[20,24]),([23,25,20],[20,23,25]),([20,26],[20,26]),([27,23,0,1,2,3,4,5,6,7,8,9,10,11,12,13,14,15,16,17,18,19,20,21,22,23,24,25,26,27],[27])])
def fE.B1 : List Nat:=[0,1,3,7,15,31,63,127,255,511,1023,2047,4095,8191,16383,32767,65535,131071,262143,524287,1048575,2097151,4194303,8388607,2097151,18874367,67108863,134217727,268435455]
theorem fE.yo : nL .any (opsOf Tryz.f66 1)=fE.T1:=by kernel_rfl
theorem fE.rP : jf fE.T1.2 fE.B1=true:=by kernel_rfl
theorem fE.e0 {p:Prop} (h:p:=by
  obtain rfl:=aI H.out
  go_enter Tryz.func66,Tryz.ntmps66
  try go_wp2_with(((with_reducible refine lT 1 rfl ?_);refine yM #[.string ak,.string au] 72 ?_;intro XN hg gG hbox hb;have zV:=aa.mk (hbox);have avC:=lJ hg;replace HB:=fw hb;clear hb hbox hg))
  replace zV:=aa.mk (eu zV.out)
  replace HB:=aa.mk (bE HB.out)
  refine jP (n:=29) (S:=fun w'=>w'.cell? ⟨XN,0,none⟩=some (.string ak)/\w'.cell? ⟨XN,1,none⟩=some (.string au)) (ds:=[]) (xc zV) (fun hHeld=>?_);refine dw fE.yo fE.rP (fun HT_ HW_=>?_)
  generalize gG.drew=jH at zV HB hHeld ⊢
  repeat(first|refine lC ?_ (hy:=Or.inl ⟨by rfl,Ze⟩)|refine dA ?_|(refine fG (fun K hK=>?_);refine jZ Tryz.func106 dK rfl #[.string ak] (by rfl) rfl rfl Bd ?_;(with_reducible refine(lU.calls k ak false _ A2.out).mono ?_);rintro e w' ⟨rfl,⟨nd,rfl⟩⟩;refine⟨_,rfl,?_⟩;refine hK.out _ _ (xc zV) (fun hHeld=>?_);clear hK K;refine bY ?_)|(refine fG (fun K hK=>?_);refine jZ Tryz.func106 dK rfl #[.string ak] (by rfl) rfl rfl Bd ?_;(with_reducible refine(lU.calls k ak true _ A2.out).mono ?_);rintro e w' ⟨rfl,⟨nd,rfl⟩⟩;refine⟨_,rfl,?_⟩;refine hK.out _ _ (xc zV) (fun hHeld=>?_);clear hK K;refine bY ?_)|(refine fG (fun K hK=>?_);refine jZ Tryz.func107 dK rfl #[.string au,.func (.func 108) #[] #[]] (by rfl) rfl rfl Bd ?_;(with_reducible refine(bS.calls k au  false _ A6.out).mono ?_);rintro e w' ⟨rfl,⟨nd,rfl⟩⟩;refine⟨_,rfl,?_⟩;refine hK.out _ _ (xc zV) (fun hHeld=>?_);clear hK K;refine bY ?_))
  refine kI (fP HT_.out dK) ?_
  try go_wp2
  go_ret
  exact⟨jv,aX⟩):p:=h
theorem fE.calls (k:Nat) (ak au:ByteArray) (r:Bool) (w:World) (h:fE.f k ak au=some r) :
  Calls Tryz.prog 66 #[.agg #[.string ak,.string au]] w fun e w'=>e = .returned (.bool r)/\Below w.heap.size w w':=by
 have Oh:=Tryz.underlying72;have HB:=aa.mk (Below.refl w.heap.size w);have H:=aa.mk h;clear h;unfold fE.f at H;rcases lu H with⟨A2,H⟩|⟨A2,H⟩
 ·rcases jw H with⟨c4,jr,-,H⟩|⟨c4,jr,-,H⟩
  ·have qy:decide (ak.size<=40)=true:=bK ae;clear c4;rcases jw H with⟨c5,jV,-,H⟩|⟨c5,jV,-,H⟩
   ·have rO:decide (au.size<=190)=true:=bK ae;clear c5;rcases lu H with⟨A6,H⟩|⟨A6,H⟩
    ·obtain⟨ark,A8,H⟩:=nP H;obtain rfl:=aI H.out;go_enter Tryz.func66,Tryz.ntmps66;try go_wp2_with(((with_reducible refine lT 1 rfl ?_);refine yM #[.string ak,.string au] 72 ?_;intro XN hg gG hbox hb;have zV:=aa.mk (hbox);have avC:=lJ hg;replace HB:=fw hb;clear hb hbox hg))
     replace zV:=aa.mk (eu zV.out);replace HB:=aa.mk (bE HB.out);refine jP (n:=29) (S:=fun w'=>w'.cell? ⟨XN,0,none⟩=some (.string ak)/\w'.cell? ⟨XN,1,none⟩=some (.string au)) (ds:=[]) (xc zV) (fun hHeld=>?_);refine dw fE.yo fE.rP (fun HT_ HW_=>?_);generalize gG.drew=jH at zV HB hHeld ⊢;repeat(first|refine lC ?_ (hy:=Or.inl ⟨by rfl,Ze⟩)|refine dA ?_)
     refine fG (fun K hK=>?_);refine BZ Tryz.func106 (lU.calls k ak true _ A2.out) fun nd=>?_;refine hK.out _ _ (xc zV) (fun hHeld=>?_);clear hK K;refine bY ?_;repeat(first|refine lC ?_ (hy:=Or.inl ⟨by rfl,Ze⟩)|refine dA ?_)
     refine fG (fun K hK=>?_);refine BZ Tryz.func107 (bS.calls k au  true _ A6.out) fun nd=>?_;refine hK.out _ _ (xc zV) (fun hHeld=>?_);clear hK K;refine bY ?_;repeat(first|refine lC ?_ (hy:=Or.inl ⟨by rfl,Ze⟩)|refine dA ?_)
     refine bq 24 (some 27) ?_;refine fB 25 (some 28) (hy:=Or.inl ⟨by rfl,Ze⟩) ?_;refine fG (fun K hK=>?_);refine BZ Tryz.func87 (ek.calls k au ark _ A8.out) fun nd=>?_;refine hK.out _ _ (xc zV) (fun hHeld=>?_);clear hK K;refine bY ?_;repeat(first|refine dA ?_)
     refine kI (fP HT_.out dK) ?_;try go_wp2
     go_ret;exact⟨jv,aX⟩
    ·exact fE.e0
   ·have rO:decide (au.size<=190)=false:=bQ ae;clear c5;exact fE.e0
  ·have qy:decide (ak.size<=40)=false:=bQ ae;clear c4;exact fE.e0
 ·exact fE.e0


def eQ.l0 : Nat->List (lq)->Int->Int->Option (Bool)
 |0,_,_,_=>none
 |k+1,x8,x9,x10=>if x10<x9 then(if 0<=x10 then(if x10<(x8.length:Int) then((fE.f k ((aV x8 x10).f0) ((aV x8 x10).f1)).bind fun aAj=>(if aAj=true then(eQ.l0 k x8 x9 (wrap64 (x10+1))) else(some false))) else(none)) else(none)) else(some true)
def eQ.f (k:Nat) (l0:List (lq)):Option (Bool):=if(l0.length:Int)>20 then(some false) else(eQ.l0 k l0 (l0.length:Int) 0)
theorem eQ.calls (k:Nat) (A0:Option Addr) (c0:Nat) (l0:List (lq)) (r:Bool) (w:World) (hr0:Kd.C wQ w A0 l0.length l0) (hc0:l0.length<=c0) (h:eQ.f k l0=some r) :
  Calls Tryz.prog 38 #[.slice A0 l0.length c0] w fun e w'=>e = .returned (.bool r)/\Below w.heap.size w w':=by
 have Oh:=Tryz.underlying72;have wR:=aa.mk hr0;have xw:=aa.mk hc0;clear hr0 hc0;have HB:=aa.mk (Below.refl w.heap.size w);have H:=aa.mk h;clear h;unfold eQ.f at H;rcases jw H with⟨c2,-,-,H⟩|⟨c2,-,-,H⟩
 ·have jc:decide (20<(l0.length:Int))=true:=bK c2;have nD:decide (20<l0.length)=true:=bK ae;clear c2;obtain rfl:=aI H.out;go_enter Tryz.func38,Tryz.ntmps38;go_wp2;go_ret;exact⟨jv,aX⟩
 ·have jc:decide (20<(l0.length:Int))=false:=bQ c2;have nD:decide (20<l0.length)=false:=bQ ae;clear c2;go_enter Tryz.func38,Tryz.ntmps38;go_wp2;go_loopg [10] k (fun kq v10 w'=>∃(wX:Int),v10 = .int .i64 wX/\aa (eQ.l0 kq l0 (l0.length:Int) wX=some r)/\aa (kq<=k)/\aa (Below w.heap.size w w'))
  case atStart=>exact⟨(0),bR,H,⟨Nat.le_refl _⟩,⟨aX⟩⟩
  case round=>
   clear H;try clear c2
   try clear jc
   try clear nD
   obtain⟨wX,rfl,HA,ig,HB⟩:=hrel;cases gk with
   |zero=>exact absurd HA.out (by simp[eQ.l0])
   |succ k1=>
    have H:=HA;clear HA;simp only[eQ.l0] at H;rcases jw H with⟨-,cB,-,H⟩|⟨-,cB,-,H⟩
    ·obtain⟨-,jr,-,H⟩:=nZ H;obtain⟨-,jV,-,H⟩:=nZ H;rcases lu H with⟨A6,H⟩|⟨A6,H⟩
     ·have aaJ:0<=(wX:Int):=ay bM;have aaK:wX<(l0.length:Int):=ay bM;obtain⟨avD,arl,CB,CE⟩:=sK wR.out wX aaJ aaK;cases arl
      replace CB:=(HB.out.cell (World.block_lt_of_cell? w _ CB)).trans CB;replace CE:=(HB.out.cell (World.block_lt_of_cell? w _ CE)).trans CE;replace aaJ:=eq_true aaJ;replace aaK:=eq_true aaK;go_wp2_with(first|((with_reducible refine lT 4 rfl ?_);refine jL #[.string (⟨#[]⟩:af),.string (⟨#[]⟩:af)] 72 ?_;intro ahW hg w8 hbox hb;have Po:=aa.mk (hbox);have avE:=lJ hg;replace HB:=fw hb;clear hb hbox hg;have _:=xc Po;have _:=Cf Po)|((with_reducible refine cZ 66 rfl ?_);refine iW 15 rfl Tryz.func66 (fE.calls k1 ((aV l0 wX).f0) ((aV l0 wX).f1) true _ A6.out) fun w10 hb HB=>?_;replace Po:=eF (g:=ahW) (o:=.cells #[.string ((aV l0 wX).f0),.string ((aV l0 wX).f1)] 72 (0,0)) hb;clear hb));go_roundg k1
      case measure=>have:=ig.out;omega
      case rel=>exact⟨(wrap64 (wX+1)),bR,H,⟨by have:=ig.out;omega⟩,⟨aX⟩⟩
     ·obtain rfl:=aI H.out;have aaJ:0<=(wX:Int):=ay bM;have aaK:wX<(l0.length:Int):=ay bM;obtain⟨avD,arl,CB,CE⟩:=sK wR.out wX aaJ aaK;cases arl
      replace CB:=(HB.out.cell (World.block_lt_of_cell? w _ CB)).trans CB;replace CE:=(HB.out.cell (World.block_lt_of_cell? w _ CE)).trans CE;replace aaJ:=eq_true aaJ;replace aaK:=eq_true aaK;go_wp2_with(first|((with_reducible refine lT 4 rfl ?_);refine jL #[.string (⟨#[]⟩:af),.string (⟨#[]⟩:af)] 72 ?_;intro ahW hg FM hbox hb;have Po:=aa.mk (hbox);have avE:=lJ hg;replace HB:=fw hb;clear hb hbox hg;have _:=xc Po;have _:=Cf Po)|((with_reducible refine cZ 66 rfl ?_);refine iW 15 rfl Tryz.func66 (fE.calls k1 ((aV l0 wX).f0) ((aV l0 wX).f1) false _ A6.out) fun AX hb HB=>?_;replace Po:=eF (g:=ahW) (o:=.cells #[.string ((aV l0 wX).f0),.string ((aV l0 wX).f1)] 72 (0,0)) hb;clear hb));go_ret;exact⟨jv,aX⟩
    ·obtain rfl:=aI H.out;go_wp2;go_ret;exact⟨jv,aX⟩

def gM.l0 : Nat->ByteArray->List ByteArray->List (lq)->Int->Int->Option (List ByteArray)
 |0,_,_,_,_,_=>none
 |k+1,x1,x5,x11,x12,x13=>if x13<x12 then(if 0<=x13 then(if x13<(x11.length:Int) then((om.f ((aV x11 x13).f0) x1).bind fun aAk=>(if aAk=true then(if x5.length<8796093022208 then(gM.l0 k x1 (x5 ++ [(aV x11 x13).f1]) x11 x12 (wrap64 (x13+1))) else(none)) else(gM.l0 k x1 x5 x11 x12 (wrap64 (x13+1))))) else(none)) else(none)) else(some x5)
def gM.f (k:Nat) (l0:List (lq)) (a1:ByteArray):Option (List ByteArray):=(eQ.f k l0).bind fun aAl=>(if aAl=true then(gM.l0 k a1 ([]:List ByteArray) l0 (l0.length:Int) 0) else(some ([]:List ByteArray)))
theorem gM.calls (k:Nat) (A0:Option Addr) (c0:Nat) (l0:List (lq)) (a1:ByteArray) (r:List ByteArray) (w:World) (hr0:Kd.C wQ w A0 l0.length l0) (hc0:l0.length<=c0) (h:gM.f k l0 a1=some r) :
  Calls Tryz.prog 90 #[.slice A0 l0.length c0,.string a1] w fun e w'=>∃ Df:Value,e = .returned (Df)/\Kd.R Kd.string 9 w' w.heap.size (fun _=>True) Df r/\Below w.heap.size w w':=by
 have Oh:=Tryz.underlying72;have wR:=aa.mk hr0;have xw:=aa.mk hc0;clear hr0 hc0;have HB:=aa.mk (Below.refl w.heap.size w);have H:=h;clear h;unfold gM.f at H;replace H:=xE H;rcases H with⟨A3,H⟩|⟨A3,H⟩
 ·replace H:=aa.mk H;go_enter Tryz.func90,Tryz.ntmps90;go_wp2_with(first|((with_reducible refine cZ 38 rfl ?_);refine iW 9 rfl Tryz.func38 (eQ.calls k _ _ l0 true _ Rk xw.out A3.out) fun w5 hb HB=>?_;clear hb));go_loopg [5,13] k (fun kq v5 v13 w'=>∃(bu:List ByteArray) (qW:Int),v13 = .int .i64 qW/\aa (gM.l0 kq a1 bu l0 (l0.length:Int) qW=some r)/\aa (kq<=k)/\aa (Kd.R Kd.string 9 w' w.heap.size (fun _=>True) v5 bu)/\aa (Below w.heap.size w w'))
  case atStart=>exact⟨(([]:List ByteArray)),(0),bR,H,⟨Nat.le_refl _⟩,⟨Hz⟩,⟨aX⟩⟩
  case round=>
   clear H;obtain⟨bu,qW,rfl,HA,ig,ow,HB⟩:=hrel;cases gk with
   |zero=>exact absurd HA.out (by simp[gM.l0])
   |succ k1=>
    have H:=HA.out;clear HA;simp only[gM.l0] at H;replace H:=gI H;rcases H with⟨-,jy,-,H⟩|⟨-,jy,-,H⟩
    ·replace H:=gN H;obtain⟨-,nR,-,H⟩:=H;replace H:=gN H;obtain⟨-,mU,-,H⟩:=H;replace H:=xE H;rcases H with⟨A9,H⟩|⟨A9,H⟩
     ·replace H:=gN H;obtain⟨c11,-,-,H⟩:=H;have Xl:=aa.mk c11;clear c11;obtain⟨avF,XO⟩:∃ y_:List ByteArray,y_=(bu ++ [(aV l0 qW).f1]):=⟨_,rfl⟩;replace H:(gM.l0 k1 a1 avF l0 (l0.length:Int) (wrap64 (qW+1)))=some r:=by first|(rw[XO];with_reducible exact H)|(have kP:=(ax _ _).symm.trans H;rw[XO];with_reducible exact kP)|(have kP:=(ax _ _).symm.trans H;with_reducible exact kP)|with_reducible exact H|(rw[XO];exact H)|exact H
      have avG:=aa.mk XO;clear XO;replace H:=aa.mk H;have aaL:0<=(qW:Int):=ay bM;have aaM:qW<(l0.length:Int):=ay bM;obtain⟨avH,arn,CF,CG⟩:=sK wR.out qW aaL aaM;cases arn
      replace CF:=(HB.out.cell (World.block_lt_of_cell? w _ CF)).trans CF;replace CG:=(HB.out.cell (World.block_lt_of_cell? w _ CG)).trans CG;replace aaL:=eq_true aaL;replace aaM:=eq_true aaM;go_wp2_with(first|((with_reducible refine lT 7 rfl ?_);refine jL #[.string (⟨#[]⟩:af),.string (⟨#[]⟩:af)] 72 ?_;intro acd hg DF hbox hb;have zW:=aa.mk (hbox);have avI:=lJ hg;replace ow:=aa.mk (Kd.bL Mc hb);replace HB:=fw hb;clear hb hbox hg;have _:=xc zW;have _:=Cf zW)|((with_reducible refine cZ 131 rfl ?_);refine iW 20 rfl Tryz.func131 (om.calls ((aV l0 qW).f0) a1 true _ A9.out) fun w14 hb _=>?_;replace ow:=aa.mk (Kd.bL (by(with_reducible repeat(first|apply Kd.cK|apply Kd.cz|apply Kd.dB));exact(Cg (Kd.mJ ow.out zW.out aA) (fun _ h_=>h_.1))) hb);replace zW:=eF (g:=acd) (o:=.cells #[.string ((aV l0 qW).f0),.string ((aV l0 qW).f1)] 72 (0,0)) hb;replace HB:=fw hb;(try clear hb);(try clear hk);have _:=xc zW;have _:=Cf zW)|((with_reducible refine fO (b:=.append) (xs:=#[.tmp 21,.tmp 24]) rfl ?_);at_builtin;refine Kd.kJ Kd.string (w0:=w) w.heap.size rfl (.tmp 21) (.tmp 24) 76 9 (.string ⟨#[]⟩) 16 rfl Tryz.underlying76 Bg rfl aA ae u5 bu ((aV l0 qW).f1) [.string ((aV l0 qW).f1)] (fun _=>True) (fun _=>False) rfl rfl ?aP (fun _ hk=>hk.elim) ?aF ?aO ?aB ?aS ?aL ?_;(case aP=>exact rfl);(case aB=>exact aX);(case aF=>exact(fun _ _=>trivial));(case aO=>exact Mc);(case aS=>exact(aN aX));(case aL=>have:=Xl.out;omega);intro aFQ w16 ho hb hg hat;rw[<- avG.out] at ho;have kR:=aa.mk (Ra (g:=acd) (o:=.cells #[.string ((aV l0 qW).f0),.string ((aV l0 qW).f1)] 72 (0,0)) (by(with_reducible repeat(first|refine kH ?_ _|refine eu ?_|refine lX ?_ _));exact zW.out) hg (Kd.aeM ow.out zW.out aA));have lF:=aa.mk (hb);have uy:=aa.mk (ho);clear zW;clear HB;clear ow;have zW:=kR;have HB:=lF;have aDt:=uy;clear kR lF uy;clear ho hb hg hat));go_roundg k1
      case measure=>have:=ig.out;omega
      case rel=>exact⟨(avF),(wrap64 (qW+1)),bR,H,⟨by have:=ig.out;omega⟩,⟨qE⟩,⟨aX⟩⟩
     ·replace H:=aa.mk H;have aaL:0<=(qW:Int):=ay bM;have aaM:qW<(l0.length:Int):=ay bM;obtain⟨avH,arn,CF,CG⟩:=sK wR.out qW aaL aaM;cases arn
      replace CF:=(HB.out.cell (World.block_lt_of_cell? w _ CF)).trans CF;replace CG:=(HB.out.cell (World.block_lt_of_cell? w _ CG)).trans CG;replace aaL:=eq_true aaL;replace aaM:=eq_true aaM;go_wp2_with(first|((with_reducible refine lT 7 rfl ?_);refine jL #[.string (⟨#[]⟩:af),.string (⟨#[]⟩:af)] 72 ?_;intro acd hg w17 hbox hb;have zW:=aa.mk (hbox);have avI:=lJ hg;replace ow:=aa.mk (Kd.bL Mc hb);replace HB:=fw hb;clear hb hbox hg;have _:=xc zW;have _:=Cf zW)|((with_reducible refine cZ 131 rfl ?_);refine iW 20 rfl Tryz.func131 (om.calls ((aV l0 qW).f0) a1 false _ A9.out) fun w19 hb _=>?_;replace ow:=aa.mk (Kd.bL (by(with_reducible repeat(first|apply Kd.cK|apply Kd.cz|apply Kd.dB));exact(Cg (Kd.mJ ow.out zW.out aA) (fun _ h_=>h_.1))) hb);replace zW:=eF (g:=acd) (o:=.cells #[.string ((aV l0 qW).f0),.string ((aV l0 qW).f1)] 72 (0,0)) hb;replace HB:=fw hb;(try clear hb);(try clear hk)));go_roundg k1
      case measure=>have:=ig.out;omega
      case rel=>exact⟨(bu),(wrap64 (qW+1)),bR,H,⟨by have:=ig.out;omega⟩,⟨qE⟩,⟨aX⟩⟩
    ·obtain rfl:=aI H;go_wp2;go_ret;exact⟨_,jv,qE,aX⟩
 ·obtain rfl:=aI H;go_enter Tryz.func90,Tryz.ntmps90;go_wp2_with(first|((with_reducible refine cZ 38 rfl ?_);refine iW 9 rfl Tryz.func38 (eQ.calls k _ _ l0 false _ Rk xw.out A3.out) fun w20 hb HB=>?_;clear hb));go_ret;exact⟨_,jv,Hz,aX⟩

def jM.f (k:Nat) (l0:List (lq)) (a1:ByteArray):Option (Bool):=(gM.f k l0 a1).bind fun aro=>(some (decide ((aro.length:Int)>0)))
theorem jM.calls (k:Nat) (A0:Option Addr) (c0:Nat) (l0:List (lq)) (a1:ByteArray) (r:Bool) (w:World) (hr0:Kd.C wQ w A0 l0.length l0) (hc0:l0.length<=c0) (h:jM.f k l0 a1=some r) :
  Calls Tryz.prog 51 #[.slice A0 l0.length c0,.string a1] w fun e w'=>e = .returned (.bool r)/\Below w.heap.size w w':=by
 have wR:=aa.mk hr0;have xw:=aa.mk hc0;clear hr0 hc0;have HB:=aa.mk (Below.refl w.heap.size w);have H:=aa.mk h;clear h;unfold jM.f at H;obtain⟨aro,A3,H⟩:=nP H;obtain rfl:=aI H.out;go_enter Tryz.func51,Tryz.ntmps51;go_wp2_with(((with_reducible refine cZ 90 rfl ?_);refine NL 7 rfl Tryz.func90 (gM.calls k _ _ l0 a1 aro _ Rk xw.out A3.out) ?_;rintro e gG ⟨aFR,rfl,ho0,hb⟩;refine⟨_,rfl,?_⟩;have avJ:=aa.mk (Kd.gu ho0 (aN aX));replace HB:=fw hb;clear hb;(try clear ho0);obtain⟨Ao5,co5,eo5⟩:=Kd.eD avJ.out;subst eo5));go_ret;exact⟨jv,aX⟩

def qR.f (ak:ByteArray) (au:ByteArray):Option (ByteArray):=if ak.size+2<=9223372036854775807 then(if(ak++(⟨#[58,32]⟩:af)).size+au.size<=9223372036854775807 then(some ((ak++(⟨#[58,32]⟩:af))++au)) else(none)) else(none)
theorem qR.calls (ak au r:ByteArray) (w:World) (h:qR.f ak au=some r) :
  Calls Tryz.prog 112 #[.agg #[.string ak,.string au]] w fun e w'=>e = .returned (.string r)/\Below w.heap.size w w':=by
 have Oh:=Tryz.underlying72;have HB:=aa.mk (Below.refl w.heap.size w);have H:=aa.mk h;clear h;unfold qR.f at H;rcases jw H with⟨c2,nD,jc,H⟩|⟨c2,-,-,H⟩
 ·try have agP:=eq_false (Nat.not_lt.2 c2)
  obtain⟨c3,nE,cB,H⟩:=nZ H;try have Mv:=eq_false (Nat.not_lt.2 c3)
  try(have aaN:=c3;simp only[ByteArray.size_append,si,List.length_cons,List.length_nil,Nat.zero_add,Nat.reduceAdd] at aaN;replace aaN:=eq_false (Nat.not_lt.2 aaN))
  obtain rfl:=aI H.out;go_enter Tryz.func112,Tryz.ntmps112;go_wp2_with(((with_reducible refine lT 1 rfl ?_);refine Fp #[.string ak,.string au] 72 ?_;clear HB;intro aDu gG aoK aDv HB;have _:=xc aoK;have _:=Cf aoK));go_ret;exact⟨jv,aX⟩
 ·exact absurd H.out (by simp)


def zB.f (k:Nat) (l0:List (lq)) (a1:ByteArray):Option (ByteArray×Bool):=(gM.f k l0 a1).bind fun F3=>(if(F3.length:Int)=0 then(some ((⟨#[]⟩:af),false)) else(if 0<(F3.length:Int) then(some (dh ByteArray.empty F3 0,true)) else(none)))
theorem zB.calls (k:Nat) (A0:Option Addr) (c0:Nat) (l0:List (lq)) (a1 r1:ByteArray) (r2:Bool) (w:World) (hr0:Kd.C wQ w A0 l0.length l0) (hc0:l0.length<=c0) (h:zB.f k l0 a1=some (r1,r2)) :
  Calls Tryz.prog 78 #[.slice A0 l0.length c0,.string a1] w fun e w'=>e = .returned (.tuple #[.string r1,.bool r2])/\Below w.heap.size w w':=by
 have wR:=aa.mk hr0;have xw:=aa.mk hc0;clear hr0 hc0;have HB:=aa.mk (Below.refl w.heap.size w);have H:=aa.mk h;clear h;unfold zB.f at H;obtain⟨F3,A3,H⟩:=nP H;rcases jw H with⟨c4,-,-,H⟩|⟨c4,-,-,H⟩
 ·obtain⟨jr,qy⟩:=kT c4;clear c4;simp only[Option.some.injEq,Prod.mk.injEq] at H;obtain⟨rfl,rfl⟩:=H;go_enter Tryz.func78,Tryz.ntmps78;go_wp2_with(first|((with_reducible refine cZ 90 rfl ?_);refine NL 9 rfl Tryz.func90 (gM.calls k _ _ l0 a1 F3 _ Rk xw.out A3.out) ?_;rintro e w5 ⟨avK,rfl,ho0,hb⟩;refine⟨_,rfl,?_⟩;have UK:=aa.mk (Kd.gu ho0 (aN aX));replace HB:=fw hb;clear hb;(try clear ho0);obtain⟨Ao6,co6,eo6⟩:=Kd.eD UK.out;subst eo6));go_ret2;exact⟨jv,aX⟩
 ·obtain⟨jr,qy⟩:=kU c4;have WU:¬ (F3 = []):=fun h_=>c4 (by rw[h_];rfl);rcases jw H with⟨c7,nR,-,H⟩|⟨c7,-,-,H⟩
  ·have Ag:decide (0<F3.length)=true:=bK ae;clear c7;simp only[Option.some.injEq,Prod.mk.injEq] at H;obtain⟨rfl,rfl⟩:=H;go_enter Tryz.func78,Tryz.ntmps78;go_wp2_with(first|((with_reducible refine cZ 90 rfl ?_);refine NL 9 rfl Tryz.func90 (gM.calls k _ _ l0 a1 F3 _ Rk xw.out A3.out) ?_;rintro e w8 ⟨avK,rfl,ho0,hb⟩;refine⟨_,rfl,?_⟩;have UK:=aa.mk (Kd.gu ho0 (aN aX));replace HB:=fw hb;clear hb;(try clear ho0);obtain⟨Ao9,co9,eo9⟩:=Kd.eD UK.out;subst eo9;have ahX:0<=(0:Int):=ae;have ahY:0<(F3.length:Int):=ay bM;obtain⟨aAm,avL,XP⟩:=Kd.eG (Kd.aH UK.out).2.2 0 ahX ahY;cases avL;have aAn:(0<F3.length)=True:=eq_true ae;(try rw[show((0:Int)).toNat=0 from rfl] at XP);(try rw[Addr.add_zero'] at XP);replace ahX:=eq_true ahX;replace ahY:=eq_true ahY));go_ret2;exact⟨jv,aX⟩
  ·exact absurd H.out (by simp)

-- IMPORT Shelf
def joinL (l:List ByteArray):List UInt8:=Go.Lib.join (l.map fun x=>x.data.toList) [44,32]
theorem arp {w:World} {base:Nat} {v:Value} {xs:List ByteArray} {ok:Nat->Prop} (hR:Kd.R Kd.string 9 w base ok v xs) (h1:xs.length<=140737488355328) (h2:(joinL xs).length<=140737488355328) :
  Calls Tryz.prog 169 #[v,.string ⟨#[44,32]⟩] w fun e w'=>e = .returned (.string ⟨(joinL xs).toArray⟩)/\Below w.heap.size w w':=by
 obtain⟨inner,ho⟩:=Kd.Vm hR
 rcases ho.2 with⟨rfl,h0⟩|⟨g,cap,cur,rfl,hg,hh,hc,hm,hs,ht⟩
 ·obtain rfl:xs = []:=List.length_eq_zero_iff.mp h0
  refine(Tryz.strings_Join_none none 0 ⟨#[44,32]⟩ w).mono ?_
  rintro e w' ⟨rfl,rfl⟩
  exact⟨rfl,Below.refl _ _⟩
 ·refine(Tryz.strings_Join g 0 cap xs ⟨#[44,32]⟩ w ?_ ?_ h1 hc h2).mono ?_
  ·intro j x hj
   have hlt:j<xs.length:=by
    by_cases hq:j<xs.length
    ·exact hq
    ·rw[List.getElem?_eq_none ae] at hj;cases hj
   have hcell:=(Kd.apy ByteArray.empty hR (j:Int) ae ae).1
   have e1:dh ByteArray.empty xs (j:Int)=x:=by
    unfold dh
    simp only[Int.toNat_natCast,List.getD_eq_getElem?_getD,hj,Option.getD_some]
   rw[e1] at hcell
   simpa using hcell
  ·exact vG hh
  ·rintro e w' ⟨rfl,hb⟩
   exact⟨rfl,hb⟩
def u7.f (k:Nat) (l0:List lq) (a1:ByteArray):Option ByteArray:=(gM.f k l0 a1).bind fun vs=>if vs.length<=140737488355328/\(joinL vs).length<=140737488355328 then some ⟨(joinL vs).toArray⟩ else none
theorem u7.calls (k:Nat) (A0:Option Addr) (c0:Nat) (l0:List lq) (a1 r:ByteArray) (w:World) (hr0:Kd.C wQ w A0 l0.length l0) (hc0:l0.length<=c0) (h:u7.f k l0 a1=some r) :
  Calls Tryz.prog 127 #[.slice A0 l0.length c0,.string a1] w fun e w'=>e = .returned (.string r)/\Below w.heap.size w w':=by
 obtain⟨vs,A0_,H⟩:=Option.bind_eq_some_iff.mp h;have wR:=aa.mk hr0;have xw:=aa.mk hc0;have A:=aa.mk A0_;clear A0_ hr0 hc0 h;by_cases hq:vs.length<=140737488355328/\(joinL vs).length<=140737488355328
 case neg=>rw[if_neg hq] at H;cases H
 rw[if_pos hq] at H;obtain rfl:=aI H;have HQ:=aa.mk hq;clear H hq;go_enter Tryz.func127,Tryz.ntmps127;go_wp2_with(first|((with_reducible refine cZ 90 rfl ?_);refine nU (some 7) rfl rfl Tryz.func90 dK rfl #[.slice A0 l0.length c0,.string a1] rfl JX ?_;(with_reducible refine(gM.calls k A0 c0 l0 a1 vs _ ?nG ?nH A.out).mono ?_);(case nG=>exact wR.out);(case nH=>exact xw.out);rintro e w14 ⟨v7,rfl,hR,hb⟩;refine⟨_,rfl,?_⟩;have HR:=aa.mk hR;have HB:=aa.mk hb;clear hR hb)|((with_reducible refine cZ 169 rfl ?_);refine nU (some 8) rfl rfl Tryz.func169 dK rfl #[v7,.string ⟨#[44,32]⟩] rfl JX ?_;(with_reducible refine(arp HR.out HQ.out.1 HQ.out.2).mono ?_);rintro e w15 ⟨rfl,hb⟩;refine⟨_,rfl,?_⟩;have HB2:=aa.mk (wZ HB.out hb);clear hb));go_ret;exact⟨rfl,HB2.out⟩

def oG.f (k:Nat) (l0:List (lq)) (a1:ByteArray):Option (List ByteArray):=(u7.f k l0 a1).bind fun ace=>((fu.f k ace).bind fun ahZ=>(some ahZ))
theorem oG.calls (k:Nat) (A0:Option Addr) (c0:Nat) (l0:List (lq)) (a1:ByteArray) (r:List ByteArray) (w:World) (hr0:Kd.C wQ w A0 l0.length l0) (hc0:l0.length<=c0) (h:oG.f k l0 a1=some r) :
  Calls Tryz.prog 85 #[.slice A0 l0.length c0,.string a1] w fun e w'=>∃ Df:Value,e = .returned (Df)/\Kd.R Kd.string 9 w' w.heap.size (fun _=>True) Df r/\Below w.heap.size w w':=by
 have wR:=aa.mk hr0;have xw:=aa.mk hc0;clear hr0 hc0;have HB:=aa.mk (Below.refl w.heap.size w);have H:=aa.mk h;clear h;unfold oG.f at H;obtain⟨ace,A3,H⟩:=nP H;obtain⟨ahZ,A4,H⟩:=nP H;obtain rfl:=aI H.out;go_enter Tryz.func85,Tryz.ntmps85;go_wp2_with(first|((with_reducible refine cZ 127 rfl ?_);refine iW 7 rfl Tryz.func127 (u7.calls k _ _ l0 a1 ace _ Rk xw.out A3.out) fun w5 hb HB=>?_;clear hb)|((with_reducible refine cZ 126 rfl ?_);refine NL 8 rfl Tryz.func126 (fu.calls k ace ahZ _ A4.out) ?_;rintro e w6 ⟨aDw,rfl,ho0,hb⟩;refine⟨_,rfl,?_⟩;have aAo:=aa.mk (Kd.gu ho0 (aN aX));replace HB:=fw hb;clear hb;(try clear ho0)));go_ret;exact⟨_,jv,qE,aX⟩


def oN.f (a0:Int):Option (Bool):=if a0>=33 then(some (decide (a0<=126))) else(some false)
theorem oN.calls (a0:Int) (r:Bool) (w:World) (h:oN.f a0=some r) :
  Calls Tryz.prog 109 #[.int .u8 a0] w fun e w'=>e = .returned (.bool r)/\bH w w':=by
 have H:=aa.mk h;clear h;unfold oN.f at H;rcases jw H with⟨-,jc,-,H⟩|⟨-,jc,-,H⟩
 ·obtain rfl:=aI H.out;go_enter Tryz.func109,Tryz.ntmps109;go_wp2;go_ret;exact⟨bR,iL⟩
 ·obtain rfl:=aI H.out;go_enter Tryz.func109,Tryz.ntmps109;go_wp2;go_ret;exact⟨bR,iL⟩

def aK.l0 : Nat->ByteArray->Int->Option (Bool)
 |0,_,_=>none
 |k+1,x0,x5=>if x5<(x0.size:Int) then(if 0<=x5 then((oN.f (bt x0 x5)).bind fun aAp=>(if aAp=true then(aK.l0 k x0 (wrap64 (x5+1))) else(some false))) else(none)) else(some true)
def aK.f (k:Nat) (a0:ByteArray)  : Option (Bool):=aK.l0 k a0 0
theorem aK.calls (k:Nat) (a0:ByteArray)  (r:Bool) (w:World) (h:aK.f k a0=some r) :
  Calls Tryz.prog 107 #[.string a0,.func (.func 109) #[] #[]] w fun e w'=>e = .returned (.bool r)/\bH w w':=by
 have H:=aa.mk h;clear h;unfold aK.f at H;go_enter Tryz.func107,Tryz.ntmps107;go_wp2;go_loopg [5] k (fun kq v5 w'=>∃(bu:Int),v5 = .int .i64 bu/\aa (aK.l0 kq a0 bu=some r)/\aa (kq<=k)/\bH w w')
 case atStart=>exact⟨(0),bR,H,⟨Nat.le_refl _⟩,iL⟩
 case round=>
  clear H;obtain⟨bu,rfl,HA,ig,⟨m1,rfl⟩⟩:=hrel;cases gk with
  |zero=>exact absurd HA.out (by simp[aK.l0])
  |succ k1=>
   have H:=HA;clear HA;simp only[aK.l0] at H;rcases jw H with⟨-,cB,-,H⟩|⟨-,cB,-,H⟩
   ·obtain⟨-,jr,-,H⟩:=nZ H;rcases lu H with⟨A6,H⟩|⟨A6,H⟩
    ·have p5:0<=(bu:Int):=ay bM;have q5:bu<(a0.size:Int):=ay bM;have hx5:=bO a0 bu;replace p5:=eq_true p5;replace q5:=eq_true q5;go_wp2_with((go_at_call 109;(with_reducible refine(oN.calls (bt a0 bu) true _ A6.out).mono ?_);rintro e w' ⟨rfl,⟨nd,rfl⟩⟩));go_roundg k1
     case measure=>have:=ig.out;omega
     case rel=>exact⟨(wrap64 (bu+1)),bR,H,⟨by have:=ig.out;omega⟩,iL⟩
    ·obtain rfl:=aI H.out;have p5:0<=(bu:Int):=ay bM;have q5:bu<(a0.size:Int):=ay bM;have hx5:=bO a0 bu;replace p5:=eq_true p5;replace q5:=eq_true q5;go_wp2_with((go_at_call 109;(with_reducible refine(oN.calls (bt a0 bu) false _ A6.out).mono ?_);rintro e w' ⟨rfl,⟨nd,rfl⟩⟩));go_ret;exact⟨bR,iL⟩
   ·obtain rfl:=aI H.out;go_wp2;go_ret;exact⟨bR,iL⟩

def uS.f  : Option (List ByteArray):=some (([(⟨#[99,111,110,116,101,110,116,45,108,101,110,103,116,104]⟩:af),(⟨#[116,114,97,110,115,102,101,114,45,101,110,99,111,100,105,110,103]⟩:af),(⟨#[116,114,97,105,108,101,114]⟩:af)]:List ByteArray))
theorem uS.calls  (r:List ByteArray) (w:World) (h:uS.f  = some r) :
  Calls Tryz.prog 67 #[] w fun e w'=>∃ Df:Value,e = .returned (Df)/\Kd.R Kd.string 9 w' w.heap.size (fun _=>True) Df r/\Below w.heap.size w w':=by
 have HB:=aa.mk (Below.refl w.heap.size w);have H:=h;clear h;unfold uS.f at H;obtain⟨aAq,XQ⟩:∃ y_:List ByteArray,y_=(([(⟨#[99,111,110,116,101,110,116,45,108,101,110,103,116,104]⟩:af),(⟨#[116,114,97,110,115,102,101,114,45,101,110,99,111,100,105,110,103]⟩:af),(⟨#[116,114,97,105,108,101,114]⟩:af)]:List ByteArray)):=⟨_,rfl⟩;replace H:(some aAq)=some r:=by first|(rw[XQ];with_reducible exact H)|(have kP:=(ax _ _).symm.trans H;rw[XQ];with_reducible exact kP)|(have kP:=(ax _ _).symm.trans H;with_reducible exact kP)|with_reducible exact H|(rw[XQ];exact H)|exact H
 have aoL:=aa.mk XQ;clear XQ;obtain rfl:=aI H;go_enter Tryz.func67,Tryz.ntmps67;go_wp2_with(((with_reducible refine lT 1 rfl ?_);refine Kd.Re Kd.string _ 9 ?hg (N:=1) ?hd (xs:=([(⟨#[99,111,110,116,101,110,116,45,108,101,110,103,116,104]⟩:af),(⟨#[116,114,97,110,115,102,101,114,45,101,110,99,111,100,105,110,103]⟩:af),(⟨#[116,114,97,105,108,101,114]⟩:af)]:List ByteArray)) (inner:=[.string (⟨#[99,111,110,116,101,110,116,45,108,101,110,103,116,104]⟩:af),.string (⟨#[116,114,97,110,115,102,101,114,45,101,110,99,111,100,105,110,103]⟩:af),.string (⟨#[116,114,97,105,108,101,114]⟩:af)]) (ok:=fun _=>True) (okp:=fun _=>True) ?hr ?hp (fun _ hk=>hk) trivial (Below.refl _ _) (Nat.le_refl _) (by simp) ?_;(case hd=>rfl);(case hg=>rfl);(case hr=>first|(go_simp;done)|(go_simp;rfl));(case hp=>exact(fI.one (show Kd.M Kd.string _ _ _ (⟨#[99,111,110,116,101,110,116,45,108,101,110,103,116,104]⟩:af) [.string (⟨#[99,111,110,116,101,110,116,45,108,101,110,103,116,104]⟩:af)] from rfl) (fI.one (show Kd.M Kd.string _ _ _ (⟨#[116,114,97,110,115,102,101,114,45,101,110,99,111,100,105,110,103]⟩:af) [.string (⟨#[116,114,97,110,115,102,101,114,45,101,110,99,111,100,105,110,103]⟩:af)] from rfl) (fI.one (show Kd.M Kd.string _ _ _ (⟨#[116,114,97,105,108,101,114]⟩:af) [.string (⟨#[116,114,97,105,108,101,114]⟩:af)] from rfl) (fI.none _ _)))));intro aFS gG ho2 hb hg_ hnew_;clear hg_ hnew_;(first|rw[<- aoL.out] at ho2|(simp only[Int.reduceToNat] at ho2;rw[<- aoL.out] at ho2));have aDx:=aa.mk (Kd.gu ho2 (aN aX));replace HB:=fw hb;clear hb ho2));go_ret;exact⟨_,jv,qE,aX⟩

def qp.f (a0:Int):Option (Bool):=(bG.f a0 200 599).bind fun arq=>(some arq)
theorem qp.calls (a0:Int) (r:Bool) (w:World) (h:qp.f a0=some r) :
  Calls Tryz.prog 70 #[.int .i64 a0] w fun e w'=>e = .returned (.bool r)/\bH w w':=by
 have H:=aa.mk h;clear h;unfold qp.f at H;obtain⟨arq,A2,H⟩:=nP H;obtain rfl:=aI H.out;go_enter Tryz.func70,Tryz.ntmps70;go_wp2_with(((with_reducible refine cZ 65 rfl ?_);refine mM 4 rfl Tryz.func65 (bG.calls a0 200 599 arq _ A2.out) fun nd=>?_));go_ret;exact⟨bR,iL⟩

def qw.f (k:Nat) (a0:ByteArray):Option (Bool):=if(a0.size:Int)<=40 then((bS.f k a0).bind fun ars=>(some ars)) else(some false)
theorem qw.calls (k:Nat) (a0:ByteArray) (r:Bool) (w:World) (h:qw.f k a0=some r) :
  Calls Tryz.prog 71 #[.string a0] w fun e w'=>e = .returned (.bool r)/\bH w w':=by
 have H:=aa.mk h;clear h;unfold qw.f at H;rcases jw H with⟨c2,jc,-,H⟩|⟨c2,jc,-,H⟩
 ·have nD:decide (a0.size<=40)=true:=bK ae;clear c2;obtain⟨ars,A3,H⟩:=nP H;obtain rfl:=aI H.out;go_enter Tryz.func71,Tryz.ntmps71;go_wp2_with((go_at_call 107;(with_reducible refine(bS.calls k a0  ars _ A3.out).mono ?_);rintro e w' ⟨rfl,⟨nd,rfl⟩⟩));go_ret;exact⟨bR,iL⟩
 ·have nD:decide (a0.size<=40)=false:=bQ ae;clear c2;obtain rfl:=aI H.out;go_enter Tryz.func71,Tryz.ntmps71;go_wp2;go_ret;exact⟨bR,iL⟩

def jh.f (a0:Int):Option (Bool):=if a0=204 then(some true) else(some (a0==304))
theorem jh.calls (a0:Int) (r:Bool) (w:World) (h:jh.f a0=some r) :
  Calls Tryz.prog 72 #[.int .i64 a0] w fun e w'=>e = .returned (.bool r)/\bH w w':=by
 have H:=aa.mk h;clear h;unfold jh.f at H;rcases jw H with⟨c2,-,-,H⟩|⟨c2,-,-,H⟩
 ·obtain⟨jc,nD⟩:=kT c2;clear c2;obtain rfl:=aI H.out;go_enter Tryz.func72,Tryz.ntmps72;go_wp2;go_ret;exact⟨bR,iL⟩
 ·obtain⟨jc,nD⟩:=kU c2;obtain rfl:=aI H.out;go_enter Tryz.func72,Tryz.ntmps72;go_wp2;go_ret;exact⟨bR,iL⟩

end Go.Proofs.YtfhllanhldbkkaaGreatDoor.P
