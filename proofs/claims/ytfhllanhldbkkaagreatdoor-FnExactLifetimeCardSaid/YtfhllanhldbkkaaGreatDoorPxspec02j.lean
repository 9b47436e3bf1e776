import Derived.Test.YtfhllanhldbkkaaGreatDoorPxspec01a
namespace Go.Proofs.YtfhllanhldbkkaaGreatDoor.P
set_option maxHeartbeats 8000000
set_option maxRecDepth 100000
open Go.RowKit Go.Proofs.YtfhllanhldbkkaaGreatDoorW.bf Go.Proofs.YtfhllanhldbkkaaGreatDoorW.iK Go.Proofs.YtfhllanhldbkkaaGreatDoorW.kG
attribute [local go_sem] rE rF uF uG pE pF rG rH   -- for this text's walks alone
set_option linter.unusedVariables false
set_option linter.unusedSimpArgs false

def dZ.j0 : Nat->Int->ByteArray->Int->Int->Int->Int->Int->Int->Option (ByteArray)
 |0,_,_,_,_,_,_,_,_=>none
 |k+1,x0,x5,Ya,Yb,aiy,aiz,aiA,aiB=>(ky.f x0).bind fun acQ=>((kN.f acQ).bind fun vB=>(if 0<=3 then(if 3<=(vB.size:Int) then(if(vB.extract 0 3).size+1<=9223372036854775807 then((iq.f Yb).bind fun xW=>(if((vB.extract 0 3)++(⟨#[32]⟩:af)).size+xW.size<=9223372036854775807 then(if(((vB.extract 0 3)++(⟨#[32]⟩:af))++xW).size+1<=9223372036854775807 then(if((((vB.extract 0 3)++(⟨#[32]⟩:af))++xW)++(⟨#[32]⟩:af)).size+x5.size<=9223372036854775807 then(if(((((vB.extract 0 3)++(⟨#[32]⟩:af))++xW)++(⟨#[32]⟩:af))++x5).size+1<=9223372036854775807 then((iw.f k Ya Yb aiy aiz aiA aiB).bind fun Jy=>(if((((((vB.extract 0 3)++(⟨#[32]⟩:af))++xW)++(⟨#[32]⟩:af))++x5)++(⟨#[32]⟩:af)).size+Jy.size<=9223372036854775807 then(if(((((((vB.extract 0 3)++(⟨#[32]⟩:af))++xW)++(⟨#[32]⟩:af))++x5)++(⟨#[32]⟩:af))++Jy).size+1<=9223372036854775807 then((eY.f k Ya 4).bind fun Yc=>(if((((((((vB.extract 0 3)++(⟨#[32]⟩:af))++xW)++(⟨#[32]⟩:af))++x5)++(⟨#[32]⟩:af))++Jy)++(⟨#[32]⟩:af)).size+Yc.size<=9223372036854775807 then(some (((((((((vB.extract 0 3)++(⟨#[32]⟩:af))++xW)++(⟨#[32]⟩:af))++x5)++(⟨#[32]⟩:af))++Jy)++(⟨#[32]⟩:af))++Yc)) else(none))) else(none)) else(none))) else(none)) else(none)) else(none)) else(none))) else(none)) else(none)) else(none)))
def dZ.f (k:Nat) (a0:Int):Option (ByteArray):=(dn.f k a0).bind fun uf=>(if uf.2.2.2.2.2.2=true then((eY.f k uf.2.2.1 2).bind fun acR=>(if uf.2.2.1<10 then((bI.f k uf.2.2.1).bind fun Yd=>(if 1+Yd.size<=9223372036854775807 then(dZ.j0 k a0 ((⟨#[32]⟩:af)++Yd) uf.1 uf.2.1 uf.2.2.1 uf.2.2.2.1 uf.2.2.2.2.1 uf.2.2.2.2.2.1) else(none))) else(dZ.j0 k a0 acR uf.1 uf.2.1 uf.2.2.1 uf.2.2.2.1 uf.2.2.2.2.1 uf.2.2.2.2.2.1))) else(some (⟨#[]⟩:af)))
def dZ.T7 : Bool×List (List Nat×List Nat):=(true,[([],[]),([0],[0]),([1,1],[1]),([2],[2]),([3],[3]),([],[]),([5],[5]),([6,2],[6]),([4,7],[4,7]),([8],[8]),([],[]),([9,10],[9,10]),([11],[11]),([],[]),([13,7],[13]),([12,14],[12,14]),([15],[15]),([],[]),([17],[17]),([18,14],[18]),([16,19],[16,19]),([20,19,0,1,2,3,4,5,6,7,8,9,10,11,12,13,14,15,16,17,18,19,20],[20])])
def dZ.B7 : List Nat:=[0,1,3,7,15,0,32,103,255,511,0,2047,4095,0,8423,32767,65535,0,131072,418023,1048575,2097151]
theorem dZ.ad8 : nL .any (opsOf Tryz.f118 7)=dZ.T7:=by kernel_rfl
theorem dZ.Sk : jf dZ.T7.2 dZ.B7=true:=by kernel_rfl
theorem dZ.calls (k:Nat) (a0:Int) (r:ByteArray) (w:World) (h:dZ.f k a0=some r) :
  Calls Tryz.prog 118 #[.int .i64 a0] w fun e w'=>e = .returned (.string r)/\Below w.heap.size w w':=by
 have zL:=Tryz.underlying117;have HB:=aa.mk (Below.refl w.heap.size w);have H:=h;clear h;unfold dZ.f at H;replace H:=gD H;obtain⟨⟨LG,LH,Jz,PG,PH,PI,aEb⟩,A2,H⟩:=H;dsimp only at H;replace H:=gB H;rcases H with⟨rfl,H⟩|⟨rfl,H⟩
 ·replace H:=gD H;obtain⟨acR,A4,H⟩:=H;have HC5:=aa.mk H;clear H;go_enter Tryz.func118,Tryz.ntmps118;go_upto_if 18 with(first|((with_reducible refine cZ 161 rfl ?_);refine iW 8 rfl Tryz.func161 (dn.calls k a0 LG LH Jz PG PH PI true _ A2.out) fun w6 hb _=>?_;have kR:=fw hb;clear HB;have HB:=kR;clear kR;(try clear hb))|((with_reducible refine lT 3 rfl ?_);refine jL #[.int .i64 0,.int .i64 0,.int .i64 0,.int .i64 0,.int .i64 0,.int .i64 0] 117 ?_;intro yz hg w7 hbox hb;have kR:=fw hb;have lF:=aa.mk (hbox);have uy:=lJ hg;have OD:=lJ hg;clear HB;have HB:=kR;have qX:=lF;have arK:=uy;have arL:=OD;clear kR lF uy OD;clear hb hbox hg;have _:=nN qX)|((with_reducible refine cZ 164 rfl ?_);refine iW 15 rfl Tryz.func164 (eY.calls k Jz 2 acR _ A4.out) fun w9 hb _=>?_;have kR:=eF (g:=yz) (o:=.cells #[.int .i64 LG,.int .i64 LH,.int .i64 Jz,.int .i64 PG,.int .i64 PH,.int .i64 PI] 117 (0,0)) hb;have lF:=fw hb;clear qX;clear HB;have qX:=kR;have HB:=lF;clear kR lF;(try clear hb);have _:=nN qX));(try simp only[Act.put,List.setIfInBounds_toArray,List.set_cons_zero,List.set_cons_succ])
  go_cut [5] (fun v5 wc=>∃(kq:Nat) (Ye:ByteArray),v5 = .string Ye/\aa (dZ.j0 kq a0 Ye LG LH Jz PG PH PI=some r)/\aa (kq<=k)/\aa (wc.heap[yz]? = some (.cells #[.int .i64 LG,.int .i64 LH,.int .i64 Jz,.int .i64 PG,.int .i64 PH,.int .i64 PI] 117 (0,0)))/\aa (Below w.heap.size w wc))
  case first=>
   have H:=HC5.out;clear HC5;replace H:=gI H;rcases H with⟨-,oV,-,H⟩|⟨-,oV,-,H⟩
   ·(first|rw[oV]|(simp only[dU,fK];rw[oV])|skip)
    replace H:=gD H;obtain⟨Yd,JR,H⟩:=H;replace H:=gN H;obtain⟨c13,wo,qG,H⟩:=H;try have ab1:=eq_false (Nat.not_lt.2 c13)
    replace H:=aa.mk H;have _:=nN qX;go_wp2_with(((with_reducible refine cZ 102 rfl ?_);refine iW 21 rfl Tryz.func102 (bI.calls k Jz Yd _ JR.out) fun gG hb HB=>?_;replace qX:=eF (g:=yz) hb;clear hb));go_meet
    case rel=>exact⟨_,((⟨#[32]⟩:af)++Yd),bR,H,⟨tT⟩,⟨oQ⟩,⟨aX⟩⟩
   ·(first|rw[oV]|(simp only[dU,fK];rw[oV])|skip)
    replace H:=aa.mk H;go_wp2;go_meet
    case rel=>exact⟨_,(acR),bR,H,⟨tT⟩,⟨oQ⟩,⟨aX⟩⟩
  case rest=>
   clear HC5;obtain⟨kq,Ye,rfl,HA,HJ4,qX,HB⟩:=hcut;cases kq with
   |zero=>exact absurd HA.out (by simp[dZ.j0])
   |succ kj4=>
    have H:=HA.out;clear HA;simp only[dZ.j0] at H;replace H:=gD H;obtain⟨acQ,ZN,H⟩:=H;replace H:=gD H;obtain⟨vB,WV,H⟩:=H;replace H:=gN H;obtain⟨-,acE,FP,H⟩:=H;replace H:=gN H;obtain⟨-,Eh,yG,H⟩:=H;replace H:=gN H;obtain⟨c20,Dl,uu,H⟩:=H;try have Xt:=eq_false (Nat.not_lt.2 c20)
    try have au1:(9223372036854775807<min 3 vB.size+1)=False:=by have h_:=Xt;simpa only[ByteArray.size_extract,Nat.sub_zero] using h_
    replace H:=gD H;obtain⟨xW,A21,H⟩:=H;replace H:=gN H;obtain⟨c22,Sv,Lg,H⟩:=H;try have aoD:=eq_false (Nat.not_lt.2 c22)
    try(have Bz:=c22;simp only[ByteArray.size_append,si,List.length_cons,List.length_nil,Nat.zero_add,Nat.reduceAdd] at Bz;replace Bz:=eq_false (Nat.not_lt.2 Bz))
    try have azW:(9223372036854775807<min 3 vB.size+1+xW.size)=False:=by have h_:=Bz;simpa only[ByteArray.size_extract,Nat.sub_zero] using h_
    replace H:=gN H;obtain⟨c23,Sr,Le,H⟩:=H;try have aoE:=eq_false (Nat.not_lt.2 c23)
    try(have BA:=c23;simp only[ByteArray.size_append,si,List.length_cons,List.length_nil,Nat.zero_add,Nat.reduceAdd] at BA;replace BA:=eq_false (Nat.not_lt.2 BA))
    try have azX:(9223372036854775807<min 3 vB.size+1+xW.size+1)=False:=by have h_:=BA;simpa only[ByteArray.size_extract,Nat.sub_zero] using h_
    replace H:=gN H;obtain⟨c24,IX,yI,H⟩:=H;try have aoG:=eq_false (Nat.not_lt.2 c24)
    try(have Dr:=c24;simp only[ByteArray.size_append,si,List.length_cons,List.length_nil,Nat.zero_add,Nat.reduceAdd] at Dr;replace Dr:=eq_false (Nat.not_lt.2 Dr))
    try have aF6:(9223372036854775807<min 3 vB.size+1+xW.size+1+Ye.size)=False:=by have h_:=Dr;simpa only[ByteArray.size_extract,Nat.sub_zero] using h_
    replace H:=gN H;obtain⟨SA,O7,wz,H⟩:=H;try have ahe:=eq_false (Nat.not_lt.2 SA)
    try(have BB:=SA;simp only[ByteArray.size_append,si,List.length_cons,List.length_nil,Nat.zero_add,Nat.reduceAdd] at BB;replace BB:=eq_false (Nat.not_lt.2 BB))
    try have azY:(9223372036854775807<min 3 vB.size+1+xW.size+1+Ye.size+1)=False:=by have h_:=BB;simpa only[ByteArray.size_extract,Nat.sub_zero] using h_
    replace H:=gD H;obtain⟨Jy,A26,H⟩:=H;replace H:=gN H;obtain⟨YZ,ab3,IW,H⟩:=H;try have ahk:=eq_false (Nat.not_lt.2 YZ)
    try(have BC:=YZ;simp only[ByteArray.size_append,si,List.length_cons,List.length_nil,Nat.zero_add,Nat.reduceAdd] at BC;replace BC:=eq_false (Nat.not_lt.2 BC))
    try have az6:(9223372036854775807<min 3 vB.size+1+xW.size+1+Ye.size+1+Jy.size)=False:=by have h_:=BC;simpa only[ByteArray.size_extract,Nat.sub_zero] using h_
    replace H:=gN H;obtain⟨c28,Wl,Ov,H⟩:=H;try have aoH:=eq_false (Nat.not_lt.2 c28)
    try(have BD:=c28;simp only[ByteArray.size_append,si,List.length_cons,List.length_nil,Nat.zero_add,Nat.reduceAdd] at BD;replace BD:=eq_false (Nat.not_lt.2 BD))
    try have az7:(9223372036854775807<min 3 vB.size+1+xW.size+1+Ye.size+1+Jy.size+1)=False:=by have h_:=BD;simpa only[ByteArray.size_extract,Nat.sub_zero] using h_
    replace H:=gD H;obtain⟨Yc,A29,H⟩:=H;replace H:=gN H;obtain⟨QT,Lh,IY,H⟩:=H;try have awh:=eq_false (Nat.not_lt.2 QT)
    try(have LJ:=QT;simp only[ByteArray.size_append,si,List.length_cons,List.length_nil,Nat.zero_add,Nat.reduceAdd] at LJ;replace LJ:=eq_false (Nat.not_lt.2 LJ))
    try have aF7:(9223372036854775807<min 3 vB.size+1+xW.size+1+Ye.size+1+Jy.size+1+Yc.size)=False:=by have h_:=LJ;simpa only[ByteArray.size_extract,Nat.sub_zero] using h_
    obtain rfl:=aI H;try go_wp2
    replace qX:=aa.mk (eu qX.out);replace HB:=aa.mk (bE HB.out);refine jP (n:=22) (S:=fun w'=>w'.cell? ⟨yz,0,none⟩=some (.int .i64 LG)/\w'.cell? ⟨yz,1,none⟩=some (.int .i64 LH)/\w'.cell? ⟨yz,2,none⟩=some (.int .i64 Jz)/\w'.cell? ⟨yz,3,none⟩=some (.int .i64 PG)/\w'.cell? ⟨yz,4,none⟩=some (.int .i64 PH)/\w'.cell? ⟨yz,5,none⟩=some (.int .i64 PI)) (ds:=[]) (pI qX) (fun hHeld=>?_);refine dw dZ.ad8 dZ.Sk (fun HT_ HW_=>?_);generalize wc.drew=jH at qX HB hHeld ⊢;repeat(first|refine dA ?_)
    refine bq 5 (some 28) ?_;refine fB 6 (some 29) (hy:=Or.inl ⟨by rfl,TE⟩) ?_;refine bq 10 (some 33) ?_;refine fB 13 (some 36) (hy:=Or.inl ⟨by rfl,TE⟩) ?_;refine bq 17 (some 40) ?_;refine fB 18 (some 41) (hy:=Or.inl ⟨by rfl,TE⟩) ?_;refine fG (fun K hK=>?_);refine BZ Tryz.func163 (ky.calls a0 acQ _ ZN.out) fun nd=>?_;refine hK.out _ _ (pI qX) (fun hHeld=>?_);clear hK K;refine bY ?_;refine fG (fun K hK=>?_);refine BZ Tryz.func162 (kN.calls acQ vB _ WV.out) fun nd=>?_;refine hK.out _ _ (pI qX) (fun hHeld=>?_);clear hK K;refine bY ?_;repeat(first|refine dA ?_)
    refine fG (fun K hK=>?_);refine BZ Tryz.func160 (iq.calls LH xW _ A21.out) fun nd=>?_;refine hK.out _ _ (pI qX) (fun hHeld=>?_);clear hK K;refine bY ?_;repeat(first|refine dA ?_)
    refine fG (fun K hK=>?_);refine EY Tryz.func165 (iw.calls kj4 LG LH Jz PG PH PI Jy _ A26.out) fun mP hb=>?_;replace qX:=eF (g:=yz) hb;replace HB:=fw hb;(try clear hb)
    refine hK.out _ _ (pI qX) (fun hHeld=>?_);clear hK K;refine bY ?_;repeat(first|refine dA ?_)
    refine fG (fun K hK=>?_);refine EY Tryz.func164 (eY.calls kj4 LG 4 Yc _ A29.out) fun mP hb=>?_;replace qX:=eF (g:=yz) hb;replace HB:=fw hb;(try clear hb)
    refine hK.out _ _ (pI qX) (fun hHeld=>?_);clear hK K;refine bY ?_;repeat(first|refine dA ?_)
    refine kI (fP HT_.out dK) ?_;try go_wp2
    go_ret;exact⟨jv,aX⟩
 ·obtain rfl:=aI H;go_enter Tryz.func118,Tryz.ntmps118;go_wp2_with(first|((with_reducible refine cZ 161 rfl ?_);refine iW 8 rfl Tryz.func161 (dn.calls k a0 LG LH Jz PG PH PI false _ A2.out) fun wS hb HB=>?_;clear hb)|((with_reducible refine lT 3 rfl ?_);refine jL #[.int .i64 0,.int .i64 0,.int .i64 0,.int .i64 0,.int .i64 0,.int .i64 0] 117 ?_;intro yz hg uo hbox hb;have qX:=aa.mk (hbox);have arK:=lJ hg;have arL:=lJ hg;replace HB:=fw hb;clear hb hbox hg;have _:=nN qX));go_ret;exact⟨jv,aX⟩


def eO.j0 : Nat->Int->Bool->Int->Int->Int->Int->Int->Int->Option (ByteArray)
 |0,_,_,_,_,_,_,_,_=>none
 |k+1,x0,x16,Yf,Yg,Yh,aiC,aiD,aiE=>if x16=true then(some (⟨#[]⟩:af)) else((ky.f x0).bind fun acS=>((kN.f acS).bind fun Dv=>(if Dv.size+2<=9223372036854775807 then((eY.f k Yh 2).bind fun EJ=>(if(Dv++(⟨#[44,32]⟩:af)).size+EJ.size<=9223372036854775807 then(if((Dv++(⟨#[44,32]⟩:af))++EJ).size+1<=9223372036854775807 then((iq.f Yg).bind fun JA=>(if(((Dv++(⟨#[44,32]⟩:af))++EJ)++(⟨#[45]⟩:af)).size+JA.size<=9223372036854775807 then(if((((Dv++(⟨#[44,32]⟩:af))++EJ)++(⟨#[45]⟩:af))++JA).size+1<=9223372036854775807 then((eY.f k (Int.tmod Yf 100) 2).bind fun PK=>(if(((((Dv++(⟨#[44,32]⟩:af))++EJ)++(⟨#[45]⟩:af))++JA)++(⟨#[45]⟩:af)).size+PK.size<=9223372036854775807 then(if((((((Dv++(⟨#[44,32]⟩:af))++EJ)++(⟨#[45]⟩:af))++JA)++(⟨#[45]⟩:af))++PK).size+1<=9223372036854775807 then((iw.f k Yf Yg Yh aiC aiD aiE).bind fun Yi=>(if(((((((Dv++(⟨#[44,32]⟩:af))++EJ)++(⟨#[45]⟩:af))++JA)++(⟨#[45]⟩:af))++PK)++(⟨#[32]⟩:af)).size+Yi.size<=9223372036854775807 then(if((((((((Dv++(⟨#[44,32]⟩:af))++EJ)++(⟨#[45]⟩:af))++JA)++(⟨#[45]⟩:af))++PK)++(⟨#[32]⟩:af))++Yi).size+4<=9223372036854775807 then(some (((((((((Dv++(⟨#[44,32]⟩:af))++EJ)++(⟨#[45]⟩:af))++JA)++(⟨#[45]⟩:af))++PK)++(⟨#[32]⟩:af))++Yi)++(⟨#[32,71,77,84]⟩:af))) else(none)) else(none))) else(none)) else(none))) else(none)) else(none))) else(none)) else(none))) else(none))))
def eO.f (k:Nat) (a0:Int):Option (ByteArray):=(dn.f k a0).bind fun wJ=>(if wJ.2.2.2.2.2.2=true then(eO.j0 k a0 (decide (wJ.1>2069)) wJ.1 wJ.2.1 wJ.2.2.1 wJ.2.2.2.1 wJ.2.2.2.2.1 wJ.2.2.2.2.2.1) else(eO.j0 k a0 true wJ.1 wJ.2.1 wJ.2.2.1 wJ.2.2.2.1 wJ.2.2.2.2.1 wJ.2.2.2.2.2.1))
def eO.T4 : Bool×List (List Nat×List Nat):=(true,[([],[]),([0],[0]),([1,1],[1]),([2],[2]),([],[]),([4],[4]),([5,2],[5]),([3,6],[3,6]),([7],[7]),([],[]),([9],[9]),([10,6],[10]),([8,11],[8,11]),([12],[12]),([],[]),([14],[14]),([15],[15]),([16,11],[16]),([13,17],[13,17]),([18],[18]),([],[]),([20,17],[20]),([19,21],[19,21]),([22],[22]),([23,21,0,1,2,3,4,5,6,7,8,9,10,11,12,13,14,15,16,17,18,19,20,21,22,23],[23])])
def eO.B4 : List Nat:=[0,1,3,7,0,16,55,127,255,0,512,1655,4095,8191,0,16384,49152,118391,262143,524287,0,1298039,4194303,8388607,16777215]
theorem eO.aaz : nL .any (opsOf Tryz.f119 4)=eO.T4:=by kernel_rfl
theorem eO.O6 : jf eO.T4.2 eO.B4=true:=by kernel_rfl
theorem eO.calls (k:Nat) (a0:Int) (r:ByteArray) (w:World) (h:eO.f k a0=some r) :
  Calls Tryz.prog 119 #[.int .i64 a0] w fun e w'=>e = .returned (.string r)/\Below w.heap.size w w':=by
 have zL:=Tryz.underlying117;have HB:=aa.mk (Below.refl w.heap.size w);have H:=h;clear h;unfold eO.f at H;replace H:=gD H;obtain⟨⟨PL,SN,SQ,Yj,Yk,Yl,awi⟩,A2,H⟩:=H;dsimp only at H;have ZT:=aa.mk H;clear H;go_enter Tryz.func119,Tryz.ntmps119;go_upto_region 2 with(first|((with_reducible refine cZ 161 rfl ?_);refine iW 7 rfl Tryz.func161 (dn.calls k a0 PL SN SQ Yj Yk Yl awi _ A2.out) fun w4 hb HB=>?_;clear hb)|((with_reducible refine lT 3 rfl ?_);refine Fp #[.int .i64 0,.int .i64 0,.int .i64 0,.int .i64 0,.int .i64 0,.int .i64 0] 117 ?_;clear HB;intro Bb w5 ug aAR HB;have _:=nN ug));(try simp only[Act.put,List.setIfInBounds_toArray,List.set_cons_zero,List.set_cons_succ])
 go_cut [16] (fun v16 wc=>∃(kq:Nat) (aiF:Bool),v16 = .bool aiF/\aa (eO.j0 kq a0 aiF PL SN SQ Yj Yk Yl=some r)/\aa (kq<=k)/\aa (wc.heap[Bb]? = some (.cells #[.int .i64 PL,.int .i64 SN,.int .i64 SQ,.int .i64 Yj,.int .i64 Yk,.int .i64 Yl] 117 (0,0)))/\aa (Below w.heap.size w wc))
 case first=>
  have H:=ZT.out;clear ZT;replace H:=gB H;rcases H with⟨rfl,H⟩|⟨rfl,H⟩
  ·replace H:=aa.mk H;have _:=nN ug;go_wp2;go_meet
   case rel=>exact⟨_,(decide (PL>2069)),bR,H,⟨tT⟩,⟨oQ⟩,⟨aX⟩⟩
  ·replace H:=aa.mk H;go_wp2;go_meet
   case rel=>exact⟨_,(true),bR,H,⟨tT⟩,⟨oQ⟩,⟨aX⟩⟩
 case rest=>
  clear ZT;obtain⟨kq,aiF,rfl,HA,HJ2,ug,HB⟩:=hcut;cases kq with
  |zero=>exact absurd HA.out (by simp[eO.j0])
  |succ GD=>
   have H:=HA.out;clear HA;simp only[eO.j0] at H;replace H:=gB H;rcases H with⟨rfl,H⟩|⟨rfl,H⟩
   ·obtain rfl:=aI H;go_wp2;go_ret;exact⟨jv,aX⟩
   ·replace H:=gD H;obtain⟨acS,JQ,H⟩:=H;replace H:=gD H;obtain⟨Dv,M3,H⟩:=H;replace H:=gI H;rcases H with⟨c12,yH,nS,H⟩|⟨c12,-,-,H⟩
    ·try have aoW:=eq_false (Nat.not_lt.2 c12)
     replace H:=gD H;obtain⟨EJ,K5,H⟩:=H;replace H:=gN H;obtain⟨c14,Lm,wu,H⟩:=H;try have ab2:=eq_false (Nat.not_lt.2 c14)
     try(have Bw:=c14;simp only[ByteArray.size_append,si,List.length_cons,List.length_nil,Nat.zero_add,Nat.reduceAdd] at Bw;replace Bw:=eq_false (Nat.not_lt.2 Bw))
     replace H:=gN H;obtain⟨c15,Dh,sQ,H⟩:=H;try have avb:=eq_false (Nat.not_lt.2 c15)
     try(have O9:=c15;simp only[ByteArray.size_append,si,List.length_cons,List.length_nil,Nat.zero_add,Nat.reduceAdd] at O9;replace O9:=eq_false (Nat.not_lt.2 O9))
     replace H:=gD H;obtain⟨JA,ZN,H⟩:=H;replace H:=gN H;obtain⟨c17,Az,sP,H⟩:=H;try have awg:=eq_false (Nat.not_lt.2 c17)
     try(have LF:=c17;simp only[ByteArray.size_append,si,List.length_cons,List.length_nil,Nat.zero_add,Nat.reduceAdd] at LF;replace LF:=eq_false (Nat.not_lt.2 LF))
     replace H:=gN H;obtain⟨c18,acE,FP,H⟩:=H;try have aEc:=eq_false (Nat.not_lt.2 c18)
     try(have aiG:=c18;simp only[ByteArray.size_append,si,List.length_cons,List.length_nil,Nat.zero_add,Nat.reduceAdd] at aiG;replace aiG:=eq_false (Nat.not_lt.2 aiG))
     replace H:=gD H;obtain⟨PK,A19,H⟩:=H;replace H:=gN H;obtain⟨c20,Dl,uu,H⟩:=H;try have Xt:=eq_false (Nat.not_lt.2 c20)
     try(have xS:=c20;simp only[ByteArray.size_append,si,List.length_cons,List.length_nil,Nat.zero_add,Nat.reduceAdd] at xS;replace xS:=eq_false (Nat.not_lt.2 xS))
     replace H:=gN H;obtain⟨c21,Dm,uw,H⟩:=H;try have ahj:=eq_false (Nat.not_lt.2 c21)
     try(have Pb:=c21;simp only[ByteArray.size_append,si,List.length_cons,List.length_nil,Nat.zero_add,Nat.reduceAdd] at Pb;replace Pb:=eq_false (Nat.not_lt.2 Pb))
     replace H:=gD H;obtain⟨Yi,Wj,H⟩:=H;replace H:=gN H;obtain⟨c23,Sr,Le,H⟩:=H;try have aoE:=eq_false (Nat.not_lt.2 c23)
     try(have BA:=c23;simp only[ByteArray.size_append,si,List.length_cons,List.length_nil,Nat.zero_add,Nat.reduceAdd] at BA;replace BA:=eq_false (Nat.not_lt.2 BA))
     replace H:=gN H;obtain⟨c24,IX,yI,H⟩:=H;try have aoG:=eq_false (Nat.not_lt.2 c24)
     try(have Dr:=c24;simp only[ByteArray.size_append,si,List.length_cons,List.length_nil,Nat.zero_add,Nat.reduceAdd] at Dr;replace Dr:=eq_false (Nat.not_lt.2 Dr))
     obtain rfl:=aI H;try go_wp2
     replace ug:=aa.mk (eu ug.out);replace HB:=aa.mk (bE HB.out);refine jP (n:=25) (S:=fun w'=>w'.cell? ⟨Bb,0,none⟩=some (.int .i64 PL)/\w'.cell? ⟨Bb,1,none⟩=some (.int .i64 SN)/\w'.cell? ⟨Bb,2,none⟩=some (.int .i64 SQ)/\w'.cell? ⟨Bb,3,none⟩=some (.int .i64 Yj)/\w'.cell? ⟨Bb,4,none⟩=some (.int .i64 Yk)/\w'.cell? ⟨Bb,5,none⟩=some (.int .i64 Yl)) (ds:=[]) (pI ug) (fun hHeld=>?_);refine dw eO.aaz eO.O6 (fun HT_ HW_=>?_);generalize wc.drew=gG at ug HB hHeld ⊢;repeat(first|refine dA ?_)
     refine bq 4 (some 21) ?_;refine fB 5 (some 22) (hy:=Or.inl ⟨by rfl,TE⟩) ?_;refine bq 9 (some 26) ?_;refine fB 10 (some 27) (hy:=Or.inl ⟨by rfl,TE⟩) ?_;refine bq 14 (some 31) ?_;refine fB 15 (some 32) (hy:=Or.inl ⟨by rfl,TE⟩) ?_;refine bq 16 (some 33) ?_;refine fB 20 (some 37) (hy:=Or.inl ⟨by rfl,TE⟩) ?_;refine fG (fun K hK=>?_);refine BZ Tryz.func163 (ky.calls a0 acS _ JQ.out) fun nd=>?_;refine hK.out _ _ (pI ug) (fun hHeld=>?_);clear hK K;refine bY ?_;refine fG (fun K hK=>?_);refine BZ Tryz.func162 (kN.calls acS Dv _ M3.out) fun nd=>?_;refine hK.out _ _ (pI ug) (fun hHeld=>?_);clear hK K;refine bY ?_;repeat(first|refine dA ?_)
     refine fG (fun K hK=>?_);refine EY Tryz.func164 (eY.calls GD SQ 2 EJ _ K5.out) fun jH hb=>?_;replace ug:=eF (g:=Bb) hb;replace HB:=fw hb;(try clear hb)
     refine hK.out _ _ (pI ug) (fun hHeld=>?_);clear hK K;refine bY ?_;repeat(first|refine dA ?_)
     refine fG (fun K hK=>?_);refine BZ Tryz.func160 (iq.calls SN JA _ ZN.out) fun nd=>?_;refine hK.out _ _ (pI ug) (fun hHeld=>?_);clear hK K;refine bY ?_;repeat(first|refine dA ?_)
     refine fG (fun K hK=>?_);refine EY Tryz.func164 (eY.calls GD (Int.tmod PL 100) 2 PK _ A19.out) fun jH hb=>?_;replace ug:=eF (g:=Bb) hb;replace HB:=fw hb;(try clear hb)
     refine hK.out _ _ (pI ug) (fun hHeld=>?_);clear hK K;refine bY ?_;repeat(first|refine dA ?_)
     refine fG (fun K hK=>?_);refine EY Tryz.func165 (iw.calls GD PL SN SQ Yj Yk Yl Yi _ Wj.out) fun jH hb=>?_;replace ug:=eF (g:=Bb) hb;replace HB:=fw hb;(try clear hb)
     refine hK.out _ _ (pI ug) (fun hHeld=>?_);clear hK K;refine bY ?_;repeat(first|refine dA ?_)
     refine kI (fP HT_.out dK) ?_;try go_wp2
     go_ret;exact⟨jv,aX⟩
    ·exact absurd H (by simp)


mutual
def ai.j0 : Nat->ByteArray->Option (Int×Bool)
 |0,_=>none
 |k+1,x0=>if(x0.size:Int)=24 then(if 20<=24 then(if 24<=(x0.size:Int) then((bB.f k (x0.extract 20 24)).bind fun SS=>(if 4<=7 then(if 7<=(x0.size:Int) then((fD.f k (x0.extract 4 7)).bind fun SV=>(if 8<=10 then(if 10<=(x0.size:Int) then((bB.f k (x0.extract 8 10)).bind fun SX=>(if 11<=19 then(if 19<=(x0.size:Int) then((iY.f k SS SV SX (x0.extract 11 19)).bind fun PM=>((dZ.f k PM).bind fun acT=>(if acT.toList=x0.toList then(some (PM,true)) else(ai.j1 k x0)))) else(none)) else(none))) else(none)) else(none))) else(none)) else(none))) else(none)) else(none)) else(ai.j1 k x0)
def ai.j1 : Nat->ByteArray->Option (Int×Bool)
 |0,_=>none
 |k+1,x0=>if(x0.size:Int)>=30 then(ai.j2 k x0 (decide ((x0.size:Int)<=33))) else(ai.j2 k x0 false)
def ai.j2 : Nat->ByteArray->Bool->Option (Int×Bool)
 |0,_,_=>none
 |k+1,x0,x56=>if x56=true then(if 0<=(wrap64 ((x0.size:Int)-22)) then(if(wrap64 ((x0.size:Int)-22))<=(x0.size:Int) then(if 7<=9 then(if 9<=((x0.extract ((wrap64 ((x0.size:Int)-22)):Int).toNat x0.size).size:Int) then((bB.f k ((x0.extract ((wrap64 ((x0.size:Int)-22)):Int).toNat x0.size).extract 7 9)).bind fun PN=>(if PN>=70 then(ai.j3 k x0 (x0.extract ((wrap64 ((x0.size:Int)-22)):Int).toNat x0.size) (wrap64 (PN+1900))) else(ai.j3 k x0 (x0.extract ((wrap64 ((x0.size:Int)-22)):Int).toNat x0.size) (wrap64 (PN+2000))))) else(none)) else(none)) else(none)) else(none)) else(some (0,false))
def ai.j3 : Nat->ByteArray->ByteArray->Int->Option (Int×Bool)
 |0,_,_,_=>none
 |k+1,x0,x6,x7=>if 3<=6 then(if 6<=(x6.size:Int) then((fD.f k (x6.extract 3 6)).bind fun Ym=>(if 0<=2 then(if 2<=(x6.size:Int) then((bB.f k (x6.extract 0 2)).bind fun Yn=>(if 10<=18 then(if 18<=(x6.size:Int) then((iY.f k x7 Ym Yn (x6.extract 10 18)).bind fun Yo=>((eO.f k Yo).bind fun aiH=>(if aiH.toList=x0.toList then(some (Yo,true)) else(some (0,false))))) else(none)) else(none))) else(none)) else(none))) else(none)) else(none)
end
def ai.f (k:Nat) (a0:ByteArray):Option (Int×Bool):=if(a0.size:Int)=29 then(if 12<=16 then(if 16<=(a0.size:Int) then((bB.f k (a0.extract 12 16)).bind fun SY=>(if 8<=11 then(if 11<=(a0.size:Int) then((fD.f k (a0.extract 8 11)).bind fun S9=>(if 5<=7 then(if 7<=(a0.size:Int) then((bB.f k (a0.extract 5 7)).bind fun Ta=>(if 17<=25 then(if 25<=(a0.size:Int) then((iY.f k SY S9 Ta (a0.extract 17 25)).bind fun PO=>((gU.f k PO).bind fun acU=>(if acU.toList=a0.toList then(some (PO,true)) else(ai.j0 k a0)))) else(none)) else(none))) else(none)) else(none))) else(none)) else(none))) else(none)) else(none)) else(ai.j0 k a0)
def ai.T2 : Bool×List (List Nat×List Nat):=(true,[([],[]),([0],[0]),([1],[1]),([],[]),([3],[3]),([4,2],[4]),([],[]),([6],[6]),([7,5],[7]),([],[]),([9],[9]),([2,5,8,10,8],[2,5,8,10]),([11,11,0,1,2,3,4,5,6,7,8,9,10,11],[11])])
def ai.B2 : List Nat:=[0,1,3,0,8,31,0,64,255,0,512,2047,4095]
theorem ai.awj : nL .any (opsOf Tryz.f75 2)=ai.T2:=by kernel_rfl
theorem ai.aoX : jf ai.T2.2 ai.B2=true:=by kernel_rfl
def ai.T6 : Bool×List (List Nat×List Nat):=(true,[([],[]),([0],[0]),([1],[1]),([],[]),([3],[3]),([4,2],[4]),([],[]),([6],[6]),([7,5],[7]),([],[]),([9],[9]),([2,5,8,10,8],[2,5,8,10]),([11,11,0,1,2,3,4,5,6,7,8,9,10,11],[11])])
def ai.B6 : List Nat:=[0,1,3,0,8,31,0,64,255,0,512,2047,4095]
theorem ai.af6 : nL .any (opsOf Tryz.f75 6)=ai.T6:=by kernel_rfl
theorem ai.V3 : jf ai.T6.2 ai.B6=true:=by kernel_rfl
def ai.T15 : Bool×List (List Nat×List Nat):=(true,[([],[]),([],[]),([1],[1]),([2],[2]),([],[]),([4],[4]),([5,3],[5]),([],[]),([7],[7]),([0,3,6,8,6],[0,3,6,8]),([9,9,0,1,2,3,4,5,6,7,8,9],[9])])
def ai.B15 : List Nat:=[0,0,2,6,0,16,62,0,128,511,1023]
theorem ai.awk : nL .any (opsOf Tryz.f75 15)=ai.T15:=by kernel_rfl
theorem ai.arM : jf ai.T15.2 ai.B15=true:=by kernel_rfl
theorem ai.e0 {p:Prop} (h:p:=by
  try go_wp2
  replace HB:=aa.mk (bE HB.out)
  refine jP (n:=11) (S:=fun w'=>True) (ds:=[]) trivial (fun hHeld=>?_);refine dw ai.awk ai.arM (fun HT_ HW_=>?_)
  generalize wc.drew=wS at HB hHeld ⊢
  repeat(first|refine dA ?_)
  refine bq 4 (some 75) ?_
  refine bq 5 (some 76) ?_
  refine bq 7 (some 78) ?_
  refine bq 8 (some 79) ?_
  refine fG (fun K hK=>?_)
  refine jZ Tryz.func116 dK rfl #[.string (zq.extract 3 6)] (by rfl) rfl rfl ajK ?_
  with_reducible refine(fD.calls am4 (zq.extract 3 6) Ym _ A59.out).mono ?_
  rintro e w' ⟨rfl,⟨nd,rfl⟩⟩
  refine⟨_,rfl,?_⟩
  refine hK.out _ _ trivial (fun hHeld=>?_)
  clear hK K
  refine bY ?_
  refine fG (fun K hK=>?_)
  refine jZ Tryz.func115 dK rfl #[.string (zq.extract 0 2)] (by rfl) rfl rfl ajK ?_
  with_reducible refine(bB.calls am4 (zq.extract 0 2) Yn _ A62.out).mono ?_
  rintro e w' ⟨rfl,⟨nd,rfl⟩⟩
  refine⟨_,rfl,?_⟩
  refine hK.out _ _ trivial (fun hHeld=>?_)
  clear hK K
  refine bY ?_
  refine fG (fun K hK=>?_)
  refine jZ Tryz.func114 dK rfl #[.int .i64 Yp,.int .i64 Ym,.int .i64 Yn,.string (zq.extract 10 18)] (by rfl) rfl rfl ajK ?_
  with_reducible refine(iY.calls am4 Yp Ym Yn (zq.extract 10 18) Yo _ A65.out).mono ?_
  rintro e jH ⟨rfl,hb⟩
  refine⟨_,rfl,?_⟩
  replace HB:=fw hb
  (try clear hb)
  refine hK.out _ _ trivial (fun hHeld=>?_)
  clear hK K
  refine bY ?_
  repeat(first|refine dA ?_)
  refine kI (fP HT_.out dK) ?_
  try go_wp2_with(((with_reducible refine cZ 119 rfl ?_);refine iW 82 rfl Tryz.func119 (eO.calls am4 Yo aiH _ A66.out) fun Af hb HB=>?_;clear hb))
  go_ret2
  exact⟨by first|rfl|(simp[dP,dQ] <;> rfl)|(simp only[<- Vu];first|rfl|(simp[dP,dQ] <;> rfl))|(simp[*,dP,dQ] <;> rfl),aX⟩):p:=h
theorem ai.calls (k:Nat) (a0:ByteArray) (r1:Int) (r2:Bool) (w:World) (h:ai.f k a0=some (r1,r2)) :
  Calls Tryz.prog 75 #[.string a0] w fun e w'=>e = .returned (.tuple #[.int .i64 r1,.bool r2])/\Below w.heap.size w w':=by
 have HB:=aa.mk (Below.refl w.heap.size w);have H:=h;clear h;unfold ai.f at H;have qz:=aa.mk H;clear H;go_enter Tryz.func75,Tryz.ntmps75;go_upto_if 11 with(fail);go_cut [] (fun wc=>∃(kq:Nat),aa (ai.j0 kq a0=some (r1,r2))/\aa (kq<=k)/\aa (Below w.heap.size w wc))
 case first=>
  have H:=qz.out;clear qz;replace H:=gI H;rcases H with⟨c3,-,-,H⟩|⟨c3,-,-,H⟩
  ·obtain⟨cB,nE⟩:=kT c3;clear c3;(first|rw[cB]|(simp only[dU,fK];rw[cB])|skip)
   replace H:=gN H;obtain⟨-,qy,jr,H⟩:=H;replace H:=gN H;obtain⟨-,rO,jV,H⟩:=H;replace H:=gD H;obtain⟨SY,A6,H⟩:=H;replace H:=gN H;obtain⟨-,Ag,nR,H⟩:=H;replace H:=gN H;obtain⟨-,za,mU,H⟩:=H;replace H:=gD H;obtain⟨S9,A9,H⟩:=H;replace H:=gN H;obtain⟨-,Aw,pX,H⟩:=H;replace H:=gN H;obtain⟨-,Aq,oV,H⟩:=H;replace H:=gD H;obtain⟨Ta,JR,H⟩:=H;replace H:=gN H;obtain⟨-,wo,qG,H⟩:=H;replace H:=gN H;obtain⟨-,Lm,wu,H⟩:=H;replace H:=gD H;obtain⟨PO,UI,H⟩:=H;replace H:=gD H;obtain⟨acU,ZN,H⟩:=H;replace H:=gI H;rcases H with⟨c17,-,-,H⟩|⟨c17,-,-,H⟩
   ·obtain⟨sP,Az⟩:=kT c17;clear c17;simp only[Option.some.injEq,Prod.mk.injEq] at H;obtain⟨rfl,rfl⟩:=H;try go_wp2
    replace HB:=aa.mk (bE HB.out);refine jP (n:=13) (S:=fun w'=>True) (ds:=[]) trivial (fun hHeld=>?_);refine dw ai.awj ai.aoX (fun HT_ HW_=>?_);generalize w.drew=gG at HB hHeld ⊢;repeat(first|refine dA ?_)
    refine bq 3 (some 15) ?_;refine bq 4 (some 16) ?_;refine bq 6 (some 18) ?_;refine bq 7 (some 19) ?_;refine bq 9 (some 21) ?_;refine bq 10 (some 22) ?_;refine fG (fun K hK=>?_);refine BZ Tryz.func115 (bB.calls k (a0.extract 12 16) SY _ A6.out) fun nd=>?_;refine hK.out _ _ trivial (fun hHeld=>?_);clear hK K;refine bY ?_;refine fG (fun K hK=>?_);refine BZ Tryz.func116 (fD.calls k (a0.extract 8 11) S9 _ A9.out) fun nd=>?_;refine hK.out _ _ trivial (fun hHeld=>?_);clear hK K;refine bY ?_;refine fG (fun K hK=>?_);refine BZ Tryz.func115 (bB.calls k (a0.extract 5 7) Ta _ JR.out) fun nd=>?_;refine hK.out _ _ trivial (fun hHeld=>?_);clear hK K;refine bY ?_;refine fG (fun K hK=>?_);refine EY Tryz.func114 (iY.calls k SY S9 Ta (a0.extract 17 25) PO _ UI.out) fun jH hb=>?_;replace HB:=fw hb;(try clear hb)
    refine hK.out _ _ trivial (fun hHeld=>?_);clear hK K;refine bY ?_;repeat(first|refine dA ?_)
    refine kI (fP HT_.out dK) ?_;try go_wp2_with(((with_reducible refine cZ 117 rfl ?_);refine iW 25 rfl Tryz.func117 (gU.calls k PO acU _ ZN.out) fun mP hb HB=>?_;clear hb))
    go_ret2;exact⟨jv,aX⟩
   ·obtain⟨sP,Az⟩:=kU c17;replace H:=aa.mk H;try go_wp2
    replace HB:=aa.mk (bE HB.out);refine jP (n:=13) (S:=fun w'=>True) (ds:=[]) trivial (fun hHeld=>?_);refine dw ai.awj ai.aoX (fun HT_ HW_=>?_);generalize w.drew=gG at HB hHeld ⊢;repeat(first|refine dA ?_)
    refine bq 3 (some 15) ?_;refine bq 4 (some 16) ?_;refine bq 6 (some 18) ?_;refine bq 7 (some 19) ?_;refine bq 9 (some 21) ?_;refine bq 10 (some 22) ?_;refine fG (fun K hK=>?_);refine BZ Tryz.func115 (bB.calls k (a0.extract 12 16) SY _ A6.out) fun nd=>?_;refine hK.out _ _ trivial (fun hHeld=>?_);clear hK K;refine bY ?_;refine fG (fun K hK=>?_);refine BZ Tryz.func116 (fD.calls k (a0.extract 8 11) S9 _ A9.out) fun nd=>?_;refine hK.out _ _ trivial (fun hHeld=>?_);clear hK K;refine bY ?_;refine fG (fun K hK=>?_);refine BZ Tryz.func115 (bB.calls k (a0.extract 5 7) Ta _ JR.out) fun nd=>?_;refine hK.out _ _ trivial (fun hHeld=>?_);clear hK K;refine bY ?_;refine fG (fun K hK=>?_);refine EY Tryz.func114 (iY.calls k SY S9 Ta (a0.extract 17 25) PO _ UI.out) fun jH hb=>?_;replace HB:=fw hb;(try clear hb)
    refine hK.out _ _ trivial (fun hHeld=>?_);clear hK K;refine bY ?_;repeat(first|refine dA ?_)
    refine kI (fP HT_.out dK) ?_;try go_wp2_with(((with_reducible refine cZ 117 rfl ?_);refine iW 25 rfl Tryz.func117 (gU.calls k PO acU _ ZN.out) fun mP hb HB=>?_;clear hb))
    go_meet
    case rel=>exact⟨_,H,⟨tT⟩,⟨aX⟩⟩
  ·obtain⟨cB,nE⟩:=kU c3;(first|rw[cB]|(simp only[dU,fK];rw[cB])|skip)
   replace H:=aa.mk H;go_wp2;go_meet
   case rel=>exact⟨_,H,⟨tT⟩,⟨aX⟩⟩
 case rest=>
  clear qz;obtain⟨kq,HA,tC,HB⟩:=hcut;cases kq with
  |zero=>exact absurd HA.out (by simp[ai.j0])
  |succ oz=>
   have H:=HA.out;clear HA;simp only[ai.j0] at H;have arN:=aa.mk H;clear H;go_upto_if 31 with(fail);go_cut [] (fun wc=>∃(kq:Nat),aa (ai.j1 kq a0=some (r1,r2))/\aa (kq<=oz)/\aa (Below w.heap.size w wc))
   case first=>
    have H:=arN.out;clear arN;replace H:=gI H;rcases H with⟨SA,-,-,H⟩|⟨SA,-,-,H⟩
    ·obtain⟨wz,O7⟩:=kT SA;clear SA;(first|rw[wz]|(simp only[dU,fK];rw[wz])|skip)
     replace H:=gN H;obtain⟨-,SB,Ec,H⟩:=H;replace H:=gN H;obtain⟨-,ab3,IW,H⟩:=H;replace H:=gD H;obtain⟨SS,A28,H⟩:=H;replace H:=gN H;obtain⟨-,IV,IU,H⟩:=H;replace H:=gN H;obtain⟨-,Lh,IY,H⟩:=H;replace H:=gD H;obtain⟨SV,A31,H⟩:=H;replace H:=gN H;obtain⟨-,WQ,Sn,H⟩:=H;replace H:=gN H;obtain⟨-,aEd,aEe,H⟩:=H;replace H:=gD H;obtain⟨SX,YY,H⟩:=H;replace H:=gN H;obtain⟨-,Wn,Wm,H⟩:=H;replace H:=gN H;obtain⟨-,aEf,aEg,H⟩:=H;replace H:=gD H;obtain⟨PM,A37,H⟩:=H;replace H:=gD H;obtain⟨acT,A38,H⟩:=H;replace H:=gI H;rcases H with⟨MG,-,-,H⟩|⟨MG,-,-,H⟩
     ·obtain⟨Dn,FQ⟩:=kT MG;clear MG;simp only[Option.some.injEq,Prod.mk.injEq] at H;obtain⟨rfl,rfl⟩:=H;try go_wp2
      replace HB:=aa.mk (bE HB.out);refine jP (n:=13) (S:=fun w'=>True) (ds:=[]) trivial (fun hHeld=>?_);refine dw ai.af6 ai.V3 (fun HT_ HW_=>?_);generalize wc.drew=wS at HB hHeld ⊢;repeat(first|refine dA ?_)
      refine bq 3 (some 35) ?_;refine bq 4 (some 36) ?_;refine bq 6 (some 38) ?_;refine bq 7 (some 39) ?_;refine bq 9 (some 41) ?_;refine bq 10 (some 42) ?_;refine fG (fun K hK=>?_);refine BZ Tryz.func115 (bB.calls oz (a0.extract 20 24) SS _ A28.out) fun nd=>?_;refine hK.out _ _ trivial (fun hHeld=>?_);clear hK K;refine bY ?_;refine fG (fun K hK=>?_);refine BZ Tryz.func116 (fD.calls oz (a0.extract 4 7) SV _ A31.out) fun nd=>?_;refine hK.out _ _ trivial (fun hHeld=>?_);clear hK K;refine bY ?_;refine fG (fun K hK=>?_);refine BZ Tryz.func115 (bB.calls oz (a0.extract 8 10) SX _ YY.out) fun nd=>?_;refine hK.out _ _ trivial (fun hHeld=>?_);clear hK K;refine bY ?_;refine fG (fun K hK=>?_);refine EY Tryz.func114 (iY.calls oz SS SV SX (a0.extract 11 19) PM _ A37.out) fun jH hb=>?_;replace HB:=fw hb;(try clear hb)
      refine hK.out _ _ trivial (fun hHeld=>?_);clear hK K;refine bY ?_;repeat(first|refine dA ?_)
      refine kI (fP HT_.out dK) ?_;try go_wp2_with(((with_reducible refine cZ 118 rfl ?_);refine iW 45 rfl Tryz.func118 (dZ.calls oz PM acT _ A38.out) fun uo hb HB=>?_;clear hb))
      go_ret2;exact⟨jv,aX⟩
     ·obtain⟨Dn,FQ⟩:=kU MG;replace H:=aa.mk H;try go_wp2
      replace HB:=aa.mk (bE HB.out);refine jP (n:=13) (S:=fun w'=>True) (ds:=[]) trivial (fun hHeld=>?_);refine dw ai.af6 ai.V3 (fun HT_ HW_=>?_);generalize wc.drew=wS at HB hHeld ⊢;repeat(first|refine dA ?_)
      refine bq 3 (some 35) ?_;refine bq 4 (some 36) ?_;refine bq 6 (some 38) ?_;refine bq 7 (some 39) ?_;refine bq 9 (some 41) ?_;refine bq 10 (some 42) ?_;refine fG (fun K hK=>?_);refine BZ Tryz.func115 (bB.calls oz (a0.extract 20 24) SS _ A28.out) fun nd=>?_;refine hK.out _ _ trivial (fun hHeld=>?_);clear hK K;refine bY ?_;refine fG (fun K hK=>?_);refine BZ Tryz.func116 (fD.calls oz (a0.extract 4 7) SV _ A31.out) fun nd=>?_;refine hK.out _ _ trivial (fun hHeld=>?_);clear hK K;refine bY ?_;refine fG (fun K hK=>?_);refine BZ Tryz.func115 (bB.calls oz (a0.extract 8 10) SX _ YY.out) fun nd=>?_;refine hK.out _ _ trivial (fun hHeld=>?_);clear hK K;refine bY ?_;refine fG (fun K hK=>?_);refine EY Tryz.func114 (iY.calls oz SS SV SX (a0.extract 11 19) PM _ A37.out) fun jH hb=>?_;replace HB:=fw hb;(try clear hb)
      refine hK.out _ _ trivial (fun hHeld=>?_);clear hK K;refine bY ?_;repeat(first|refine dA ?_)
      refine kI (fP HT_.out dK) ?_;try go_wp2_with(((with_reducible refine cZ 118 rfl ?_);refine iW 45 rfl Tryz.func118 (dZ.calls oz PM acT _ A38.out) fun uo hb HB=>?_;clear hb))
      go_meet
      case rel=>exact⟨_,H,⟨Qt⟩,⟨aX⟩⟩
    ·obtain⟨wz,O7⟩:=kU SA;(first|rw[wz]|(simp only[dU,fK];rw[wz])|skip)
     replace H:=aa.mk H;go_wp2;go_meet
     case rel=>exact⟨_,H,⟨Qt⟩,⟨aX⟩⟩
   case rest=>
    clear arN;obtain⟨kq,HA,am5,HB⟩:=hcut;cases kq with
    |zero=>exact absurd HA.out (by simp[ai.j1])
    |succ aAS=>
     have H:=HA.out;clear HA;simp only[ai.j1] at H;have arO:=aa.mk H;clear H;go_upto_region 9 with(fail);go_cut [56] (fun v56 wc=>∃(kq:Nat) (aaP:Bool),v56 = .bool aaP/\aa (ai.j2 kq a0 aaP=some (r1,r2))/\aa (kq<=aAS)/\aa (Below w.heap.size w wc))
     case first=>
      have H:=arO.out;clear arO;replace H:=gI H;rcases H with⟨Y0,-,-,H⟩|⟨Y0,-,-,H⟩
      ·have Ay:decide (30<=(a0.size:Int))=true:=bK Y0;have abC:decide (30<=a0.size)=true:=bK ae;clear Y0;(first|rw[Ay]|(simp only[dU,fK];rw[Ay])|skip)
       replace H:=aa.mk H;go_wp2;go_meet
       case rel=>exact⟨_,(decide ((a0.size:Int)<=33)),bR,H,⟨by have:=tC.out;have:=am5.out;first|omega|exact Nat.le_refl _⟩,⟨aX⟩⟩
      ·have Ay:decide (30<=(a0.size:Int))=false:=bQ Y0;have abC:decide (30<=a0.size)=false:=bQ ae;clear Y0;(first|rw[Ay]|(simp only[dU,fK];rw[Ay])|skip)
       replace H:=aa.mk H;go_wp2;go_meet
       case rel=>exact⟨_,(false),bR,H,⟨by have:=tC.out;have:=am5.out;first|omega|exact Nat.le_refl _⟩,⟨aX⟩⟩
     case rest=>
      clear arO;obtain⟨kq,aaP,rfl,HA,awl,HB⟩:=hcut;cases kq with
      |zero=>exact absurd HA.out (by simp[ai.j2])
      |succ awm=>
       have H:=HA.out;clear HA;simp only[ai.j2] at H;replace H:=gB H;rcases H with⟨rfl,H⟩|⟨rfl,H⟩
       ·obtain⟨awn,Vu⟩:∃ j_:Int,(wrap64 ((a0.size:Int)-22))=j_:=⟨_,rfl⟩;(first|rw[Vu] at H|simp only[Vu] at H ⊢)
        have aAT:(IntKind.i64.wrap ((a0.size:Int)-22))=awn:=(dU _).trans Vu;replace H:=gN H;obtain⟨-,aoY,aoZ,H⟩:=H;replace H:=gN H;obtain⟨-,awo,awp,H⟩:=H;obtain⟨zq,hzq⟩:∃ z_:ByteArray,a0.extract ((awn):Int).toNat a0.size=z_:=⟨_,rfl⟩;rw[hzq] at H;replace H:=gN H;obtain⟨-,aiI,aiJ,H⟩:=H;replace H:=gN H;obtain⟨-,aoJ,aoI,H⟩:=H;replace H:=gD H;obtain⟨PN,A54,H⟩:=H;have arP:=aa.mk H;clear H;go_upto_if 66 with(first|((with_reducible refine cZ 115 rfl ?_);refine nU (some 64) rfl rfl Tryz.func115 dK rfl #[.string (zq.extract 7 9)] rfl ajK ?_;(with_reducible refine(bB.calls awm (zq.extract 7 9) PN _ A54.out).mono ?_);rintro e w' ⟨rfl,⟨nd,rfl⟩⟩;refine⟨_,rfl,?_⟩));(try simp only[Act.put,List.setIfInBounds_toArray,List.set_cons_zero,List.set_cons_succ])
        go_cut [7] (fun v7 wc=>∃(kq:Nat) (Yp:Int),v7 = .int .i64 Yp/\aa (ai.j3 kq a0 zq Yp=some (r1,r2))/\aa (kq<=awm)/\aa (Below w.heap.size w wc))
        case first=>
         have H:=arP.out;clear arP;replace H:=gI H;rcases H with⟨-,La,-,H⟩|⟨-,La,-,H⟩
         ·(first|rw[La]|(simp only[dU,fK];rw[La])|skip)
          replace H:=aa.mk H;go_wp2;go_meet
          case rel=>exact⟨_,(wrap64 (PN+1900)),bR,H,⟨by have:=tC.out;have:=am5.out;have:=awl.out;first|omega|exact Nat.le_refl _⟩,⟨aX⟩⟩
         ·(first|rw[La]|(simp only[dU,fK];rw[La])|skip)
          replace H:=aa.mk H;go_wp2;go_meet
          case rel=>exact⟨_,(wrap64 (PN+2000)),bR,H,⟨by have:=tC.out;have:=am5.out;have:=awl.out;first|omega|exact Nat.le_refl _⟩,⟨aX⟩⟩
        case rest=>
         clear arP;try clear aoZ
         try clear aoY
         try clear awp
         try clear awo
         try clear aiJ
         try clear aiI
         try clear aoI
         try clear aoJ
         obtain⟨kq,Yp,rfl,HA,aF8,HB⟩:=hcut;cases kq with
         |zero=>exact absurd HA.out (by simp[ai.j3])
         |succ am4=>
          have H:=HA.out;clear HA;simp only[ai.j3] at H;replace H:=gN H;obtain⟨-,avq,avp,H⟩:=H;replace H:=gN H;obtain⟨-,aok,aoj,H⟩:=H;replace H:=gD H;obtain⟨Ym,A59,H⟩:=H;replace H:=gN H;obtain⟨-,aEh,aoN,H⟩:=H;replace H:=gN H;obtain⟨-,aEi,aEj,H⟩:=H;replace H:=gD H;obtain⟨Yn,A62,H⟩:=H;replace H:=gN H;obtain⟨-,aEk,aEl,H⟩:=H;replace H:=gN H;obtain⟨-,aEm,aEn,H⟩:=H;replace H:=gD H;obtain⟨Yo,A65,H⟩:=H;replace H:=gD H;obtain⟨aiH,A66,H⟩:=H;replace H:=gI H;rcases H with⟨c67,-,-,H⟩|⟨c67,-,-,H⟩
          ·obtain⟨awq,awr⟩:=kT c67;clear c67;simp only[Option.some.injEq,Prod.mk.injEq] at H;obtain⟨rfl,rfl⟩:=H;exact ai.e0
          ·obtain⟨awq,awr⟩:=kU c67;simp only[Option.some.injEq,Prod.mk.injEq] at H;obtain⟨rfl,rfl⟩:=H;exact ai.e0
       ·simp only[Option.some.injEq,Prod.mk.injEq] at H;obtain⟨rfl,rfl⟩:=H;go_wp2;go_ret2;exact⟨jv,aX⟩


def fF.l0 : Nat->ByteArray->Int->Option (Bool)
 |0,_,_=>none
 |k+1,x0,x3=>if x3<(x0.size:Int) then(if 0<=x3 then((lh.f (bt x0 x3)).bind fun aAU=>(if aAU=true then(fF.l0 k x0 (wrap64 (x3+1))) else(some false))) else(none)) else(some true)
def fF.f (k:Nat) (a0:ByteArray):Option (Bool):=fF.l0 k a0 0
theorem fF.calls (k:Nat) (a0:ByteArray) (r:Bool) (w:World) (h:fF.f k a0=some r) :
  Calls Tryz.prog 98 #[.string a0] w fun e w'=>e = .returned (.bool r)/\bH w w':=by
 have H:=aa.mk h;clear h;unfold fF.f at H;go_enter Tryz.func98,Tryz.ntmps98;go_wp2;go_loopg [3] k (fun kq v3 w'=>∃(dD:Int),v3 = .int .i64 dD/\aa (fF.l0 kq a0 dD=some r)/\aa (kq<=k)/\bH w w')
 case atStart=>exact⟨(0),bR,H,⟨Nat.le_refl _⟩,iL⟩
 case round=>
  clear H;obtain⟨dD,rfl,HA,ig,⟨m1,rfl⟩⟩:=hrel;cases gk with
  |zero=>exact absurd HA.out (by simp[fF.l0])
  |succ k1=>
   have H:=HA;clear HA;simp only[fF.l0] at H;rcases jw H with⟨-,jc,-,H⟩|⟨-,jc,-,H⟩
   ·obtain⟨-,cB,-,H⟩:=nZ H;rcases lu H with⟨A5,H⟩|⟨A5,H⟩
    ·have p4:0<=(dD:Int):=ay bM;have q4:dD<(a0.size:Int):=ay bM;have hx4:=bO a0 dD;replace p4:=eq_true p4;replace q4:=eq_true q4;go_wp2_with(((with_reducible refine cZ 146 rfl ?_);refine mM 13 rfl Tryz.func146 (lh.calls (bt a0 dD) true _ A5.out) fun nd=>?_));go_roundg k1
     case measure=>have:=ig.out;omega
     case rel=>exact⟨(wrap64 (dD+1)),bR,H,⟨by have:=ig.out;omega⟩,iL⟩
    ·obtain rfl:=aI H.out;have p4:0<=(dD:Int):=ay bM;have q4:dD<(a0.size:Int):=ay bM;have hx4:=bO a0 dD;replace p4:=eq_true p4;replace q4:=eq_true q4;go_wp2_with(((with_reducible refine cZ 146 rfl ?_);refine mM 13 rfl Tryz.func146 (lh.calls (bt a0 dD) false _ A5.out) fun nd=>?_));go_ret;exact⟨bR,iL⟩
   ·obtain rfl:=aI H.out;go_wp2;go_ret;exact⟨bR,iL⟩

def jm.f (k:Nat) (ak:ByteArray) (au:ByteArray):Option (Bool):=if(ak.size:Int)<=40 then((eU.f k ak).bind fun aAV=>(if aAV=true then(if(au.size:Int)<=190 then((fF.f k au).bind fun aAW=>(if aAW=true then((cu.f k au).bind fun aiK=>(some (aiK.toList==au.toList))) else(some false))) else(some false)) else(some false))) else(some false)
theorem jm.e0 {p:Prop} (h:p:=by
  obtain rfl:=aI H.out
  go_enter Tryz.func58,Tryz.ntmps58
  go_wp2_with(first|((with_reducible refine lT 1 rfl ?_);refine yM #[.string ak,.string au] 72 ?_;intro F5 hg gG hbox hb;have jO:=aa.mk (hbox);have F6:=lJ hg;have F7:=lJ hg;replace HB:=fw hb;clear hb hbox hg;have uz:=Dz jO;have uA:=DC jO;have uB:=ag jO.out 0;have uC:=ag jO.out 1)|(go_at_call 97;(with_reducible refine(eU.calls k ak false _ A3.out).mono ?_);rintro e w' ⟨rfl,⟨nd,rfl⟩⟩;(try first|exact⟨rfl,_,World.drewN_drewN _ _ _⟩|exact⟨rfl,_,Eq.trans (World.drewN_drewN _ _ _) (congrArg (World.drewN _) (Nat.add_assoc _ _ _))⟩))|(go_at_call 97;(with_reducible refine(eU.calls k ak true _ A3.out).mono ?_);rintro e w' ⟨rfl,⟨nd,rfl⟩⟩;(try first|exact⟨rfl,_,World.drewN_drewN _ _ _⟩|exact⟨rfl,_,Eq.trans (World.drewN_drewN _ _ _) (congrArg (World.drewN _) (Nat.add_assoc _ _ _))⟩))|(go_at_call 98;(with_reducible refine(fF.calls k au false _ A6.out).mono ?_);rintro e w' ⟨rfl,⟨nd,rfl⟩⟩;(try first|exact⟨rfl,_,World.drewN_drewN _ _ _⟩|exact⟨rfl,_,Eq.trans (World.drewN_drewN _ _ _) (congrArg (World.drewN _) (Nat.add_assoc _ _ _))⟩))|(go_at_call 98;(with_reducible refine(fF.calls k au true _ A6.out).mono ?_);rintro e w' ⟨rfl,⟨nd,rfl⟩⟩;(try first|exact⟨rfl,_,World.drewN_drewN _ _ _⟩|exact⟨rfl,_,Eq.trans (World.drewN_drewN _ _ _) (congrArg (World.drewN _) (Nat.add_assoc _ _ _))⟩))|(go_at_call 99;(with_reducible refine(cu.calls k au aiK _ A8.out).mono ?_);rintro e w' ⟨rfl,⟨nd,rfl⟩⟩;(try first|exact⟨rfl,_,World.drewN_drewN _ _ _⟩|exact⟨rfl,_,Eq.trans (World.drewN_drewN _ _ _) (congrArg (World.drewN _) (Nat.add_assoc _ _ _))⟩)))
  repeat(first|go_quiet (first|((with_reducible refine lT 1 rfl ?_);refine yM #[.string ak,.string au] 72 ?_;intro F5 hg gG hbox hb;have jO:=aa.mk (hbox);have F6:=lJ hg;have F7:=lJ hg;replace HB:=fw hb;clear hb hbox hg;have uz:=Dz jO;have uA:=DC jO;have uB:=ag jO.out 0;have uC:=ag jO.out 1));try go_wp2_with(first|((with_reducible refine lT 1 rfl ?_);refine yM #[.string ak,.string au] 72 ?_;intro F5 hg gG hbox hb;have ao0:=fw hb;have ao1:=aa.mk (hbox);have ao2:=lJ hg;have ao3:=lJ hg;clear HB;have HB:=ao0;have jO:=ao1;have F6:=ao2;have F7:=ao3;clear ao0 ao1 ao2 ao3;clear hb hbox hg;have uz:=Dz jO;have uA:=DC jO;have uB:=ag jO.out 0;have uC:=ag jO.out 1))|go_quiet (first|((with_reducible refine lT 1 rfl ?_);refine yM #[.string ak,.string au] 72 ?_;intro F5 hg gG hbox hb;have jO:=aa.mk (hbox);have F6:=lJ hg;have F7:=lJ hg;replace HB:=fw hb;clear hb hbox hg;have uz:=Dz jO;have uA:=DC jO;have uB:=ag jO.out 0;have uC:=ag jO.out 1)|(go_at_call 97;(with_reducible refine(eU.calls k ak false _ A3.out).mono ?_);rintro e w' ⟨rfl,⟨nd,rfl⟩⟩;(try first|exact⟨rfl,_,World.drewN_drewN _ _ _⟩|exact⟨rfl,_,Eq.trans (World.drewN_drewN _ _ _) (congrArg (World.drewN _) (Nat.add_assoc _ _ _))⟩)));try go_wp2_with(first|((with_reducible refine lT 1 rfl ?_);refine yM #[.string ak,.string au] 72 ?_;intro F5 hg gG hbox hb;have SC:=fw hb;have WH:=aa.mk (hbox);have WI:=lJ hg;have WJ:=lJ hg;clear HB;have HB:=SC;have jO:=WH;have F6:=WI;have F7:=WJ;clear SC WH WI WJ;clear hb hbox hg;have uz:=Dz jO;have uA:=DC jO;have uB:=ag jO.out 0;have uC:=ag jO.out 1)|(go_at_call 97;(with_reducible refine(eU.calls k ak false _ A3.out).mono ?_);rintro e w' ⟨rfl,⟨nd,rfl⟩⟩;(try first|exact⟨rfl,_,World.drewN_drewN _ _ _⟩|exact⟨rfl,_,Eq.trans (World.drewN_drewN _ _ _) (congrArg (World.drewN _) (Nat.add_assoc _ _ _))⟩)))|go_quiet (first|((with_reducible refine lT 1 rfl ?_);refine yM #[.string ak,.string au] 72 ?_;intro F5 hg gG hbox hb;have jO:=aa.mk (hbox);have F6:=lJ hg;have F7:=lJ hg;replace HB:=fw hb;clear hb hbox hg;have uz:=Dz jO;have uA:=DC jO;have uB:=ag jO.out 0;have uC:=ag jO.out 1)|(go_at_call 97;(with_reducible refine(eU.calls k ak true _ A3.out).mono ?_);rintro e w' ⟨rfl,⟨nd,rfl⟩⟩;(try first|exact⟨rfl,_,World.drewN_drewN _ _ _⟩|exact⟨rfl,_,Eq.trans (World.drewN_drewN _ _ _) (congrArg (World.drewN _) (Nat.add_assoc _ _ _))⟩)));try go_wp2_with(first|((with_reducible refine lT 1 rfl ?_);refine yM #[.string ak,.string au] 72 ?_;intro F5 hg gG hbox hb;have uW:=fw hb;have Ld:=aa.mk (hbox);have ao4:=lJ hg;have ao5:=lJ hg;clear HB;have HB:=uW;have jO:=Ld;have F6:=ao4;have F7:=ao5;clear uW Ld ao4 ao5;clear hb hbox hg;have uz:=Dz jO;have uA:=DC jO;have uB:=ag jO.out 0;have uC:=ag jO.out 1)|(go_at_call 97;(with_reducible refine(eU.calls k ak true _ A3.out).mono ?_);rintro e w' ⟨rfl,⟨nd,rfl⟩⟩;(try first|exact⟨rfl,_,World.drewN_drewN _ _ _⟩|exact⟨rfl,_,Eq.trans (World.drewN_drewN _ _ _) (congrArg (World.drewN _) (Nat.add_assoc _ _ _))⟩)))|go_quiet (first|((with_reducible refine lT 1 rfl ?_);refine yM #[.string ak,.string au] 72 ?_;intro F5 hg gG hbox hb;have jO:=aa.mk (hbox);have F6:=lJ hg;have F7:=lJ hg;replace HB:=fw hb;clear hb hbox hg;have uz:=Dz jO;have uA:=DC jO;have uB:=ag jO.out 0;have uC:=ag jO.out 1)|(go_at_call 97;(with_reducible refine(eU.calls k ak true _ A3.out).mono ?_);rintro e w' ⟨rfl,⟨nd,rfl⟩⟩;(try first|exact⟨rfl,_,World.drewN_drewN _ _ _⟩|exact⟨rfl,_,Eq.trans (World.drewN_drewN _ _ _) (congrArg (World.drewN _) (Nat.add_assoc _ _ _))⟩))|(go_at_call 98;(with_reducible refine(fF.calls k au false _ A6.out).mono ?_);rintro e w' ⟨rfl,⟨nd,rfl⟩⟩;(try first|exact⟨rfl,_,World.drewN_drewN _ _ _⟩|exact⟨rfl,_,Eq.trans (World.drewN_drewN _ _ _) (congrArg (World.drewN _) (Nat.add_assoc _ _ _))⟩)));try go_wp2_with(first|((with_reducible refine lT 1 rfl ?_);refine yM #[.string ak,.string au] 72 ?_;intro F5 hg gG hbox hb;have yJ:=fw hb;have xP:=aa.mk (hbox);have Ed:=lJ hg;have WK:=lJ hg;clear HB;have HB:=yJ;have jO:=xP;have F6:=Ed;have F7:=WK;clear yJ xP Ed WK;clear hb hbox hg;have uz:=Dz jO;have uA:=DC jO;have uB:=ag jO.out 0;have uC:=ag jO.out 1)|(go_at_call 97;(with_reducible refine(eU.calls k ak true _ A3.out).mono ?_);rintro e w' ⟨rfl,⟨nd,rfl⟩⟩;(try first|exact⟨rfl,_,World.drewN_drewN _ _ _⟩|exact⟨rfl,_,Eq.trans (World.drewN_drewN _ _ _) (congrArg (World.drewN _) (Nat.add_assoc _ _ _))⟩))|(go_at_call 98;(with_reducible refine(fF.calls k au false _ A6.out).mono ?_);rintro e w' ⟨rfl,⟨nd,rfl⟩⟩;(try first|exact⟨rfl,_,World.drewN_drewN _ _ _⟩|exact⟨rfl,_,Eq.trans (World.drewN_drewN _ _ _) (congrArg (World.drewN _) (Nat.add_assoc _ _ _))⟩)))|go_quiet (first|((with_reducible refine lT 1 rfl ?_);refine yM #[.string ak,.string au] 72 ?_;intro F5 hg gG hbox hb;have jO:=aa.mk (hbox);have F6:=lJ hg;have F7:=lJ hg;replace HB:=fw hb;clear hb hbox hg;have uz:=Dz jO;have uA:=DC jO;have uB:=ag jO.out 0;have uC:=ag jO.out 1)|(go_at_call 97;(with_reducible refine(eU.calls k ak true _ A3.out).mono ?_);rintro e w' ⟨rfl,⟨nd,rfl⟩⟩;(try first|exact⟨rfl,_,World.drewN_drewN _ _ _⟩|exact⟨rfl,_,Eq.trans (World.drewN_drewN _ _ _) (congrArg (World.drewN _) (Nat.add_assoc _ _ _))⟩))|(go_at_call 98;(with_reducible refine(fF.calls k au true _ A6.out).mono ?_);rintro e w' ⟨rfl,⟨nd,rfl⟩⟩;(try first|exact⟨rfl,_,World.drewN_drewN _ _ _⟩|exact⟨rfl,_,Eq.trans (World.drewN_drewN _ _ _) (congrArg (World.drewN _) (Nat.add_assoc _ _ _))⟩))|(go_at_call 99;(with_reducible refine(cu.calls k au aiK _ A8.out).mono ?_);rintro e w' ⟨rfl,⟨nd,rfl⟩⟩;(try first|exact⟨rfl,_,World.drewN_drewN _ _ _⟩|exact⟨rfl,_,Eq.trans (World.drewN_drewN _ _ _) (congrArg (World.drewN _) (Nat.add_assoc _ _ _))⟩)));try go_wp2_with(first|((with_reducible refine lT 1 rfl ?_);refine yM #[.string ak,.string au] 72 ?_;intro F5 hg gG hbox hb;have ao6:=fw hb;have Ee:=aa.mk (hbox);have Ef:=lJ hg;have WO:=lJ hg;clear HB;have HB:=ao6;have jO:=Ee;have F6:=Ef;have F7:=WO;clear ao6 Ee Ef WO;clear hb hbox hg;have uz:=Dz jO;have uA:=DC jO;have uB:=ag jO.out 0;have uC:=ag jO.out 1)|(go_at_call 97;(with_reducible refine(eU.calls k ak true _ A3.out).mono ?_);rintro e w' ⟨rfl,⟨nd,rfl⟩⟩;(try first|exact⟨rfl,_,World.drewN_drewN _ _ _⟩|exact⟨rfl,_,Eq.trans (World.drewN_drewN _ _ _) (congrArg (World.drewN _) (Nat.add_assoc _ _ _))⟩))|(go_at_call 98;(with_reducible refine(fF.calls k au true _ A6.out).mono ?_);rintro e w' ⟨rfl,⟨nd,rfl⟩⟩;(try first|exact⟨rfl,_,World.drewN_drewN _ _ _⟩|exact⟨rfl,_,Eq.trans (World.drewN_drewN _ _ _) (congrArg (World.drewN _) (Nat.add_assoc _ _ _))⟩))|(go_at_call 99;(with_reducible refine(cu.calls k au aiK _ A8.out).mono ?_);rintro e w' ⟨rfl,⟨nd,rfl⟩⟩;(try first|exact⟨rfl,_,World.drewN_drewN _ _ _⟩|exact⟨rfl,_,Eq.trans (World.drewN_drewN _ _ _) (congrArg (World.drewN _) (Nat.add_assoc _ _ _))⟩))))
  go_ret
  exact⟨jv,aX⟩):p:=h
theorem jm.calls (k:Nat) (ak au:ByteArray) (r:Bool) (w:World) (h:jm.f k ak au=some r) :
  Calls Tryz.prog 58 #[.agg #[.string ak,.string au]] w fun e w'=>e = .returned (.bool r)/\Below w.heap.size w w':=by
 have Oh:=Tryz.underlying72;have HB:=aa.mk (Below.refl w.heap.size w);have H:=aa.mk h;clear h;unfold jm.f at H;rcases jw H with⟨c2,jc,-,H⟩|⟨c2,jc,-,H⟩
 ·have nD:decide (ak.size<=40)=true:=bK ae;clear c2;rcases lu H with⟨A3,H⟩|⟨A3,H⟩
  ·rcases jw H with⟨c5,jV,-,H⟩|⟨c5,jV,-,H⟩
   ·have rO:decide (au.size<=190)=true:=bK ae;clear c5;rcases lu H with⟨A6,H⟩|⟨A6,H⟩
    ·obtain⟨aiK,A8,H⟩:=nP H;exact jm.e0
    ·exact jm.e0
   ·have rO:decide (au.size<=190)=false:=bQ ae;clear c5;exact jm.e0
  ·exact jm.e0
 ·have nD:decide (ak.size<=40)=false:=bQ ae;clear c2;exact jm.e0


def fe.l0 : Nat->List (lq)->Int->Option (Bool)
 |0,_,_=>none
 |k+1,x0,x3=>if x3<(x0.length:Int) then(if 0<=x3 then((jm.f k ((aV x0 x3).f0) ((aV x0 x3).f1)).bind fun aAX=>(if aAX=true then(fe.l0 k x0 (wrap64 (x3+1))) else(some false))) else(none)) else(some true)
def fe.f (k:Nat) (l0:List (lq)):Option (Bool):=if(l0.length:Int)>20 then(some false) else(fe.l0 k l0 0)
theorem fe.calls (k:Nat) (A0:Option Addr) (c0:Nat) (l0:List (lq)) (r:Bool) (w:World) (hr0:Kd.C wQ w A0 l0.length l0) (hc0:l0.length<=c0) (h:fe.f k l0=some r) :
  Calls Tryz.prog 32 #[.slice A0 l0.length c0] w fun e w'=>e = .returned (.bool r)/\Below w.heap.size w w':=by
 have Oh:=Tryz.underlying72;have wR:=aa.mk hr0;have xw:=aa.mk hc0;clear hr0 hc0;have HB:=aa.mk (Below.refl w.heap.size w);have H:=aa.mk h;clear h;unfold fe.f at H;rcases jw H with⟨c2,-,-,H⟩|⟨c2,-,-,H⟩
 ·have jc:decide (20<(l0.length:Int))=true:=bK c2;have nD:decide (20<l0.length)=true:=bK ae;clear c2;obtain rfl:=aI H.out;go_enter Tryz.func32,Tryz.ntmps32;go_wp2;go_ret;exact⟨jv,aX⟩
 ·have jc:decide (20<(l0.length:Int))=false:=bQ c2;have nD:decide (20<l0.length)=false:=bQ ae;clear c2;go_enter Tryz.func32,Tryz.ntmps32;go_wp2;go_loopg [3] k (fun kq v3 w'=>∃(dD:Int),v3 = .int .i64 dD/\aa (fe.l0 kq l0 dD=some r)/\aa (kq<=k)/\aa (Below w.heap.size w w'))
  case atStart=>exact⟨(0),bR,H,⟨Nat.le_refl _⟩,⟨aX⟩⟩
  case round=>
   clear H;try clear c2
   try clear jc
   try clear nD
   obtain⟨dD,rfl,HA,ig,HB⟩:=hrel;cases gk with
   |zero=>exact absurd HA.out (by simp[fe.l0])
   |succ k1=>
    have H:=HA;clear HA;simp only[fe.l0] at H;rcases jw H with⟨-,cB,-,H⟩|⟨-,cB,-,H⟩
    ·obtain⟨-,jr,-,H⟩:=nZ H;rcases lu H with⟨A5,H⟩|⟨A5,H⟩
     ·have aaQ:0<=(dD:Int):=ay bM;have aaR:dD<(l0.length:Int):=ay bM;obtain⟨aws,arQ,CO,CP⟩:=sK wR.out dD aaQ aaR;cases arQ
      replace CO:=(HB.out.cell (World.block_lt_of_cell? w _ CO)).trans CO;replace CP:=(HB.out.cell (World.block_lt_of_cell? w _ CP)).trans CP;replace aaQ:=eq_true aaQ;replace aaR:=eq_true aaR;go_wp2_with(((with_reducible refine cZ 58 rfl ?_);refine iW 17 rfl Tryz.func58 (jm.calls k1 ((aV l0 dD).f0) ((aV l0 dD).f1) true _ A5.out) fun gG hb HB=>?_;clear hb));go_roundg k1
      case measure=>have:=ig.out;omega
      case rel=>exact⟨(wrap64 (dD+1)),bR,H,⟨by have:=ig.out;omega⟩,⟨aX⟩⟩
     ·obtain rfl:=aI H.out;have aaQ:0<=(dD:Int):=ay bM;have aaR:dD<(l0.length:Int):=ay bM;obtain⟨aws,arQ,CO,CP⟩:=sK wR.out dD aaQ aaR;cases arQ
      replace CO:=(HB.out.cell (World.block_lt_of_cell? w _ CO)).trans CO;replace CP:=(HB.out.cell (World.block_lt_of_cell? w _ CP)).trans CP;replace aaQ:=eq_true aaQ;replace aaR:=eq_true aaR;go_wp2_with(((with_reducible refine cZ 58 rfl ?_);refine iW 17 rfl Tryz.func58 (jm.calls k1 ((aV l0 dD).f0) ((aV l0 dD).f1) false _ A5.out) fun jH hb HB=>?_;clear hb));go_ret;exact⟨jv,aX⟩
    ·obtain rfl:=aI H.out;go_wp2;go_ret;exact⟨jv,aX⟩

def lH.f (k:Nat) (ak:ByteArray) (au:ByteArray):Option (ByteArray):=(jm.f k ak au).bind fun aAY=>(if aAY=true then(if ak.size+2<=9223372036854775807 then(if(ak++(⟨#[58,32]⟩:af)).size+au.size<=9223372036854775807 then(some ((ak++(⟨#[58,32]⟩:af))++au)) else(none)) else(none)) else(some (⟨#[]⟩:af)))
theorem lH.e0 {p:Prop} (h:p:=by
  obtain rfl:=aI H.out
  go_enter Tryz.func103,Tryz.ntmps103
  go_wp2_with(first|((with_reducible refine lT 1 rfl ?_);refine jL #[.string ak,.string au] 72 ?_;intro ao7 hg gG hbox hb;have Tc:=aa.mk (hbox);have aEo:=lJ hg;replace HB:=fw hb;clear hb hbox hg;have _:=xc Tc;have _:=Cf Tc)|((with_reducible refine cZ 58 rfl ?_);refine iW 4 rfl Tryz.func58 (jm.calls k ak au false _ A2.out) fun mP hb HB=>?_;replace Tc:=eF (g:=ao7) hb;clear hb)|((with_reducible refine cZ 58 rfl ?_);refine iW 4 rfl Tryz.func58 (jm.calls k ak au true _ A2.out) fun jH hb HB=>?_;replace Tc:=eF (g:=ao7) hb;clear hb;have _:=xc Tc;have _:=Cf Tc))
  go_ret
  exact⟨jv,aX⟩):p:=h
theorem lH.calls (k:Nat) (ak au r:ByteArray) (w:World) (h:lH.f k ak au=some r) :
  Calls Tryz.prog 103 #[.agg #[.string ak,.string au]] w fun e w'=>e = .returned (.string r)/\Below w.heap.size w w':=by
 have Oh:=Tryz.underlying72;have HB:=aa.mk (Below.refl w.heap.size w);have H:=aa.mk h;clear h;unfold lH.f at H;rcases lu H with⟨A2,H⟩|⟨A2,H⟩
 ·obtain⟨c4,qy,jr,H⟩:=nZ H;try have WU:=eq_false (Nat.not_lt.2 c4)
  obtain⟨c5,rO,jV,H⟩:=nZ H;try have akA:=eq_false (Nat.not_lt.2 c5)
  try(have GQ:=c5;simp only[ByteArray.size_append,si,List.length_cons,List.length_nil,Nat.zero_add,Nat.reduceAdd] at GQ;replace GQ:=eq_false (Nat.not_lt.2 GQ))
  exact lH.e0
 ·exact lH.e0

def iP.l0 : Nat->List (lq)->ByteArray->List ByteArray->Int->Option (List ByteArray)
 |0,_,_,_,_=>none
 |k+1,x0,x1,x5,x6=>if x6<(x0.length:Int) then(if 0<=x6 then((oo.f ((aV x0 x6).f0) x1).bind fun awt=>(if awt=true then(if x5.length<8796093022208 then(iP.l0 k x0 x1 (x5 ++ [(aV x0 x6).f1]) (wrap64 (x6+1))) else(none)) else(iP.l0 k x0 x1 x5 (wrap64 (x6+1))))) else(none)) else(some x5)
def iP.f (k:Nat) (l0:List (lq)) (a1:ByteArray):Option (List ByteArray):=(fe.f k l0).bind fun awu=>(if awu=true then(iP.l0 k l0 a1 ([]:List ByteArray) 0) else(some ([]:List ByteArray)))
theorem iP.calls (k:Nat) (A0:Option Addr) (c0:Nat) (l0:List (lq)) (a1:ByteArray) (r:List ByteArray) (w:World) (hr0:Kd.C wQ w A0 l0.length l0) (hc0:l0.length<=c0) (h:iP.f k l0 a1=some r) :
  Calls Tryz.prog 76 #[.slice A0 l0.length c0,.string a1] w fun e w'=>∃ Df:Value,e = .returned (Df)/\Kd.R Kd.string 9 w' w.heap.size (fun _=>True) Df r/\Below w.heap.size w w':=by
 have wR:=aa.mk hr0;have xw:=aa.mk hc0;clear hr0 hc0;have HB:=aa.mk (Below.refl w.heap.size w);have H:=h;clear h;unfold iP.f at H;replace H:=xE H;rcases H with⟨A3,H⟩|⟨A3,H⟩
 ·replace H:=aa.mk H;go_enter Tryz.func76,Tryz.ntmps76;go_wp2_with(first|((with_reducible refine cZ 32 rfl ?_);refine iW 8 rfl Tryz.func32 (fe.calls k _ _ l0 true _ Rk xw.out A3.out) fun w5 hb HB=>?_;clear hb));go_loopg [5,6] k (fun kq v5 v6 w'=>∃(bu:List ByteArray) (jl:Int),v6 = .int .i64 jl/\aa (iP.l0 kq l0 a1 bu jl=some r)/\aa (kq<=k)/\aa (Kd.R Kd.string 9 w' w.heap.size (fun _=>True) v5 bu)/\aa (Below w.heap.size w w'))
  case atStart=>exact⟨(([]:List ByteArray)),(0),bR,H,⟨Nat.le_refl _⟩,⟨Hz⟩,⟨aX⟩⟩
  case round=>
   clear H;obtain⟨bu,jl,rfl,HA,ig,ow,HB⟩:=hrel;cases gk with
   |zero=>exact absurd HA.out (by simp[iP.l0])
   |succ k1=>
    have H:=HA.out;clear HA;simp only[iP.l0] at H;replace H:=gI H;rcases H with⟨-,jy,-,H⟩|⟨-,jy,-,H⟩
    ·replace H:=gN H;obtain⟨-,nR,-,H⟩:=H;replace H:=xE H;rcases H with⟨A8,H⟩|⟨A8,H⟩
     ·replace H:=gN H;obtain⟨c10,-,-,H⟩:=H;have awv:=aa.mk c10;clear c10;obtain⟨ao8,PQ⟩:∃ y_:List ByteArray,y_=(bu ++ [(aV l0 jl).f1]):=⟨_,rfl⟩;replace H:(iP.l0 k1 l0 a1 ao8 (wrap64 (jl+1)))=some r:=by first|(rw[PQ];with_reducible exact H)|(have kP:=(ax _ _).symm.trans H;rw[PQ];with_reducible exact kP)|(have kP:=(ax _ _).symm.trans H;with_reducible exact kP)|with_reducible exact H|(rw[PQ];exact H)|exact H
      have arR:=aa.mk PQ;clear PQ;replace H:=aa.mk H;have PR:0<=(jl:Int):=ay bM;have PS:jl<(l0.length:Int):=ay bM;obtain⟨aiL,aiM,Aa,Ab⟩:=sK wR.out jl PR PS;cases aiM
      replace Aa:=(HB.out.cell (World.block_lt_of_cell? w _ Aa)).trans Aa;replace Ab:=(HB.out.cell (World.block_lt_of_cell? w _ Ab)).trans Ab;replace PR:=eq_true PR;replace PS:=eq_true PS;go_wp2_with(first|((with_reducible refine cZ 120 rfl ?_);refine iW 22 rfl Tryz.func120 (oo.calls ((aV l0 jl).f0) a1 true _ A8.out) fun FM hb HB=>?_;replace ow:=aa.mk (Kd.bL Mc hb);clear hb;have aiN:0<=(jl:Int):=ay bM;have aiO:jl<(l0.length:Int):=ay bM;obtain⟨arS,aww,PT,PU⟩:=sK wR.out jl aiN aiO;obtain rfl:aiL=arS:=(by injection aww);replace PT:=(HB.out.cell (World.block_lt_of_cell? w _ PT)).trans PT;replace PU:=(HB.out.cell (World.block_lt_of_cell? w _ PU)).trans PU;replace aiN:=eq_true aiN;replace aiO:=eq_true aiO)|((with_reducible refine fO (b:=.append) (xs:=#[.tmp 23,.tmp 29]) rfl ?_);at_builtin;refine Kd.kJ Kd.string (w0:=w) w.heap.size rfl (.tmp 23) (.tmp 29) 76 9 (.string ⟨#[]⟩) 16 rfl Tryz.underlying76 Bg rfl aA ae u5 bu ((aV l0 jl).f1) [.string ((aV l0 jl).f1)] (fun _=>True) (fun _=>False) rfl rfl ?aP (fun _ hk=>hk.elim) ?aF ?aO ?aB ?aS ?aL ?_;(case aP=>exact rfl);(case aB=>exact aX);(case aF=>exact(fun _ _=>trivial));(case aO=>exact Mc);(case aS=>exact(aN aX));(case aL=>have:=awv.out;omega);intro aEp DF ho hb hg hat;rw[<- arR.out] at ho;have kR:=aa.mk (hb);have lF:=aa.mk (ho);clear HB;clear ow;have HB:=kR;have aAZ:=lF;clear kR lF;clear ho hb hg hat));go_roundg k1
      case measure=>have:=ig.out;omega
      case rel=>exact⟨(ao8),(wrap64 (jl+1)),bR,H,⟨by have:=ig.out;omega⟩,⟨qE⟩,⟨aX⟩⟩
     ·replace H:=aa.mk H;have PR:0<=(jl:Int):=ay bM;have PS:jl<(l0.length:Int):=ay bM;obtain⟨aiL,aiM,Aa,Ab⟩:=sK wR.out jl PR PS;cases aiM
      replace Aa:=(HB.out.cell (World.block_lt_of_cell? w _ Aa)).trans Aa;replace Ab:=(HB.out.cell (World.block_lt_of_cell? w _ Ab)).trans Ab;replace PR:=eq_true PR;replace PS:=eq_true PS;go_wp2_with(first|((with_reducible refine cZ 120 rfl ?_);refine iW 22 rfl Tryz.func120 (oo.calls ((aV l0 jl).f0) a1 false _ A8.out) fun AX hb HB=>?_;replace ow:=aa.mk (Kd.bL Mc hb);clear hb));go_roundg k1
      case measure=>have:=ig.out;omega
      case rel=>exact⟨(bu),(wrap64 (jl+1)),bR,H,⟨by have:=ig.out;omega⟩,⟨qE⟩,⟨aX⟩⟩
    ·obtain rfl:=aI H;go_wp2;go_ret;exact⟨_,jv,qE,aX⟩
 ·obtain rfl:=aI H;go_enter Tryz.func76,Tryz.ntmps76;go_wp2_with(first|((with_reducible refine cZ 32 rfl ?_);refine iW 8 rfl Tryz.func32 (fe.calls k _ _ l0 false _ Rk xw.out A3.out) fun w14 hb HB=>?_;clear hb));go_ret;exact⟨_,jv,Hz,aX⟩


def nC.f (k:Nat) (l0:List (lq)) (a1:ByteArray):Option (ByteArray×Bool):=(iP.f k l0 a1).bind fun F8=>(if(F8.length:Int)=0 then(some ((⟨#[]⟩:af),false)) else(if 0<(F8.length:Int) then(some (dh ByteArray.empty F8 0,true)) else(none)))
theorem nC.calls (k:Nat) (A0:Option Addr) (c0:Nat) (l0:List (lq)) (a1 r1:ByteArray) (r2:Bool) (w:World) (hr0:Kd.C wQ w A0 l0.length l0) (hc0:l0.length<=c0) (h:nC.f k l0 a1=some (r1,r2)) :
  Calls Tryz.prog 44 #[.slice A0 l0.length c0,.string a1] w fun e w'=>e = .returned (.tuple #[.string r1,.bool r2])/\Below w.heap.size w w':=by
 have wR:=aa.mk hr0;have xw:=aa.mk hc0;clear hr0 hc0;have HB:=aa.mk (Below.refl w.heap.size w);have H:=aa.mk h;clear h;unfold nC.f at H;obtain⟨F8,A3,H⟩:=nP H;rcases jw H with⟨c4,-,-,H⟩|⟨c4,-,-,H⟩
 ·obtain⟨jr,qy⟩:=kT c4;clear c4;simp only[Option.some.injEq,Prod.mk.injEq] at H;obtain⟨rfl,rfl⟩:=H;go_enter Tryz.func44,Tryz.ntmps44;go_wp2_with(first|((with_reducible refine cZ 76 rfl ?_);refine NL 9 rfl Tryz.func76 (iP.calls k _ _ l0 a1 F8 _ Rk xw.out A3.out) ?_;rintro e w5 ⟨awx,rfl,ho0,hb⟩;refine⟨_,rfl,?_⟩;have UO:=aa.mk (Kd.gu ho0 (aN aX));replace HB:=fw hb;clear hb;(try clear ho0);obtain⟨Ao6,co6,eo6⟩:=Kd.eD UO.out;subst eo6));go_ret2;exact⟨jv,aX⟩
 ·obtain⟨jr,qy⟩:=kU c4;have WU:¬ (F8 = []):=fun h_=>c4 (by rw[h_];rfl);rcases jw H with⟨c7,nR,-,H⟩|⟨c7,-,-,H⟩
  ·have Ag:decide (0<F8.length)=true:=bK ae;clear c7;simp only[Option.some.injEq,Prod.mk.injEq] at H;obtain⟨rfl,rfl⟩:=H;go_enter Tryz.func44,Tryz.ntmps44;go_wp2_with(first|((with_reducible refine cZ 76 rfl ?_);refine NL 9 rfl Tryz.func76 (iP.calls k _ _ l0 a1 F8 _ Rk xw.out A3.out) ?_;rintro e w8 ⟨awx,rfl,ho0,hb⟩;refine⟨_,rfl,?_⟩;have UO:=aa.mk (Kd.gu ho0 (aN aX));replace HB:=fw hb;clear hb;(try clear ho0);obtain⟨Ao9,co9,eo9⟩:=Kd.eD UO.out;subst eo9;have aiP:0<=(0:Int):=ae;have aiQ:0<(F8.length:Int):=ay bM;obtain⟨aA0,awy,Yq⟩:=Kd.eG (Kd.aH UO.out).2.2 0 aiP aiQ;cases awy;have aA1:(0<F8.length)=True:=eq_true ae;(try rw[show((0:Int)).toNat=0 from rfl] at Yq);(try rw[Addr.add_zero'] at Yq);replace aiP:=eq_true aiP;replace aiQ:=eq_true aiQ));go_ret2;exact⟨jv,aX⟩
  ·exact absurd H.out (by simp)

def jo.l0 : Nat->List ByteArray->ByteArray->Int->Option (ByteArray)
 |0,_,_,_=>none
 |k+1,x5,x6,x7=>if x7<(x5.length:Int) then(if x7>0 then(if x6.size+2<=9223372036854775807 then(if 0<=x7 then(if(x6++(⟨#[44,32]⟩:af)).size+(dh ByteArray.empty x5 x7).size<=9223372036854775807 then(jo.l0 k x5 ((x6++(⟨#[44,32]⟩:af))++(dh ByteArray.empty x5 x7)) (wrap64 (x7+1))) else(none)) else(none)) else(none)) else(if 0<=x7 then(if x6.size+(dh ByteArray.empty x5 x7).size<=9223372036854775807 then(jo.l0 k x5 (x6++(dh ByteArray.empty x5 x7)) (wrap64 (x7+1))) else(none)) else(none))) else(some x6)
def jo.f (k:Nat) (l0:List (lq)) (a1:ByteArray):Option (ByteArray):=(iP.f k l0 a1).bind fun JB=>(jo.l0 k JB (⟨#[]⟩:af) 0)
theorem jo.calls (k:Nat) (A0:Option Addr) (c0:Nat) (l0:List (lq)) (a1 r:ByteArray) (w:World) (hr0:Kd.C wQ w A0 l0.length l0) (hc0:l0.length<=c0) (h:jo.f k l0 a1=some r) :
  Calls Tryz.prog 123 #[.slice A0 l0.length c0,.string a1] w fun e w'=>e = .returned (.string r)/\Below w.heap.size w w':=by
 have wR:=aa.mk hr0;have xw:=aa.mk hc0;clear hr0 hc0;have HB:=aa.mk (Below.refl w.heap.size w);have H:=aa.mk h;clear h;unfold jo.f at H;obtain⟨JB,A3,H⟩:=nP H;go_enter Tryz.func123,Tryz.ntmps123;go_wp2_with(first|((with_reducible refine cZ 76 rfl ?_);refine NL 10 rfl Tryz.func76 (iP.calls k _ _ l0 a1 JB _ Rk xw.out A3.out) ?_;rintro e w4 ⟨awz,rfl,ho0,hb⟩;refine⟨_,rfl,?_⟩;have aA2:=aa.mk (Kd.gu ho0 (aN aX));replace HB:=fw hb;clear hb;(try clear ho0)));go_loopg [6,7] k (fun kq v6 v7 w'=>∃(jl:ByteArray) (nI:Int),v6 = .string jl/\v7 = .int .i64 nI/\aa (jo.l0 kq JB jl nI=some r)/\aa (kq<=k)/\aa (Kd.R Kd.string 9 w' w.heap.size (fun _=>True) awz JB)/\aa (Below w.heap.size w w'))
 case atStart=>exact⟨((⟨#[]⟩:af)),(0),bR,bR,H,⟨Nat.le_refl _⟩,⟨qE⟩,⟨aX⟩⟩
 case round=>
  clear H;obtain⟨jl,nI,rfl,rfl,HA,ig,ow,HB⟩:=hrel;cases gk with
  |zero=>exact absurd HA.out (by simp[jo.l0])
  |succ k1=>
   have H:=HA;clear HA;simp only[jo.l0] at H;rcases jw H with⟨-,jV,-,H⟩|⟨-,jV,-,H⟩
   ·rcases jw H with⟨-,jy,-,H⟩|⟨-,jy,-,H⟩
    ·obtain⟨c7,Ag,nR,H⟩:=nZ H;try have ap8:=eq_false (Nat.not_lt.2 c7)
     obtain⟨-,mU,-,H⟩:=nZ H;obtain⟨c9,xy,pg,H⟩:=nZ H;try have aF9:=eq_false (Nat.not_lt.2 c9)
     try(have arT:=c9;simp only[ByteArray.size_append,si,List.length_cons,List.length_nil,Nat.zero_add,Nat.reduceAdd] at arT;replace arT:=eq_false (Nat.not_lt.2 arT))
     obtain⟨aqy,adY,VV⟩:=Kd.eD ow.out;subst VV;have aiR:0<=(nI:Int):=ay bM;have aiS:nI<(JB.length:Int):=ay bM;obtain⟨aA3,awC,awD⟩:=Kd.eG (Kd.aH ow.out).2.2 nI aiR aiS;cases awC
     replace aiR:=eq_true aiR;replace aiS:=eq_true aiS;go_wp2;go_roundg k1
     case measure=>have:=ig.out;omega
     case rel=>exact⟨((jl++(⟨#[44,32]⟩:af))++(dh ByteArray.empty JB nI)),(wrap64 (nI+1)),bR,bR,H,⟨by have:=ig.out;omega⟩,⟨qE⟩,⟨aX⟩⟩
    ·obtain⟨-,oV,-,H⟩:=nZ H;obtain⟨c12,yH,nS,H⟩:=nZ H;try have aoW:=eq_false (Nat.not_lt.2 c12)
     obtain⟨ap0,ap1,ap2⟩:=Kd.eD ow.out;subst ap2;have aiT:0<=(nI:Int):=ay bM;have aiU:nI<(JB.length:Int):=ay bM;obtain⟨aA4,awE,awF⟩:=Kd.eG (Kd.aH ow.out).2.2 nI aiT aiU;cases awE
     replace aiT:=eq_true aiT;replace aiU:=eq_true aiU;go_wp2;go_roundg k1
     case measure=>have:=ig.out;omega
     case rel=>exact⟨(jl++(dh ByteArray.empty JB nI)),(wrap64 (nI+1)),bR,bR,H,⟨by have:=ig.out;omega⟩,⟨qE⟩,⟨aX⟩⟩
   ·obtain rfl:=aI H.out;obtain⟨aGa,aGb,aA5⟩:=Kd.eD ow.out;subst aA5;go_wp2;go_ret;exact⟨jv,aX⟩

def oF.f (k:Nat) (l0:List (lq)) (a1:ByteArray):Option (List ByteArray):=(jo.f k l0 a1).bind fun acV=>((bC.f k acV).bind fun aiV=>(some aiV))
theorem oF.calls (k:Nat) (A0:Option Addr) (c0:Nat) (l0:List (lq)) (a1:ByteArray) (r:List ByteArray) (w:World) (hr0:Kd.C wQ w A0 l0.length l0) (hc0:l0.length<=c0) (h:oF.f k l0 a1=some r) :
  Calls Tryz.prog 80 #[.slice A0 l0.length c0,.string a1] w fun e w'=>∃ Df:Value,e = .returned (Df)/\Kd.R Kd.string 9 w' w.heap.size (fun _=>True) Df r/\Below w.heap.size w w':=by
 have wR:=aa.mk hr0;have xw:=aa.mk hc0;clear hr0 hc0;have HB:=aa.mk (Below.refl w.heap.size w);have H:=aa.mk h;clear h;unfold oF.f at H;obtain⟨acV,A3,H⟩:=nP H;obtain⟨aiV,A4,H⟩:=nP H;obtain rfl:=aI H.out;go_enter Tryz.func80,Tryz.ntmps80;go_wp2_with(first|((with_reducible refine cZ 123 rfl ?_);refine iW 7 rfl Tryz.func123 (jo.calls k _ _ l0 a1 acV _ Rk xw.out A3.out) fun w5 hb HB=>?_;clear hb)|((with_reducible refine cZ 122 rfl ?_);refine NL 8 rfl Tryz.func122 (bC.calls k acV aiV _ A4.out) ?_;rintro e w6 ⟨aEq,rfl,ho0,hb⟩;refine⟨_,rfl,?_⟩;have aA6:=aa.mk (Kd.gu ho0 (aN aX));replace HB:=fw hb;clear hb;(try clear ho0)));go_ret;exact⟨_,jv,qE,aX⟩


def df.l0 : Nat->ByteArray->Int->Option (Bool)
 |0,_,_=>none
 |k+1,x0,x3=>if x3<(x0.size:Int) then(if 0<=x3 then(if(bt x0 x3)<33 then(some false) else(if(bt x0 x3)>126 then(some false) else(df.l0 k x0 (wrap64 (x3+1))))) else(none)) else(some (decide ((x0.size:Int)>0)))
def df.f (k:Nat) (a0:ByteArray):Option (Bool):=df.l0 k a0 0
theorem df.calls (k:Nat) (a0:ByteArray) (r:Bool) (w:World) (h:df.f k a0=some r) :
  Calls Tryz.prog 100 #[.string a0] w fun e w'=>e = .returned (.bool r)/\bH w w':=by
 have H:=aa.mk h;clear h;unfold df.f at H;go_enter Tryz.func100,Tryz.ntmps100;go_wp2;go_loopg [3] k (fun kq v3 w'=>∃(dD:Int),v3 = .int .i64 dD/\aa (df.l0 kq a0 dD=some r)/\aa (kq<=k)/\bH w w')
 case atStart=>exact⟨(0),bR,H,⟨Nat.le_refl _⟩,iL⟩
 case round=>
  clear H;obtain⟨dD,rfl,HA,ig,⟨m1,rfl⟩⟩:=hrel;cases gk with
  |zero=>exact absurd HA.out (by simp[df.l0])
  |succ k1=>
   have H:=HA;clear HA;simp only[df.l0] at H;rcases jw H with⟨-,jc,-,H⟩|⟨-,jc,-,H⟩
   ·obtain⟨-,cB,-,H⟩:=nZ H;rcases jw H with⟨-,jV,-,H⟩|⟨-,jV,-,H⟩
    ·obtain rfl:=aI H.out;have p4:0<=(dD:Int):=ay bM;have q4:dD<(a0.size:Int):=ay bM;have hx4:=bO a0 dD;replace p4:=eq_true p4;replace q4:=eq_true q4;go_wp2;go_ret;exact⟨bR,iL⟩
    ·rcases jw H with⟨-,nR,-,H⟩|⟨-,nR,-,H⟩
     ·obtain rfl:=aI H.out;have p4:0<=(dD:Int):=ay bM;have q4:dD<(a0.size:Int):=ay bM;have hx4:=bO a0 dD;replace p4:=eq_true p4;replace q4:=eq_true q4;have p6:0<=(dD:Int):=ay bM;have q6:dD<(a0.size:Int):=ay bM;have hx6:=bO a0 dD;replace p6:=eq_true p6;replace q6:=eq_true q6;go_wp2;go_ret;exact⟨bR,iL⟩
     ·have p4:0<=(dD:Int):=ay bM;have q4:dD<(a0.size:Int):=ay bM;have hx4:=bO a0 dD;replace p4:=eq_true p4;replace q4:=eq_true q4;have p6:0<=(dD:Int):=ay bM;have q6:dD<(a0.size:Int):=ay bM;have hx6:=bO a0 dD;replace p6:=eq_true p6;replace q6:=eq_true q6;go_wp2;go_roundg k1
      case measure=>have:=ig.out;omega
      case rel=>exact⟨(wrap64 (dD+1)),bR,H,⟨by have:=ig.out;omega⟩,iL⟩
   ·obtain rfl:=aI H.out;go_wp2;go_ret;exact⟨bR,iL⟩

def dS.l0 : Nat->ByteArray->Int->Int->Option (ByteArray)
 |0,_,_,_=>none
 |k+1,x0,x1,x5=>if x5<(x0.size:Int) then(if 0<=x5 then(if(bt x0 x5)=x1 then(if x5<=(x0.size:Int) then(some (x0.extract 0 (x5:Int).toNat)) else(none)) else(dS.l0 k x0 x1 (wrap64 (x5+1)))) else(none)) else(some x0)
def dS.f (k:Nat) (a0:ByteArray) (a1:Int):Option (ByteArray):=dS.l0 k a0 a1 0
theorem dS.calls (k:Nat) (a0:ByteArray) (a1:Int) (r:ByteArray) (w:World) (h:dS.f k a0 a1=some r) :
  Calls Tryz.prog 140 #[.string a0,.int .u8 a1] w fun e w'=>e = .returned (.string r)/\bH w w':=by
 have H:=aa.mk h;clear h;unfold dS.f at H;go_enter Tryz.func140,Tryz.ntmps140;go_wp2;go_loopg [5] k (fun kq v5 w'=>∃(bu:Int),v5 = .int .i64 bu/\aa (dS.l0 kq a0 a1 bu=some r)/\aa (kq<=k)/\bH w w')
 case atStart=>exact⟨(0),bR,H,⟨Nat.le_refl _⟩,iL⟩
 case round=>
  clear H;obtain⟨bu,rfl,HA,ig,⟨m1,rfl⟩⟩:=hrel;cases gk with
  |zero=>exact absurd HA.out (by simp[dS.l0])
  |succ k1=>
   have H:=HA;clear HA;simp only[dS.l0] at H;rcases jw H with⟨-,cB,-,H⟩|⟨-,cB,-,H⟩
   ·obtain⟨-,jr,-,H⟩:=nZ H;rcases jw H with⟨c6,-,-,H⟩|⟨c6,-,-,H⟩
    ·obtain⟨jy,pq⟩:=kT c6;clear c6;have nR:=eq_true (ay bM:0<=bu);obtain⟨-,za,mU,H⟩:=nZ H;obtain rfl:=aI H.out;have p5:0<=(bu:Int):=ay bM;have q5:bu<(a0.size:Int):=ay bM;have hx5:=bO a0 bu;replace p5:=eq_true p5;replace q5:=eq_true q5;go_wp2;go_ret;exact⟨bR,iL⟩
    ·obtain⟨jy,pq⟩:=kU c6;have p5:0<=(bu:Int):=ay bM;have q5:bu<(a0.size:Int):=ay bM;have hx5:=bO a0 bu;replace p5:=eq_true p5;replace q5:=eq_true q5;go_wp2;go_roundg k1
     case measure=>have:=ig.out;omega
     case rel=>exact⟨(wrap64 (bu+1)),bR,H,⟨by have:=ig.out;omega⟩,iL⟩
   ·obtain rfl:=aI H.out;go_wp2;go_ret;exact⟨bR,iL⟩

def fZ.l0 : Nat->List (lq)->Int->Option (Bool)
 |0,_,_=>none
 |k+1,x0,x3=>if x3<(x0.length:Int) then(if 0<=x3 then((il.f ((aV x0 x3).f0)).bind fun aek=>(if aek.toList=([99,111,110,116,101,110,116,45,108,101,110,103,116,104]:aQ) then(some true) else(if aek.toList=([116,114,97,110,115,102,101,114,45,101,110,99,111,100,105,110,103]:aQ) then(some true) else(if aek.toList=([116,114,97,105,108,101,114]:aQ) then(some true) else(fZ.l0 k x0 (wrap64 (x3+1))))))) else(none)) else(some false)
def fZ.f (k:Nat) (l0:List (lq)):Option (Bool):=fZ.l0 k l0 0
theorem fZ.e0 {p:Prop} (h:p:=by
  obtain rfl:=aI H.out
  have aaS:0<=(dD:Int):=ay bM
  have aaT:dD<(l0.length:Int):=ay bM
  obtain⟨awG,arU,CQ,CR⟩:=sK wR.out dD aaS aaT
  cases arU
  replace CQ:=(HB.out.cell (World.block_lt_of_cell? w _ CQ)).trans CQ
  replace CR:=(HB.out.cell (World.block_lt_of_cell? w _ CR)).trans CR
  replace aaS:=eq_true aaS
  replace aaT:=eq_true aaT
  go_wp2_with(((with_reducible refine cZ 83 rfl ?_);refine iW 16 rfl Tryz.func83 (il.calls ((aV l0 dD).f0) aek _ A4.out) fun gG hb HB=>?_;clear hb))
  go_ret
  exact⟨jv,aX⟩):p:=h
theorem fZ.calls (k:Nat) (A0:Option Addr) (c0:Nat) (l0:List (lq)) (r:Bool) (w:World) (hr0:Kd.C wQ w A0 l0.length l0) (hc0:l0.length<=c0) (h:fZ.f k l0=some r) :
  Calls Tryz.prog 59 #[.slice A0 l0.length c0] w fun e w'=>e = .returned (.bool r)/\Below w.heap.size w w':=by
 have wR:=aa.mk hr0;have xw:=aa.mk hc0;clear hr0 hc0;have HB:=aa.mk (Below.refl w.heap.size w);have H:=aa.mk h;clear h;unfold fZ.f at H;go_enter Tryz.func59,Tryz.ntmps59;go_wp2;go_loopg [3] k (fun kq v3 w'=>∃(dD:Int),v3 = .int .i64 dD/\aa (fZ.l0 kq l0 dD=some r)/\aa (kq<=k)/\aa (Below w.heap.size w w'))
 case atStart=>exact⟨(0),bR,H,⟨Nat.le_refl _⟩,⟨aX⟩⟩
 case round=>
  clear H;obtain⟨dD,rfl,HA,ig,HB⟩:=hrel;cases gk with
  |zero=>exact absurd HA.out (by simp[fZ.l0])
  |succ k1=>
   have H:=HA;clear HA;simp only[fZ.l0] at H;rcases jw H with⟨-,jc,-,H⟩|⟨-,jc,-,H⟩
   ·obtain⟨-,cB,-,H⟩:=nZ H;obtain⟨aek,A4,H⟩:=nP H;rcases jw H with⟨c5,-,-,H⟩|⟨c5,-,-,H⟩
    ·obtain⟨jV,rO⟩:=kT c5;clear c5;exact fZ.e0
    ·obtain⟨jV,rO⟩:=kU c5;rcases jw H with⟨c7,-,-,H⟩|⟨c7,-,-,H⟩
     ·obtain⟨nR,Ag⟩:=kT c7;clear c7;exact fZ.e0
     ·obtain⟨nR,Ag⟩:=kU c7;rcases jw H with⟨c9,-,-,H⟩|⟨c9,-,-,H⟩
      ·obtain⟨pg,xy⟩:=kT c9;clear c9;exact fZ.e0
      ·obtain⟨pg,xy⟩:=kU c9;have aaS:0<=(dD:Int):=ay bM;have aaT:dD<(l0.length:Int):=ay bM;obtain⟨awG,arU,CQ,CR⟩:=sK wR.out dD aaS aaT;cases arU
       replace CQ:=(HB.out.cell (World.block_lt_of_cell? w _ CQ)).trans CQ;replace CR:=(HB.out.cell (World.block_lt_of_cell? w _ CR)).trans CR;replace aaS:=eq_true aaS;replace aaT:=eq_true aaT;go_wp2_with(((with_reducible refine cZ 83 rfl ?_);refine iW 16 rfl Tryz.func83 (il.calls ((aV l0 dD).f0) aek _ A4.out) fun gG hb HB=>?_;clear hb));go_roundg k1
       case measure=>have:=ig.out;omega
       case rel=>exact⟨(wrap64 (dD+1)),bR,H,⟨by have:=ig.out;omega⟩,⟨aX⟩⟩
   ·obtain rfl:=aI H.out;go_wp2;go_ret;exact⟨jv,aX⟩


def uR.f (a0:Int):Option (Bool):=if a0=204 then(some true) else(some (a0==304))
theorem uR.calls (a0:Int) (r:Bool) (w:World) (h:uR.f a0=some r) :
  Calls Tryz.prog 101 #[.int .i64 a0] w fun e w'=>e = .returned (.bool r)/\bH w w':=by
 have H:=aa.mk h;clear h;unfold uR.f at H;rcases jw H with⟨c2,-,-,H⟩|⟨c2,-,-,H⟩
 ·obtain⟨jc,nD⟩:=kT c2;clear c2;obtain rfl:=aI H.out;go_enter Tryz.func101,Tryz.ntmps101;go_wp2;go_ret;exact⟨bR,iL⟩
 ·obtain⟨jc,nD⟩:=kU c2;obtain rfl:=aI H.out;go_enter Tryz.func101,Tryz.ntmps101;go_wp2;go_ret;exact⟨bR,iL⟩

def iO.f (k:Nat) (ak:ByteArray) (au:ByteArray) (az:Int) (aJ:ByteArray) (aD:Bool) (bZ:List (lq)) (bF:ByteArray):Option (Bool):=if au.toList=([]:aQ) then(if az<200 then(some false) else(if az>599 then(some false) else(if(aJ.size:Int)>40 then(some false) else((fF.f k aJ).bind fun aA7=>(if aA7=true then(if aD=true then(if bF.toList=([]:aQ) then(some true) else(some false)) else((uR.f az).bind fun arV=>(some (!arV)))) else(some false)))))) else(some false)
theorem iO.e0 {p:Prop} (h:p:=by
  obtain rfl:=aI H
  go_enter Tryz.func61,Tryz.ntmps61
  go_wp2_with(first|((with_reducible refine lT 1 rfl ?_);refine yM #[.string ak,.string au,.int .i64 az,.string aJ,.bool false,.slice o8 bZ.length o9,.string bF] 31 ?_;intro ao9 hg mP hbox hb;have LK:=aa.mk (hbox);have apa:=lJ hg;replace HB:=fw hb;clear hb hbox hg;have _:=mI LK;have _:=nV LK)|((with_reducible refine lT 1 rfl ?_);refine yM #[.string ak,.string au,.int .i64 az,.string aJ,.bool true,.slice o8 bZ.length o9,.string bF] 31 ?_;intro ao9 hg jH hbox hb;have LK:=aa.mk (hbox);have apa:=lJ hg;replace HB:=fw hb;clear hb hbox hg;have _:=mI LK;have _:=nV LK)|(go_at_call 98;(with_reducible refine(fF.calls k aJ true _ JR.out).mono ?_);rintro e w' ⟨rfl,⟨nd,rfl⟩⟩)|(go_at_call 101;(with_reducible refine(uR.calls az arV _ A20.out).mono ?_);rintro e w' ⟨rfl,⟨nd,rfl⟩⟩)|((with_reducible refine lT 1 rfl ?_);refine yM #[.string ak,.string au,.int .i64 az,.string aJ,.bool aD,.slice o8 bZ.length o9,.string bF] 31 ?_;intro ao9 hg gG hbox hb;have LK:=aa.mk (hbox);have apa:=lJ hg;replace HB:=fw hb;clear hb hbox hg;have _:=mI LK;have _:=nV LK)|(go_at_call 98;(with_reducible refine(fF.calls k aJ false _ JR.out).mono ?_);rintro e w' ⟨rfl,⟨nd,rfl⟩⟩))
  go_ret
  exact⟨jv,aX⟩):p:=h
theorem iO.calls (k:Nat) (ak au:ByteArray) (az:Int) (aJ:ByteArray) (aD:Bool) (o8:Option Addr) (o9:Nat) (bZ:List (lq)) (bF:ByteArray) (r:Bool) (w:World) (qY:Kd.C wQ w o8 bZ.length bZ) (qZ:bZ.length<=o9) (h:iO.f k ak au az aJ aD bZ bF=some r) :
  Calls Tryz.prog 61 #[.agg #[.string ak,.string au,.int .i64 az,.string aJ,.bool aD,.slice o8 bZ.length o9,.string bF]] w fun e w'=>e = .returned (.bool r)/\Below w.heap.size w w':=by
 have QM:=Tryz.underlying31;have DN:=aa.mk qY;have oh:=aa.mk qZ;clear qY qZ;have HB:=aa.mk (Below.refl w.heap.size w);have H:=h;clear h;unfold iO.f at H;replace H:=gI H;rcases H with⟨c2,-,-,H⟩|⟨c2,-,-,H⟩
 ·obtain⟨jc,nD⟩:=kT c2;clear c2;replace H:=gI H;rcases H with⟨-,cB,-,H⟩|⟨-,cB,-,H⟩
  ·exact iO.e0
  ·replace H:=gI H;rcases H with⟨-,jy,-,H⟩|⟨-,jy,-,H⟩
   ·exact iO.e0
   ·replace H:=gI H;rcases H with⟨c9,-,-,H⟩|⟨c9,-,-,H⟩
    ·have pg:decide (40<(aJ.size:Int))=true:=bK c9;have xy:decide (40<aJ.size)=true:=bK ae;clear c9;exact iO.e0
    ·have pg:decide (40<(aJ.size:Int))=false:=bQ c9;have xy:decide (40<aJ.size)=false:=bQ ae;clear c9;replace H:=xE H;rcases H with⟨JR,H⟩|⟨JR,H⟩
     ·replace H:=gB H;rcases H with⟨rfl,H⟩|⟨rfl,H⟩
      ·replace H:=gI H;rcases H with⟨c15,-,-,H⟩|⟨c15,-,-,H⟩
       ·obtain⟨sQ,Dh⟩:=kT c15;clear c15;exact iO.e0
       ·obtain⟨sQ,Dh⟩:=kU c15;exact iO.e0
      ·replace H:=gD H;obtain⟨arV,A20,H⟩:=H;exact iO.e0
     ·exact iO.e0
 ·obtain⟨jc,nD⟩:=kU c2;exact iO.e0


mutual
def bW.j0 : Nat->ByteArray->ByteArray->ByteArray->Int->ByteArray->Bool->List (lq)->ByteArray->Option (ByteArray)
 |0,_,_,_,_,_,_,_,_=>none
 |k+1,x3,Nh,UQ,UR,UT,Nk,E9,Fa=>bW.l0 k x3 0 Nh UQ UR UT Nk E9 Fa
def bW.l0 : Nat->ByteArray->Int->ByteArray->ByteArray->Int->ByteArray->Bool->List (lq)->ByteArray->Option (ByteArray)
 |0,_,_,_,_,_,_,_,_,_=>none
 |k+1,x3,x4,Nh,UQ,UR,UT,Nk,E9,Fa=>if x4<(E9.length:Int) then(if 0<=x4 then((lH.f k ((aV E9 x4).f0) ((aV E9 x4).f1)).bind fun ael=>(if x3.size+ael.size<=9223372036854775807 then(if(x3++ael).size+2<=9223372036854775807 then(bW.l0 k ((x3++ael)++(⟨#[13,10]⟩:af)) (wrap64 (x4+1)) Nh UQ UR UT Nk E9 Fa) else(none)) else(none))) else(none)) else(if Nh.toList=([]:aQ) then(if Nk=true then(if x3.size+2<=9223372036854775807 then(some (x3++(⟨#[13,10]⟩:af))) else(none)) else(if x3.size+16<=9223372036854775807 then((bI.f k (Fa.size:Int)).bind fun aem=>(if(x3++(⟨#[67,111,110,116,101,110,116,45,76,101,110,103,116,104,58,32]⟩:af)).size+aem.size<=9223372036854775807 then(if((x3++(⟨#[67,111,110,116,101,110,116,45,76,101,110,103,116,104,58,32]⟩:af))++aem).size+2<=9223372036854775807 then(if(((x3++(⟨#[67,111,110,116,101,110,116,45,76,101,110,103,116,104,58,32]⟩:af))++aem)++(⟨#[13,10]⟩:af)).size+2<=9223372036854775807 then(some ((((x3++(⟨#[67,111,110,116,101,110,116,45,76,101,110,103,116,104,58,32]⟩:af))++aem)++(⟨#[13,10]⟩:af))++(⟨#[13,10]⟩:af))) else(none)) else(none)) else(none))) else(none))) else(if Fa.toList=([]:aQ) then(if x3.size+2<=9223372036854775807 then(some (x3++(⟨#[13,10]⟩:af))) else(none)) else(if x3.size+16<=9223372036854775807 then((bI.f k (Fa.size:Int)).bind fun aen=>(if(x3++(⟨#[67,111,110,116,101,110,116,45,76,101,110,103,116,104,58,32]⟩:af)).size+aen.size<=9223372036854775807 then(if((x3++(⟨#[67,111,110,116,101,110,116,45,76,101,110,103,116,104,58,32]⟩:af))++aen).size+2<=9223372036854775807 then(if(((x3++(⟨#[67,111,110,116,101,110,116,45,76,101,110,103,116,104,58,32]⟩:af))++aen)++(⟨#[13,10]⟩:af)).size+2<=9223372036854775807 then(some ((((x3++(⟨#[67,111,110,116,101,110,116,45,76,101,110,103,116,104,58,32]⟩:af))++aen)++(⟨#[13,10]⟩:af))++(⟨#[13,10]⟩:af))) else(none)) else(none)) else(none))) else(none))))
end
def bW.f (k:Nat) (ak:ByteArray) (au:ByteArray) (az:Int) (aJ:ByteArray) (aD:Bool) (bZ:List (lq)) (bF:ByteArray):Option (ByteArray):=if ak.size+1<=9223372036854775807 then(if(ak++(⟨#[32]⟩:af)).size+au.size<=9223372036854775807 then(if((ak++(⟨#[32]⟩:af))++au).size+11<=9223372036854775807 then(if ak.toList=([]:aQ) then((bI.f k az).bind fun Yr=>(if 9+Yr.size<=9223372036854775807 then(if((⟨#[72,84,84,80,47,49,46,49,32]⟩:af)++Yr).size+1<=9223372036854775807 then(if(((⟨#[72,84,84,80,47,49,46,49,32]⟩:af)++Yr)++(⟨#[32]⟩:af)).size+aJ.size<=9223372036854775807 then(if((((⟨#[72,84,84,80,47,49,46,49,32]⟩:af)++Yr)++(⟨#[32]⟩:af))++aJ).size+2<=9223372036854775807 then(bW.j0 k (((((⟨#[72,84,84,80,47,49,46,49,32]⟩:af)++Yr)++(⟨#[32]⟩:af))++aJ)++(⟨#[13,10]⟩:af)) ak au az aJ aD bZ bF) else(none)) else(none)) else(none)) else(none))) else(bW.j0 k (((ak++(⟨#[32]⟩:af))++au)++(⟨#[32,72,84,84,80,47,49,46,49,13,10]⟩:af)) ak au az aJ aD bZ bF)) else(none)) else(none)) else(none)
def bW.T3 : Bool×List (List Nat×List Nat):=(true,[([],[]),([0],[0]),([1],[1]),([2],[2]),([3],[3]),([],[]),([5],[5]),([4,6],[4,6]),([7],[7]),([8,2,0,1,2,3,4,5,6,7,8],[8])])
def bW.B3 : List Nat:=[0,1,3,7,15,0,32,127,255,511]
theorem bW.aaU : nL .any (opsOf Tryz.f62 3)=bW.T3:=by kernel_rfl
theorem bW.PV : jf bW.T3.2 bW.B3=true:=by kernel_rfl
theorem bW.e0 {p:Prop} (h:p:=by
  obtain rfl:=aI H
  have _:=mI wK
  have _:=nV wK
  go_wp2
  go_ret
  exact⟨jv,aX⟩):p:=h
theorem bW.e1 {p:Prop} (h:p:=by
  obtain rfl:=aI H
  have _:=mI wK
  have _:=nV wK
  go_wp2_with(first|((with_reducible refine cZ 102 rfl ?_);refine iW 63 rfl Tryz.func102 (bI.calls k2 (bF.size:Int) aen _ A38.out) fun uo hb HB=>?_;replace wK:=eF (g:=BM) hb;clear hb)|((with_reducible refine cZ 102 rfl ?_);refine iW 63 rfl Tryz.func102 (bI.calls k2 (bF.size:Int) aem _ A28.out) fun wS hb HB=>?_;replace wK:=eF (g:=BM) hb;clear hb))
  go_ret
  exact⟨jv,aX⟩):p:=h
theorem bW.calls (k:Nat) (ak au:ByteArray) (az:Int) (aJ:ByteArray) (aD:Bool) (o8:Option Addr) (o9:Nat) (bZ:List (lq)) (bF r:ByteArray) (w:World) (qY:Kd.C wQ w o8 bZ.length bZ) (qZ:bZ.length<=o9) (h:bW.f k ak au az aJ aD bZ bF=some r) :
  Calls Tryz.prog 62 #[.agg #[.string ak,.string au,.int .i64 az,.string aJ,.bool aD,.slice o8 bZ.length o9,.string bF]] w fun e w'=>e = .returned (.string r)/\Below w.heap.size w w':=by
 have QM:=Tryz.underlying31;have Oh:=Tryz.underlying72;have DN:=aa.mk qY;have oh:=aa.mk qZ;clear qY qZ;have HB:=aa.mk (Below.refl w.heap.size w);have H:=h;clear h;unfold bW.f at H;replace H:=gI H;rcases H with⟨c2,nD,jc,H⟩|⟨c2,-,-,H⟩
 ·try have agP:=eq_false (Nat.not_lt.2 c2)
  replace H:=gN H;obtain⟨c3,nE,cB,H⟩:=H;try have Mv:=eq_false (Nat.not_lt.2 c3)
  try(have aaN:=c3;simp only[ByteArray.size_append,si,List.length_cons,List.length_nil,Nat.zero_add,Nat.reduceAdd] at aaN;replace aaN:=eq_false (Nat.not_lt.2 aaN))
  replace H:=gN H;obtain⟨c4,qy,jr,H⟩:=H;try have WU:=eq_false (Nat.not_lt.2 c4)
  try(have GG:=c4;simp only[ByteArray.size_append,si,List.length_cons,List.length_nil,Nat.zero_add,Nat.reduceAdd] at GG;replace GG:=eq_false (Nat.not_lt.2 GG))
  have HC5:=aa.mk H;clear H;go_enter Tryz.func62,Tryz.ntmps62;go_upto_if 14 with(first|((with_reducible refine lT 1 rfl ?_);refine jL #[.string ak,.string au,.int .i64 az,.string aJ,.bool aD,.slice o8 bZ.length o9,.string bF] 31 ?_;intro BM hg w6 hbox hb;have kR:=fw hb;have lF:=aa.mk (hbox);have uy:=lJ hg;have OD:=lJ hg;clear HB;have HB:=kR;have wK:=lF;have aEr:=uy;have aEs:=OD;clear kR lF uy OD;clear hb hbox hg;have _:=mI wK;have _:=nV wK));(try simp only[Act.put,List.setIfInBounds_toArray,List.set_cons_zero,List.set_cons_succ])
  go_cut [3] (fun v3 wc=>∃(kq:Nat) (am6:ByteArray),v3 = .string am6/\aa (bW.j0 kq am6 ak au az aJ aD bZ bF=some r)/\aa (kq<=k)/\aa (wc.heap[BM]? = some (.cells #[.string ak,.string au,.int .i64 az,.string aJ,.bool aD,(.slice o8 bZ.length o9),.string bF] 31 (0,0)))/\aa (Below w.heap.size w wc))
  case first=>
   have H:=HC5.out;clear HC5;replace H:=gI H;rcases H with⟨c8,-,-,H⟩|⟨c8,-,-,H⟩
   ·have mU:(ak.toList==([]:aQ))=true:=beq_iff_eq.mpr c8;have Z5:ak.toList.isEmpty=true:=List.isEmpty_iff.mpr c8;have za:(ak.toList != ([]:aQ))=false:=bne_eq_false_iff_eq.mpr c8;clear c8;(first|rw[mU]|rw[Z5]|(simp only[dU,fK];rw[mU])|skip)
    replace H:=gD H;obtain⟨Yr,A9,H⟩:=H;replace H:=gN H;obtain⟨c10,Aw,pX,H⟩:=H;try have aoR:=eq_false (Nat.not_lt.2 c10)
    replace H:=gN H;obtain⟨c11,Aq,oV,H⟩:=H;try have ahd:=eq_false (Nat.not_lt.2 c11)
    try(have LD:=c11;simp only[ByteArray.size_append,si,List.length_cons,List.length_nil,Nat.zero_add,Nat.reduceAdd] at LD;replace LD:=eq_false (Nat.not_lt.2 LD))
    replace H:=gN H;obtain⟨c12,yH,nS,H⟩:=H;try have aoW:=eq_false (Nat.not_lt.2 c12)
    try(have aiW:=c12;simp only[ByteArray.size_append,si,List.length_cons,List.length_nil,Nat.zero_add,Nat.reduceAdd] at aiW;replace aiW:=eq_false (Nat.not_lt.2 aiW))
    replace H:=gN H;obtain⟨c13,wo,qG,H⟩:=H;try have ab1:=eq_false (Nat.not_lt.2 c13)
    try(have Bv:=c13;simp only[ByteArray.size_append,si,List.length_cons,List.length_nil,Nat.zero_add,Nat.reduceAdd] at Bv;replace Bv:=eq_false (Nat.not_lt.2 Bv))
    replace H:=aa.mk H;try go_wp2
    replace wK:=aa.mk (eu wK.out);replace HB:=aa.mk (bE HB.out);refine jP (n:=10) (S:=fun w'=>w'.cell? ⟨BM,0,none⟩=some (.string ak)/\w'.cell? ⟨BM,1,none⟩=some (.string au)/\w'.cell? ⟨BM,2,none⟩=some (.int .i64 az)/\w'.cell? ⟨BM,3,none⟩=some (.string aJ)/\w'.cell? ⟨BM,4,none⟩=some (.bool aD)/\w'.cell? ⟨BM,5,none⟩=some (.slice o8 bZ.length o9)/\w'.cell? ⟨BM,6,none⟩=some (.string bF)) (ds:=[]) (mI wK) (fun hHeld=>?_);refine dw bW.aaU bW.PV (fun HT_ HW_=>?_);generalize w6.drew=gG at wK HB hHeld ⊢;repeat(first|refine lC ?_ (hy:=Or.inl ⟨by rfl,by rintro w' ⟨s0,s1,s2,s3,s4,s5,s6⟩;go_simp;with_reducible rfl⟩)|refine dA ?_)
    refine bq 5 (some 20) ?_;refine fB 6 (some 21) (hy:=Or.inl ⟨by rfl,by rintro w' ⟨s0,s1,s2,s3,s4,s5,s6⟩;go_simp;with_reducible rfl⟩) ?_;refine fG (fun K hK=>?_);refine EY Tryz.func102 (bI.calls k az Yr _ A9.out) fun jH hb=>?_;replace wK:=eF (g:=BM) hb;replace HB:=fw hb;(try clear hb)
    refine hK.out _ _ (mI wK) (fun hHeld=>?_);clear hK K;refine bY ?_;repeat(first|refine dA ?_)
    refine kI (fP HT_.out dK) ?_;try go_wp2
    go_meet
    case rel=>exact⟨_,(((((⟨#[72,84,84,80,47,49,46,49,32]⟩:af)++Yr)++(⟨#[32]⟩:af))++aJ)++(⟨#[13,10]⟩:af)),bR,H,⟨tT⟩,⟨oQ⟩,⟨aX⟩⟩
   ·have mU:(ak.toList==([]:aQ))=false:=beq_eq_false_iff_ne.mpr c8;have Z5:ak.toList.isEmpty=false:=Bool.eq_false_iff.mpr (fun h_=>c8 (List.isEmpty_iff.mp h_));have za:(ak.toList != ([]:aQ))=true:=bne_iff_ne.mpr c8;(first|rw[mU]|rw[Z5]|(simp only[dU,fK];rw[mU])|skip)
    replace H:=aa.mk H;go_wp2;go_meet
    case rel=>exact⟨_,(((ak++(⟨#[32]⟩:af))++au)++(⟨#[32,72,84,84,80,47,49,46,49,13,10]⟩:af)),bR,H,⟨tT⟩,⟨oQ⟩,⟨aX⟩⟩
  case rest=>
   clear HC5;try clear c2
   try clear jc
   try clear nD
   try clear agP
   try clear c3
   try clear cB
   try clear nE
   try clear Mv
   try clear c4
   try clear jr
   try clear qy
   try clear WU
   obtain⟨kq,am6,rfl,HA,HJ4,wK,HB⟩:=hcut;cases kq with
   |zero=>exact absurd HA.out (by simp[bW.j0])
   |succ kj4=>
    have H:=HA.out;clear HA;simp only[bW.j0] at H;replace H:=aa.mk H;go_wp2;go_loopg [3,4] kj4 (fun kq v3 v4 w'=>∃(lZ:ByteArray) (iG:Int),v3 = .string lZ/\v4 = .int .i64 iG/\aa (bW.l0 kq lZ iG ak au az aJ aD bZ bF=some r)/\aa (kq<=kj4)/\aa (w'.heap[BM]? = some (.cells #[.string ak,.string au,.int .i64 az,.string aJ,.bool aD,(.slice o8 bZ.length o9),.string bF] 31 (0,0)))/\aa (Below w.heap.size w w'))
    case atStart=>exact⟨(am6),(0),bR,bR,H,⟨Nat.le_refl _⟩,⟨oQ⟩,⟨aX⟩⟩
    case round=>
     clear H;try clear c2
     try clear jc
     try clear nD
     try clear agP
     try clear c3
     try clear cB
     try clear nE
     try clear Mv
     try clear c4
     try clear jr
     try clear qy
     try clear WU
     obtain⟨lZ,iG,rfl,rfl,HA,tO,wK,HB⟩:=hrel;cases gk with
     |zero=>exact absurd HA.out (by simp[bW.l0])
     |succ k2=>
      have H:=HA.out;clear HA;simp only[bW.l0] at H;replace H:=gI H;rcases H with⟨-,sS,-,H⟩|⟨-,sS,-,H⟩
      ·replace H:=gN H;obtain⟨-,sP,-,H⟩:=H;replace H:=gD H;obtain⟨ael,ZV,H⟩:=H;replace H:=gN H;obtain⟨c19,Eh,yG,H⟩:=H;try have aoC:=eq_false (Nat.not_lt.2 c19)
       replace H:=gN H;obtain⟨c20,Dl,uu,H⟩:=H;try have Xt:=eq_false (Nat.not_lt.2 c20)
       try(have xS:=c20;simp only[ByteArray.size_append,si,List.length_cons,List.length_nil,Nat.zero_add,Nat.reduceAdd] at xS;replace xS:=eq_false (Nat.not_lt.2 xS))
       replace H:=aa.mk H;have _:=mI wK;have _:=nV wK;have arW:0<=(iG:Int):=ay bM;have arX:iG<(bZ.length:Int):=ay bM;obtain⟨aEt,aA8,UU,UW⟩:=sK DN.out iG arW arX;cases aA8
       replace UU:=(HB.out.cell (World.block_lt_of_cell? w _ UU)).trans UU;replace UW:=(HB.out.cell (World.block_lt_of_cell? w _ UW)).trans UW;replace arW:=eq_true arW;replace arX:=eq_true arX;go_wp2_with(((with_reducible refine cZ 103 rfl ?_);refine iW 37 rfl Tryz.func103 (lH.calls k2 ((aV bZ iG).f0) ((aV bZ iG).f1) ael _ ZV.out) fun mP hb HB=>?_;replace wK:=eF (g:=BM) hb;clear hb));go_roundg k2
       case measure=>have:=HJ4.out;have:=tO.out;omega
       case rel=>exact⟨((lZ++ael)++(⟨#[13,10]⟩:af)),(wrap64 (iG+1)),bR,bR,H,⟨by have:=HJ4.out;have:=tO.out;omega⟩,⟨oQ⟩,⟨aX⟩⟩
      ·replace H:=gI H;rcases H with⟨c23,-,-,H⟩|⟨c23,-,-,H⟩
       ·obtain⟨Le,Sr⟩:=kT c23;clear c23;replace H:=gB H;rcases H with⟨rfl,H⟩|⟨rfl,H⟩
        ·replace H:=gN H;obtain⟨SA,O7,wz,H⟩:=H;try have ahe:=eq_false (Nat.not_lt.2 SA)
         exact bW.e0
        ·replace H:=gN H;obtain⟨YZ,ab3,IW,H⟩:=H;try have ahk:=eq_false (Nat.not_lt.2 YZ)
         replace H:=gD H;obtain⟨aem,A28,H⟩:=H;replace H:=gN H;obtain⟨Sg,IV,IU,H⟩:=H;try have avi:=eq_false (Nat.not_lt.2 Sg)
         try(have Lv:=Sg;simp only[ByteArray.size_append,si,List.length_cons,List.length_nil,Nat.zero_add,Nat.reduceAdd] at Lv;replace Lv:=eq_false (Nat.not_lt.2 Lv))
         replace H:=gN H;obtain⟨QT,Lh,IY,H⟩:=H;try have awh:=eq_false (Nat.not_lt.2 QT)
         try(have LJ:=QT;simp only[ByteArray.size_append,si,List.length_cons,List.length_nil,Nat.zero_add,Nat.reduceAdd] at LJ;replace LJ:=eq_false (Nat.not_lt.2 LJ))
         replace H:=gN H;obtain⟨c31,avj,agF,H⟩:=H;try have avk:=eq_false (Nat.not_lt.2 c31)
         try(have Lx:=c31;simp only[ByteArray.size_append,si,List.length_cons,List.length_nil,Nat.zero_add,Nat.reduceAdd] at Lx;replace Lx:=eq_false (Nat.not_lt.2 Lx))
         exact bW.e1
       ·obtain⟨Le,Sr⟩:=kU c23;replace H:=gI H;rcases H with⟨c34,-,-,H⟩|⟨c34,-,-,H⟩
        ·obtain⟨XD,XC⟩:=kT c34;clear c34;replace H:=gN H;obtain⟨c35,Wn,Wm,H⟩:=H;try have aup:=eq_false (Nat.not_lt.2 c35)
         exact bW.e0
        ·obtain⟨XD,XC⟩:=kU c34;replace H:=gN H;obtain⟨c37,abI,Xk,H⟩:=H;try have aEu:=eq_false (Nat.not_lt.2 c37)
         replace H:=gD H;obtain⟨aen,A38,H⟩:=H;replace H:=gN H;obtain⟨MG,FQ,Dn,H⟩:=H;try have aEv:=eq_false (Nat.not_lt.2 MG)
         try(have aiX:=MG;simp only[ByteArray.size_append,si,List.length_cons,List.length_nil,Nat.zero_add,Nat.reduceAdd] at aiX;replace aiX:=eq_false (Nat.not_lt.2 aiX))
         replace H:=gN H;obtain⟨c40,awH,awI,H⟩:=H;try have aEw:=eq_false (Nat.not_lt.2 c40)
         try(have aiY:=c40;simp only[ByteArray.size_append,si,List.length_cons,List.length_nil,Nat.zero_add,Nat.reduceAdd] at aiY;replace aiY:=eq_false (Nat.not_lt.2 aiY))
         replace H:=gN H;obtain⟨c41,awJ,aol,H⟩:=H;try have aEx:=eq_false (Nat.not_lt.2 c41)
         try(have aiZ:=c41;simp only[ByteArray.size_append,si,List.length_cons,List.length_nil,Nat.zero_add,Nat.reduceAdd] at aiZ;replace aiZ:=eq_false (Nat.not_lt.2 aiZ))
         exact bW.e1
 ·exact absurd H (by simp)


def iI.f (k:Nat) (ak:ByteArray) (au:ByteArray) (az:Int) (aJ:ByteArray) (aD:Bool) (bZ:List (lq)) (bF:ByteArray):Option (Bool):=if(ak.size:Int)<=20 then((eU.f k ak).bind fun aA9=>(if aA9=true then(if(au.size:Int)<=200 then((df.f k au).bind fun aBa=>(if aBa=true then(if az=0 then(if aJ.toList=([]:aQ) then(some (!aD)) else(some false)) else(some false)) else(some false))) else(some false)) else(some false))) else(some false)
theorem iI.e0 {p:Prop} (h:p:=by
  obtain rfl:=aI H.out
  go_enter Tryz.func60,Tryz.ntmps60
  go_wp2_with(first|((with_reducible refine lT 1 rfl ?_);refine yM #[.string ak,.string au,.int .i64 az,.string aJ,.bool aD,.slice o8 bZ.length o9,.string bF] 31 ?_;intro aEy hg gG hbox hb;have apb:=aa.mk (hbox);have aEz:=lJ hg;replace HB:=fw hb;clear hb hbox hg;have _:=mI apb;have _:=nV apb)|(go_at_call 97;(with_reducible refine(eU.calls k ak false _ A3.out).mono ?_);rintro e w' ⟨rfl,⟨nd,rfl⟩⟩)|(go_at_call 97;(with_reducible refine(eU.calls k ak true _ A3.out).mono ?_);rintro e w' ⟨rfl,⟨nd,rfl⟩⟩)|(go_at_call 100;(with_reducible refine(df.calls k au false _ A6.out).mono ?_);rintro e w' ⟨rfl,⟨nd,rfl⟩⟩)|(go_at_call 100;(with_reducible refine(df.calls k au true _ A6.out).mono ?_);rintro e w' ⟨rfl,⟨nd,rfl⟩⟩))
  go_ret
  exact⟨jv,aX⟩):p:=h
theorem iI.calls (k:Nat) (ak au:ByteArray) (az:Int) (aJ:ByteArray) (aD:Bool) (o8:Option Addr) (o9:Nat) (bZ:List (lq)) (bF:ByteArray) (r:Bool) (w:World) (qY:Kd.C wQ w o8 bZ.length bZ) (qZ:bZ.length<=o9) (h:iI.f k ak au az aJ aD bZ bF=some r) :
  Calls Tryz.prog 60 #[.agg #[.string ak,.string au,.int .i64 az,.string aJ,.bool aD,.slice o8 bZ.length o9,.string bF]] w fun e w'=>e = .returned (.bool r)/\Below w.heap.size w w':=by
 have QM:=Tryz.underlying31;have DN:=aa.mk qY;have oh:=aa.mk qZ;clear qY qZ;have HB:=aa.mk (Below.refl w.heap.size w);have H:=aa.mk h;clear h;unfold iI.f at H;rcases jw H with⟨c2,jc,-,H⟩|⟨c2,jc,-,H⟩
 ·have nD:decide (ak.size<=20)=true:=bK ae;clear c2;rcases lu H with⟨A3,H⟩|⟨A3,H⟩
  ·rcases jw H with⟨c5,jV,-,H⟩|⟨c5,jV,-,H⟩
   ·have rO:decide (au.size<=200)=true:=bK ae;clear c5;rcases lu H with⟨A6,H⟩|⟨A6,H⟩
    ·rcases jw H with⟨c8,-,-,H⟩|⟨c8,-,-,H⟩
     ·obtain⟨mU,za⟩:=kT c8;clear c8;rcases jw H with⟨c9,-,-,H⟩|⟨c9,-,-,H⟩
      ·obtain⟨pg,xy⟩:=kT c9;clear c9;exact iI.e0
      ·obtain⟨pg,xy⟩:=kU c9;exact iI.e0
     ·obtain⟨mU,za⟩:=kU c8;exact iI.e0
    ·exact iI.e0
   ·have rO:decide (au.size<=200)=false:=bQ ae;clear c5;exact iI.e0
  ·exact iI.e0
 ·have nD:decide (ak.size<=20)=false:=bQ ae;clear c2;exact iI.e0


def fV.j0 : Nat->Bool->ByteArray->ByteArray->Int->ByteArray->Bool->List (lq)->ByteArray->Option (Bool)
 |0,_,_,_,_,_,_,_,_=>none
 |k+1,x23,JC,Nl,Nn,Np,Nq,Nr,Ns=>if x23=true then(some false) else(if JC.toList=([]:aQ) then((iO.f k JC Nl Nn Np Nq Nr Ns).bind fun aBb=>(if aBb=true then((bW.f k JC Nl Nn Np Nq Nr Ns).bind fun arY=>(some (decide ((arY.size:Int)<=1500)))) else(some false))) else((iI.f k JC Nl Nn Np Nq Nr Ns).bind fun aBc=>(if aBc=true then((bW.f k JC Nl Nn Np Nq Nr Ns).bind fun arZ=>(some (decide ((arZ.size:Int)<=1500)))) else(some false))))
def fV.f (k:Nat) (ak:ByteArray) (au:ByteArray) (az:Int) (aJ:ByteArray) (aD:Bool) (bZ:List (lq)) (bF:ByteArray):Option (Bool):=(fe.f k bZ).bind fun aBd=>(if aBd=true then(if(bZ.length:Int)=20 then(fV.j0 k true ak au az aJ aD bZ bF) else((fZ.f k bZ).bind fun aBe=>(if aBe=true then(fV.j0 k true ak au az aJ aD bZ bF) else(fV.j0 k (decide ((bF.size:Int)>600)) ak au az aJ aD bZ bF)))) else(fV.j0 k true ak au az aJ aD bZ bF))
theorem fV.e0 {p:Prop} (h:p:=by
  replace H:=aa.mk H
  have _:=mI qJ
  have _:=nV qJ
  go_wp2_with(first|((with_reducible refine cZ 32 rfl ?_);refine iW 5 rfl Tryz.func32 (fe.calls k _ _ bZ false _ zs0 oh.out A4.out) fun wS hb HB=>?_;replace qJ:=eF (g:=Dw) hb;clear hb)|((with_reducible refine cZ 32 rfl ?_);refine iW 5 rfl Tryz.func32 (fe.calls k _ _ bZ true _ zs0 oh.out A4.out) fun gG hb HB=>?_;replace qJ:=eF (g:=Dw) hb;clear hb;have _:=mI qJ;have _:=nV qJ)|(go_at_call 59;(with_reducible refine(fZ.calls k _ _ bZ true _ ?nG ?nH JQ.out).mono ?_);(case nG=>exact zs0);(case nH=>exact oh.out);rintro e jH ⟨rfl,hb⟩;replace qJ:=eF (g:=Dw) hb;replace HB:=fw hb;clear hb))
  go_meet
  case rel=>exact⟨_,(true),bR,H,⟨tT⟩,⟨oQ⟩,⟨aX⟩⟩):p:=h
theorem fV.e1 {p:Prop} (h:p:=by
  obtain rfl:=aI H
  have _:=mI qJ
  have _:=nV qJ
  go_wp2_with(first|(go_at_call 60;(with_reducible refine(iI.calls oz ak au az aJ aD _ _ bZ bF false _ ?nG ?nH YY.out).mono ?_);(case nG=>exact zs0);(case nH=>exact oh.out);rintro e VR ⟨rfl,hb⟩;replace qJ:=eF (g:=Dw) hb;replace HB:=fw hb;clear hb)|(go_at_call 60;(with_reducible refine(iI.calls oz ak au az aJ aD _ _ bZ bF true _ ?nG ?nH YY.out).mono ?_);(case nG=>exact zs0);(case nH=>exact oh.out);rintro e Kb ⟨rfl,hb⟩;replace qJ:=eF (g:=Dw) hb;replace HB:=fw hb;clear hb;have _:=mI qJ;have _:=nV qJ)|((with_reducible refine cZ 62 rfl ?_);refine iW 43 rfl Tryz.func62 (bW.calls oz ak au az aJ aD _ _ bZ bF arZ _ zs0 oh.out A36.out) fun ZF hb HB=>?_;replace qJ:=eF (g:=Dw) hb;clear hb)|(go_at_call 61;(with_reducible refine(iO.calls oz ak au az aJ aD _ _ bZ bF false _ ?nG ?nH UD.out).mono ?_);(case nG=>exact zs0);(case nH=>exact oh.out);rintro e Cu ⟨rfl,hb⟩;replace qJ:=eF (g:=Dw) hb;replace HB:=fw hb;clear hb)|(go_at_call 61;(with_reducible refine(iO.calls oz ak au az aJ aD _ _ bZ bF true _ ?nG ?nH UD.out).mono ?_);(case nG=>exact zs0);(case nH=>exact oh.out);rintro e uo ⟨rfl,hb⟩;replace qJ:=eF (g:=Dw) hb;replace HB:=fw hb;clear hb;have _:=mI qJ;have _:=nV qJ)|((with_reducible refine cZ 62 rfl ?_);refine iW 43 rfl Tryz.func62 (bW.calls oz ak au az aJ aD _ _ bZ bF arY _ zs0 oh.out A27.out) fun Af hb HB=>?_;replace qJ:=eF (g:=Dw) hb;clear hb))
  go_ret
  exact⟨jv,aX⟩):p:=h
theorem fV.calls (k:Nat) (ak au:ByteArray) (az:Int) (aJ:ByteArray) (aD:Bool) (o8:Option Addr) (o9:Nat) (bZ:List (lq)) (bF:ByteArray) (r:Bool) (w:World) (qY:Kd.C wQ w o8 bZ.length bZ) (qZ:bZ.length<=o9) (h:fV.f k ak au az aJ aD bZ bF=some r) :
  Calls Tryz.prog 33 #[.agg #[.string ak,.string au,.int .i64 az,.string aJ,.bool aD,.slice o8 bZ.length o9,.string bF]] w fun e w'=>e = .returned (.bool r)/\Below w.heap.size w w':=by
 have QM:=Tryz.underlying31;have DN:=aa.mk qY;have oh:=aa.mk qZ;clear qY qZ;have HB:=aa.mk (Below.refl w.heap.size w);have H:=h;clear h;unfold fV.f at H;have qz:=aa.mk H;clear H;go_enter Tryz.func33,Tryz.ntmps33;go_upto_region 1 with(first|((with_reducible refine lT 1 rfl ?_);refine yM #[.string ak,.string au,.int .i64 az,.string aJ,.bool aD,.slice o8 bZ.length o9,.string bF] 31 ?_;intro Dw hg w3 hbox hb;have qJ:=aa.mk (hbox);have aEA:=lJ hg;replace HB:=fw hb;clear hb hbox hg));(try simp only[Act.put,List.setIfInBounds_toArray,List.set_cons_zero,List.set_cons_succ])
 go_cut [23] (fun v23 wc=>∃(kq:Nat) (ai0:Bool),v23 = .bool ai0/\aa (fV.j0 kq ai0 ak au az aJ aD bZ bF=some r)/\aa (kq<=k)/\aa (wc.heap[Dw]? = some (.cells #[.string ak,.string au,.int .i64 az,.string aJ,.bool aD,(.slice o8 bZ.length o9),.string bF] 31 (0,0)))/\aa (Below w.heap.size w wc))
 case first=>
  have H:=qz.out;clear qz;replace H:=xE H;rcases H with⟨A4,H⟩|⟨A4,H⟩
  ·replace H:=gI H;rcases H with⟨c6,-,-,H⟩|⟨c6,-,-,H⟩
   ·obtain⟨jy,pq⟩:=kT c6;clear c6;(first|rw[jy]|(simp only[dU,fK];rw[jy])|skip)
    exact fV.e0
   ·obtain⟨jy,pq⟩:=kU c6;(first|rw[jy]|(simp only[dU,fK];rw[jy])|skip)
    replace H:=xE H;rcases H with⟨JQ,H⟩|⟨JQ,H⟩
    ·exact fV.e0
    ·replace H:=aa.mk H;have _:=mI qJ;have _:=nV qJ;go_wp2_with(first|((with_reducible refine cZ 32 rfl ?_);refine iW 5 rfl Tryz.func32 (fe.calls k _ _ bZ true _ zs0 oh.out A4.out) fun gG hb HB=>?_;replace qJ:=eF (g:=Dw) hb;clear hb;have _:=mI qJ;have _:=nV qJ)|(go_at_call 59;(with_reducible refine(fZ.calls k _ _ bZ false _ ?nG ?nH JQ.out).mono ?_);(case nG=>exact zs0);(case nH=>exact oh.out);rintro e mP ⟨rfl,hb⟩;replace qJ:=eF (g:=Dw) hb;replace HB:=fw hb;clear hb;have _:=mI qJ;have _:=nV qJ));go_meet
     case rel=>exact⟨_,(decide ((bF.size:Int)>600)),bR,H,⟨tT⟩,⟨oQ⟩,⟨aX⟩⟩
  ·exact fV.e0
 case rest=>
  clear qz;obtain⟨kq,ai0,rfl,HA,tC,qJ,HB⟩:=hcut;cases kq with
  |zero=>exact absurd HA.out (by simp[fV.j0])
  |succ oz=>
   have H:=HA.out;clear HA;simp only[fV.j0] at H;replace H:=gB H;rcases H with⟨rfl,H⟩|⟨rfl,H⟩
   ·obtain rfl:=aI H;go_wp2;go_ret;exact⟨jv,aX⟩
   ·replace H:=gI H;rcases H with⟨c24,-,-,H⟩|⟨c24,-,-,H⟩
    ·obtain⟨yI,IX⟩:=kT c24;clear c24;replace H:=xE H;rcases H with⟨UD,H⟩|⟨UD,H⟩
     ·replace H:=gD H;obtain⟨arY,A27,H⟩:=H;exact fV.e1
     ·exact fV.e1
    ·obtain⟨yI,IX⟩:=kU c24;replace H:=xE H;rcases H with⟨YY,H⟩|⟨YY,H⟩
     ·replace H:=gD H;obtain⟨arZ,A36,H⟩:=H;exact fV.e1
     ·exact fV.e1


def iZ.f (k:Nat) (a0:Int):Option (Bool):=(jk.f a0).bind fun t227=>(if t227>=97 then(if t227<=122 then(some true) else((bD.f a0).bind fun t228=>(if t228=true then(some true) else((fH.f k (⟨#[45,46,95,126]⟩:af) a0).bind fun t229=>(some t229))))) else((bD.f a0).bind fun t230=>(if t230=true then(some true) else((fH.f k (⟨#[45,46,95,126]⟩:af) a0).bind fun t231=>(some t231)))))
theorem iZ.mono : ∀ a0 k,xC (iZ.f k a0) (iZ.f (k+1) a0):=by
 intro a0 k
 unfold iZ.f
 repeat' first|(with_reducible first|exact fH.mono ..|exact xC.refl ..|exact xC.none ..|refine xC.ite ?_ ?_|refine xC.bind ?_ (fun _=>?_))
theorem iZ.e0 {p:Prop} (h:p:=by
  obtain rfl:=aI H.out
  go_enter Tryz.func212,Tryz.ntmps212
  go_wp2_with(first|((with_reducible refine cZ 125 rfl ?_);refine mM 5 rfl Tryz.func125 (jk.calls a0 t227 _ A2.out) fun nd=>?_)|(go_at_call 77;(with_reducible refine(bD.calls a0 false _ A8.out).mono ?_);rintro e w' ⟨rfl,⟨nd,rfl⟩⟩)|(go_at_call 186;(with_reducible refine(fH.calls k (⟨#[45,46,95,126]⟩:af) a0 t231 _ JQ.out).mono ?_);rintro e w' ⟨rfl,⟨nd,rfl⟩⟩)|(go_at_call 77;(with_reducible refine(bD.calls a0 true _ A8.out).mono ?_);rintro e w' ⟨rfl,⟨nd,rfl⟩⟩)|(go_at_call 77;(with_reducible refine(bD.calls a0 false _ A5.out).mono ?_);rintro e w' ⟨rfl,⟨nd,rfl⟩⟩)|(go_at_call 186;(with_reducible refine(fH.calls k (⟨#[45,46,95,126]⟩:af) a0 t229 _ A7.out).mono ?_);rintro e w' ⟨rfl,⟨nd,rfl⟩⟩)|(go_at_call 77;(with_reducible refine(bD.calls a0 true _ A5.out).mono ?_);rintro e w' ⟨rfl,⟨nd,rfl⟩⟩))
  go_ret
  exact⟨bR,iL⟩):p:=h
theorem iZ.calls (k:Nat) (a0:Int) (r:Bool) (w:World) (h:iZ.f k a0=some r) :
  Calls Tryz.prog 212 #[.int .u8 a0] w fun e w'=>e = .returned (.bool r)/\bH w w':=by
 have H:=aa.mk h;clear h;unfold iZ.f at H;obtain⟨t227,A2,H⟩:=nP H;rcases jw H with⟨-,cB,-,H⟩|⟨-,cB,-,H⟩
 ·rcases jw H with⟨-,jr,-,H⟩|⟨-,jr,-,H⟩
  ·exact iZ.e0
  ·rcases lu H with⟨A5,H⟩|⟨A5,H⟩
   ·exact iZ.e0
   ·obtain⟨t229,A7,H⟩:=nP H;exact iZ.e0
 ·rcases lu H with⟨A8,H⟩|⟨A8,H⟩
  ·exact iZ.e0
  ·obtain⟨t231,JQ,H⟩:=nP H;exact iZ.e0

def nX.f (a0:Int):Option (Int):=if a0>=97 then(if a0<=122 then(some ((a0-32)%256)) else(some a0)) else(some a0)
theorem nX.calls (a0 r:Int) (w:World) (h:nX.f a0=some r) :
  Calls Tryz.prog 213 #[.int .u8 a0] w fun e w'=>e = .returned (.int .u8 r)/\bH w w':=by
 have H:=aa.mk h;clear h;unfold nX.f at H;rcases jw H with⟨-,jc,-,H⟩|⟨-,jc,-,H⟩
 ·rcases jw H with⟨-,cB,-,H⟩|⟨-,cB,-,H⟩
  ·obtain rfl:=aI H.out;go_enter Tryz.func213,Tryz.ntmps213;go_wp2;go_ret;exact⟨bR,iL⟩
  ·obtain rfl:=aI H.out;go_enter Tryz.func213,Tryz.ntmps213;go_wp2;go_ret;exact⟨bR,iL⟩
 ·obtain rfl:=aI H.out;go_enter Tryz.func213,Tryz.ntmps213;go_wp2;go_ret;exact⟨bR,iL⟩

end Go.Proofs.YtfhllanhldbkkaaGreatDoor.P
