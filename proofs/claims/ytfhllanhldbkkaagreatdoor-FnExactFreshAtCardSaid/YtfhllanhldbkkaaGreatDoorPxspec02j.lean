import Derived.Test.YtfhllanhldbkkaaGreatDoorPxspec02a
set_option maxHeartbeats 8000000
set_option maxRecDepth 100000
namespace Go.Proofs.YtfhllanhldbkkaaGreatDoor.P
open Go.RowKit Go.Proofs.YtfhllanhldbkkaaGreatDoorW.aW Go.Proofs.YtfhllanhldbkkaaGreatDoorW.eQ Go.Proofs.YtfhllanhldbkkaaGreatDoorW.fO
attribute [local go_sem] kV kW mE mF jP jQ kX kY dZ E8 E9 Fa Fb oU oV
set_option linter.unusedVariables false
set_option linter.unusedSimpArgs false

def dH.j0 : Nat->Int->ByteArray->Int->Int->Int->Int->Int->Int->Option (ByteArray)
 |0,_,_,_,_,_,_,_,_=>none
 |k+1,x0,x5,ab3,ab4,aku,akv,akw,akx=>(lK.f x0).bind fun afn=>((jZ.f afn).bind fun Af=>(if 0<=3 then(if 3<=(Af.size:Int) then(if(Af.extract 0 3).size+1<=9223372036854775807 then((iP.f ab4).bind fun DT=>(if((Af.extract 0 3)++(⟨#[32]⟩:af)).size+DT.size<=9223372036854775807 then(if(((Af.extract 0 3)++(⟨#[32]⟩:af))++DT).size+1<=9223372036854775807 then(if((((Af.extract 0 3)++(⟨#[32]⟩:af))++DT)++(⟨#[32]⟩:af)).size+x5.size<=9223372036854775807 then(if(((((Af.extract 0 3)++(⟨#[32]⟩:af))++DT)++(⟨#[32]⟩:af))++x5).size+1<=9223372036854775807 then((iy.f k ab3 ab4 aku akv akw akx).bind fun Qa=>(if((((((Af.extract 0 3)++(⟨#[32]⟩:af))++DT)++(⟨#[32]⟩:af))++x5)++(⟨#[32]⟩:af)).size+Qa.size<=9223372036854775807 then(if(((((((Af.extract 0 3)++(⟨#[32]⟩:af))++DT)++(⟨#[32]⟩:af))++x5)++(⟨#[32]⟩:af))++Qa).size+1<=9223372036854775807 then((eD.f k ab3 4).bind fun ab5=>(if((((((((Af.extract 0 3)++(⟨#[32]⟩:af))++DT)++(⟨#[32]⟩:af))++x5)++(⟨#[32]⟩:af))++Qa)++(⟨#[32]⟩:af)).size+ab5.size<=9223372036854775807 then(some (((((((((Af.extract 0 3)++(⟨#[32]⟩:af))++DT)++(⟨#[32]⟩:af))++x5)++(⟨#[32]⟩:af))++Qa)++(⟨#[32]⟩:af))++ab5)) else(none))) else(none)) else(none))) else(none)) else(none)) else(none)) else(none))) else(none)) else(none)) else(none)))
def dH.f (k:Nat) (a0:Int):Option (ByteArray):=(cO.f k a0).bind fun yN=>(if yN.2.2.2.2.2.2=true then((eD.f k yN.2.2.1 2).bind fun aky=>(if yN.2.2.1<10 then((bX.f k yN.2.2.1).bind fun aqU=>(if 1+aqU.size<=9223372036854775807 then(dH.j0 k a0 ((⟨#[32]⟩:af)++aqU) yN.1 yN.2.1 yN.2.2.1 yN.2.2.2.1 yN.2.2.2.2.1 yN.2.2.2.2.2.1) else(none))) else(dH.j0 k a0 aky yN.1 yN.2.1 yN.2.2.1 yN.2.2.2.1 yN.2.2.2.2.1 yN.2.2.2.2.2.1))) else(some (⟨#[]⟩:af)))
def dH.T7 : Bool×List (List Nat×List Nat):=(true,[([],[]),([0],[0]),([1,1],[1]),([2],[2]),([3],[3]),([],[]),([5],[5]),([6,2],[6]),([4,7],[4,7]),([8],[8]),([],[]),([9,10],[9,10]),([11],[11]),([],[]),([13,7],[13]),([12,14],[12,14]),([15],[15]),([],[]),([17],[17]),([18,14],[18]),([16,19],[16,19]),([20,19,0,1,2,3,4,5,6,7,8,9,10,11,12,13,14,15,16,17,18,19,20],[20])])
def dH.B7 : List Nat:=[0,1,3,7,15,0,32,103,255,511,0,2047,4095,0,8423,32767,65535,0,131072,418023,1048575,2097151]
theorem dH.agB : pX .any (opsOf Tryz.f118 7)=dH.T7:=by kernel_rfl
theorem dH.X5 : jK dH.T7.2 dH.B7=true:=by kernel_rfl
theorem dH.calls (k:Nat) (a0:Int) (r:ByteArray) (w:World) (h:dH.f k a0=some r) :
  Calls Tryz.prog 118 #[.int .i64 a0] w fun e w'=>e = .returned (.string r)/\Below w.heap.size w w':=by
 have FR:=Tryz.underlying117;have HB:=ae.mk (Below.refl w.heap.size w);have H:=h;clear h;unfold dH.f at H;replace H:=gD H;obtain⟨⟨VQ,VR,VS,Ye,Yf,Yg,aHd⟩,A2,H⟩:=H;dsimp only at H;replace H:=gB H;rcases H with⟨rfl,H⟩|⟨rfl,H⟩
 ·replace H:=gD H;obtain⟨aky,A4,H⟩:=H;have HC5:=ae.mk H;clear H;go_enter Tryz.func118,Tryz.ntmps118;go_upto_if 18 with(first|((with_reducible refine lS 161 rfl ?_);refine vI 8 rfl Tryz.func161 (cO.calls k a0 VQ VR VS Ye Yf Yg true _ A2.out) fun w6 hb _=>?_;have qb:=iC hb;clear HB;have HB:=qb;clear qb;(try clear hb))|((with_reducible refine vJ 3 rfl ?_);refine qo #[.int .i64 0,.int .i64 0,.int .i64 0,.int .i64 0,.int .i64 0,.int .i64 0] 117 ?_;intro H9 hg w7 hbox hb;have qb:=iC hb;have qU:=ae.mk (hbox);have I5:=rE hg;have UW:=rE hg;clear HB;have HB:=qb;have Ba:=qU;have aDC:=I5;have aDD:=UW;clear qb qU I5 UW;clear hb hbox hg;obtain⟨_,_,_,_,_,_⟩:=pY Ba;obtain⟨_,_,_,_,_,_⟩:=Le Ba)|((with_reducible refine lS 164 rfl ?_);refine vI 15 rfl Tryz.func164 (eD.calls k VS 2 aky _ A4.out) fun w9 hb _=>?_;have qb:=jr (g:=H9) (o:=.cells #[.int .i64 VQ,.int .i64 VR,.int .i64 VS,.int .i64 Ye,.int .i64 Yf,.int .i64 Yg] 117 (0,0)) hb;have qU:=iC hb;clear Ba;clear HB;have Ba:=qb;have HB:=qU;clear qb qU;(try clear hb);obtain⟨_,_,_,_,_,_⟩:=pY Ba;obtain⟨_,_,_,_,_,_⟩:=Le Ba));(try simp only[Act.put,List.setIfInBounds_toArray,List.set_cons_zero,List.set_cons_succ])
  go_cut [5] (fun v5 wc=>∃(kq:Nat) (ab6:ByteArray),v5 = .string ab6/\ae (dH.j0 kq a0 ab6 VQ VR VS Ye Yf Yg=some r)/\ae (kq<=k)/\ae (wc.heap[H9]? = some (.cells #[.int .i64 VQ,.int .i64 VR,.int .i64 VS,.int .i64 Ye,.int .i64 Yf,.int .i64 Yg] 117 (0,0)))/\ae (Below w.heap.size w wc))
  case first=>
   have H:=HC5;clear HC5;exact uW
  case rest=>
   clear HC5;obtain⟨kq,ab6,rfl,HA,HJ4,Ba,HB⟩:=hcut;cases kq with
   |zero=>exact absurd HA.out (by simp[dH.j0])
   |succ kj4=>
    have H:=HA.out;clear HA;simp only[dH.j0] at H;replace H:=gD H;obtain⟨afn,A16,H⟩:=H;replace H:=gD H;obtain⟨Af,ZZ,H⟩:=H;replace H:=gN H;obtain⟨-,akt,PM,H⟩:=H;replace H:=gN H;obtain⟨-,Py,KY,H⟩:=H;replace H:=gN H;obtain⟨c20,Nn,KZ,H⟩:=H;try have ae0:=eq_false (Nat.not_lt.2 c20)
    try have aww:(9223372036854775807<min 3 Af.size+1)=False:=by have h_:=ae0;simpa only[ByteArray.size_extract,Nat.sub_zero] using h_
    replace H:=gD H;obtain⟨DT,A21,H⟩:=H;replace H:=gN H;obtain⟨c22,XW,RU,H⟩:=H;try have aqk:=eq_false (Nat.not_lt.2 c22)
    try(have Ja:=c22;simp only[ByteArray.size_append,yP,List.length_cons,List.length_nil,Nat.zero_add,Nat.reduceAdd] at Ja;replace Ja:=eq_false (Nat.not_lt.2 Ja))
    try have aBL:(9223372036854775807<min 3 Af.size+1+DT.size)=False:=by have h_:=Ja;simpa only[ByteArray.size_extract,Nat.sub_zero] using h_
    replace H:=gN H;obtain⟨c23,aeH,XX,H⟩:=H;try have aql:=eq_false (Nat.not_lt.2 c23)
    try(have Jb:=c23;simp only[ByteArray.size_append,yP,List.length_cons,List.length_nil,Nat.zero_add,Nat.reduceAdd] at Jb;replace Jb:=eq_false (Nat.not_lt.2 Jb))
    try have aBM:(9223372036854775807<min 3 Af.size+1+DT.size+1)=False:=by have h_:=Jb;simpa only[ByteArray.size_extract,Nat.sub_zero] using h_
    replace H:=gN H;obtain⟨c24,Vp,GZ,H⟩:=H;try have aqp:=eq_false (Nat.not_lt.2 c24)
    try(have K5:=c24;simp only[ByteArray.size_append,yP,List.length_cons,List.length_nil,Nat.zero_add,Nat.reduceAdd] at K5;replace K5:=eq_false (Nat.not_lt.2 K5))
    try have aJo:(9223372036854775807<min 3 Af.size+1+DT.size+1+ab6.size)=False:=by have h_:=K5;simpa only[ByteArray.size_extract,Nat.sub_zero] using h_
    replace H:=gN H;obtain⟨Z4,X3,Ck,H⟩:=H;try have aqm:=eq_false (Nat.not_lt.2 Z4)
    try(have Jc:=Z4;simp only[ByteArray.size_append,yP,List.length_cons,List.length_nil,Nat.zero_add,Nat.reduceAdd] at Jc;replace Jc:=eq_false (Nat.not_lt.2 Jc))
    try have aBN:(9223372036854775807<min 3 Af.size+1+DT.size+1+ab6.size+1)=False:=by have h_:=Jc;simpa only[ByteArray.size_extract,Nat.sub_zero] using h_
    replace H:=gD H;obtain⟨Qa,A26,H⟩:=H;replace H:=gN H;obtain⟨c27,aiV,Sa,H⟩:=H;try have aqr:=eq_false (Nat.not_lt.2 c27)
    try(have Jd:=c27;simp only[ByteArray.size_append,yP,List.length_cons,List.length_nil,Nat.zero_add,Nat.reduceAdd] at Jd;replace Jd:=eq_false (Nat.not_lt.2 Jd))
    try have aBV:(9223372036854775807<min 3 Af.size+1+DT.size+1+ab6.size+1+Qa.size)=False:=by have h_:=Jd;simpa only[ByteArray.size_extract,Nat.sub_zero] using h_
    replace H:=gN H;obtain⟨c28,aqs,ae1,H⟩:=H;try have aqt:=eq_false (Nat.not_lt.2 c28)
    try(have Je:=c28;simp only[ByteArray.size_append,yP,List.length_cons,List.length_nil,Nat.zero_add,Nat.reduceAdd] at Je;replace Je:=eq_false (Nat.not_lt.2 Je))
    try have aBW:(9223372036854775807<min 3 Af.size+1+DT.size+1+ab6.size+1+Qa.size+1)=False:=by have h_:=Je;simpa only[ByteArray.size_extract,Nat.sub_zero] using h_
    replace H:=gD H;obtain⟨ab5,A29,H⟩:=H;replace H:=gN H;obtain⟨Z0,Vf,RY,H⟩:=H;try have aHe:=eq_false (Nat.not_lt.2 Z0)
    try(have afo:=Z0;simp only[ByteArray.size_append,yP,List.length_cons,List.length_nil,Nat.zero_add,Nat.reduceAdd] at afo;replace afo:=eq_false (Nat.not_lt.2 afo))
    try have aJp:(9223372036854775807<min 3 Af.size+1+DT.size+1+ab6.size+1+Qa.size+1+ab5.size)=False:=by have h_:=afo;simpa only[ByteArray.size_extract,Nat.sub_zero] using h_
    obtain rfl:=gK H;try go_wp2
    replace Ba:=ae.mk (dh Ba.out);replace HB:=ae.mk (bn HB.out);refine kJ (n:=22) (S:=fun w'=>w'.cell? ⟨H9,0,none⟩=some (.int .i64 VQ)/\w'.cell? ⟨H9,1,none⟩=some (.int .i64 VR)/\w'.cell? ⟨H9,2,none⟩=some (.int .i64 VS)/\w'.cell? ⟨H9,3,none⟩=some (.int .i64 Ye)/\w'.cell? ⟨H9,4,none⟩=some (.int .i64 Yf)/\w'.cell? ⟨H9,5,none⟩=some (.int .i64 Yg)) (ds:=[]) (pY Ba) (fun hHeld=>?_);refine dY dH.agB dH.X5 (fun HT_ HW_=>?_);generalize wc.drew=mV at Ba HB hHeld ⊢;repeat(first|refine ek ?_)
    refine bN 5 (some 28) ?_;refine fQ 6 (some 29) (hy:=Or.inl ⟨by rfl,YE⟩) ?_;refine bN 10 (some 33) ?_;refine fQ 13 (some 36) (hy:=Or.inl ⟨by rfl,YE⟩) ?_;refine bN 17 (some 40) ?_;refine fQ 18 (some 41) (hy:=Or.inl ⟨by rfl,YE⟩) ?_;refine gV (fun K hK=>?_);refine Iw Tryz.func163 (lK.calls a0 afn _ A16.out) fun nd=>?_;refine hK.out _ _ (pY Ba) (fun hHeld=>?_);clear hK K;refine dI ?_;refine gV (fun K hK=>?_);refine Iw Tryz.func162 (jZ.calls afn Af _ ZZ.out) fun nd=>?_;refine hK.out _ _ (pY Ba) (fun hHeld=>?_);clear hK K;refine dI ?_;repeat(first|refine ek ?_)
    refine gV (fun K hK=>?_);refine Iw Tryz.func160 (iP.calls VR DT _ A21.out) fun nd=>?_;refine hK.out _ _ (pY Ba) (fun hHeld=>?_);clear hK K;refine dI ?_;repeat(first|refine ek ?_)
    refine gV (fun K hK=>?_);refine EC Tryz.func165 (iy.calls kj4 VQ VR VS Ye Yf Yg Qa _ A26.out) fun tT hb=>?_;replace Ba:=jr (g:=H9) hb;replace HB:=iC hb;(try clear hb)
    refine hK.out _ _ (pY Ba) (fun hHeld=>?_);clear hK K;refine dI ?_;repeat(first|refine ek ?_)
    refine gV (fun K hK=>?_);refine EC Tryz.func164 (eD.calls kj4 VQ 4 ab5 _ A29.out) fun tT hb=>?_;replace Ba:=jr (g:=H9) hb;replace HB:=iC hb;(try clear hb)
    refine hK.out _ _ (pY Ba) (fun hHeld=>?_);clear hK K;refine dI ?_;repeat(first|refine ek ?_)
    refine lh (gP HT_.out eB) ?_;try go_wp2
    go_ret;exact⟨su,dL⟩
 ·replace H:=ae.mk H;exact uE
@[reducible,instance] def dH.c:=jM.of 0 Tryz.func118 @dH.calls


def dN.j0 : Nat->Int->Bool->Int->Int->Int->Int->Int->Int->Option (ByteArray)
 |0,_,_,_,_,_,_,_,_=>none
 |k+1,x0,x16,ab7,ab8,ab9,akz,akA,akB=>if x16=true then(some (⟨#[]⟩:af)) else((lK.f x0).bind fun afp=>((jZ.f afp).bind fun K9=>(if K9.size+2<=9223372036854775807 then((eD.f k ab9 2).bind fun Mm=>(if(K9++(⟨#[44,32]⟩:af)).size+Mm.size<=9223372036854775807 then(if((K9++(⟨#[44,32]⟩:af))++Mm).size+1<=9223372036854775807 then((iP.f ab8).bind fun Qb=>(if(((K9++(⟨#[44,32]⟩:af))++Mm)++(⟨#[45]⟩:af)).size+Qb.size<=9223372036854775807 then(if((((K9++(⟨#[44,32]⟩:af))++Mm)++(⟨#[45]⟩:af))++Qb).size+1<=9223372036854775807 then((eD.f k (Int.tmod ab7 100) 2).bind fun VT=>(if(((((K9++(⟨#[44,32]⟩:af))++Mm)++(⟨#[45]⟩:af))++Qb)++(⟨#[45]⟩:af)).size+VT.size<=9223372036854775807 then(if((((((K9++(⟨#[44,32]⟩:af))++Mm)++(⟨#[45]⟩:af))++Qb)++(⟨#[45]⟩:af))++VT).size+1<=9223372036854775807 then((iy.f k ab7 ab8 ab9 akz akA akB).bind fun aca=>(if(((((((K9++(⟨#[44,32]⟩:af))++Mm)++(⟨#[45]⟩:af))++Qb)++(⟨#[45]⟩:af))++VT)++(⟨#[32]⟩:af)).size+aca.size<=9223372036854775807 then(if((((((((K9++(⟨#[44,32]⟩:af))++Mm)++(⟨#[45]⟩:af))++Qb)++(⟨#[45]⟩:af))++VT)++(⟨#[32]⟩:af))++aca).size+4<=9223372036854775807 then(some (((((((((K9++(⟨#[44,32]⟩:af))++Mm)++(⟨#[45]⟩:af))++Qb)++(⟨#[45]⟩:af))++VT)++(⟨#[32]⟩:af))++aca)++(⟨#[32,71,77,84]⟩:af))) else(none)) else(none))) else(none)) else(none))) else(none)) else(none))) else(none)) else(none))) else(none))))
def dN.f (k:Nat) (a0:Int):Option (ByteArray):=(cO.f k a0).bind fun BO=>(if BO.2.2.2.2.2.2=true then(dN.j0 k a0 (decide (BO.1>2069)) BO.1 BO.2.1 BO.2.2.1 BO.2.2.2.1 BO.2.2.2.2.1 BO.2.2.2.2.2.1) else(dN.j0 k a0 true BO.1 BO.2.1 BO.2.2.1 BO.2.2.2.1 BO.2.2.2.2.1 BO.2.2.2.2.2.1))
def dN.T4 : Bool×List (List Nat×List Nat):=(true,[([],[]),([0],[0]),([1,1],[1]),([2],[2]),([],[]),([4],[4]),([5,2],[5]),([3,6],[3,6]),([7],[7]),([],[]),([9],[9]),([10,6],[10]),([8,11],[8,11]),([12],[12]),([],[]),([14],[14]),([15],[15]),([16,11],[16]),([13,17],[13,17]),([18],[18]),([],[]),([20,17],[20]),([19,21],[19,21]),([22],[22]),([23,21,0,1,2,3,4,5,6,7,8,9,10,11,12,13,14,15,16,17,18,19,20,21,22,23],[23])])
def dN.B4 : List Nat:=[0,1,3,7,0,16,55,127,255,0,512,1655,4095,8191,0,16384,49152,118391,262143,524287,0,1298039,4194303,8388607,16777215]
theorem dN.Y5 : pX .any (opsOf Tryz.f119 4)=dN.T4:=by kernel_rfl
theorem dN.Pw : jK dN.T4.2 dN.B4=true:=by kernel_rfl
theorem dN.calls (k:Nat) (a0:Int) (r:ByteArray) (w:World) (h:dN.f k a0=some r) :
  Calls Tryz.prog 119 #[.int .i64 a0] w fun e w'=>e = .returned (.string r)/\Below w.heap.size w w':=by
 have FR:=Tryz.underlying117;have HB:=ae.mk (Below.refl w.heap.size w);have H:=h;clear h;unfold dN.f at H;replace H:=gD H;obtain⟨⟨Yh,Yi,Yj,acb,acd,ace,ax3⟩,A2,H⟩:=H;dsimp only at H;have HC3:=ae.mk H;clear H;go_enter Tryz.func119,Tryz.ntmps119;go_upto_region 2 with(first|((with_reducible refine lS 161 rfl ?_);refine vI 7 rfl Tryz.func161 (cO.calls k a0 Yh Yi Yj acb acd ace ax3 _ A2.out) fun w4 hb HB=>?_;clear hb)|((with_reducible refine vJ 3 rfl ?_);refine qo #[.int .i64 0,.int .i64 0,.int .i64 0,.int .i64 0,.int .i64 0,.int .i64 0] 117 ?_;intro Ia hg w5 hbox hb;have Ba:=ae.mk (hbox);have aDE:=rE hg;replace HB:=iC hb;clear hb hbox hg;obtain⟨_,_,_,_,_,_⟩:=pY Ba;obtain⟨_,_,_,_,_,_⟩:=Le Ba));(try simp only[Act.put,List.setIfInBounds_toArray,List.set_cons_zero,List.set_cons_succ])
 go_cut [16] (fun v16 wc=>∃(kq:Nat) (akC:Bool),v16 = .bool akC/\ae (dN.j0 kq a0 akC Yh Yi Yj acb acd ace=some r)/\ae (kq<=k)/\ae (wc.heap[Ia]? = some (.cells #[.int .i64 Yh,.int .i64 Yi,.int .i64 Yj,.int .i64 acb,.int .i64 acd,.int .i64 ace] 117 (0,0)))/\ae (Below w.heap.size w wc))
 case first=>
  have H:=HC3;clear HC3;exact uW
 case rest=>
  clear HC3;obtain⟨kq,akC,rfl,HA,HJ2,Ba,HB⟩:=hcut;cases kq with
  |zero=>exact absurd HA.out (by simp[dN.j0])
  |succ Oj=>
   have H:=HA.out;clear HA;simp only[dN.j0] at H;replace H:=gB H;rcases H with⟨rfl,H⟩|⟨rfl,H⟩
   ·replace H:=ae.mk H;exact uW
   ·replace H:=gD H;obtain⟨afp,A10,H⟩:=H;replace H:=gD H;obtain⟨K9,A11,H⟩:=H;replace H:=gI H;rcases H with⟨c12,Nk,Ab,H⟩|⟨c12,-,-,H⟩
    ·try have apI:=eq_false (Nat.not_lt.2 c12)
     replace H:=gD H;obtain⟨Mm,A13,H⟩:=H;replace H:=gN H;obtain⟨c14,R5,FV,H⟩:=H;try have aeZ:=eq_false (Nat.not_lt.2 c14)
     try(have I8:=c14;simp only[ByteArray.size_append,yP,List.length_cons,List.length_nil,Nat.zero_add,Nat.reduceAdd] at I8;replace I8:=eq_false (Nat.not_lt.2 I8))
     replace H:=gN H;obtain⟨c15,Vm,Cj,H⟩:=H;try have awJ:=eq_false (Nat.not_lt.2 c15)
     try(have Vn:=c15;simp only[ByteArray.size_append,yP,List.length_cons,List.length_nil,Nat.zero_add,Nat.reduceAdd] at Vn;replace Vn:=eq_false (Nat.not_lt.2 Vn))
     replace H:=gD H;obtain⟨Qb,A16,H⟩:=H;replace H:=gN H;obtain⟨c17,I6,BG,H⟩:=H;try have ax4:=eq_false (Nat.not_lt.2 c17)
     try(have Sn:=c17;simp only[ByteArray.size_append,yP,List.length_cons,List.length_nil,Nat.zero_add,Nat.reduceAdd] at Sn;replace Sn:=eq_false (Nat.not_lt.2 Sn))
     replace H:=gN H;obtain⟨c18,akt,PM,H⟩:=H;try have aHf:=eq_false (Nat.not_lt.2 c18)
     try(have akD:=c18;simp only[ByteArray.size_append,yP,List.length_cons,List.length_nil,Nat.zero_add,Nat.reduceAdd] at akD;replace akD:=eq_false (Nat.not_lt.2 akD))
     replace H:=gD H;obtain⟨VT,A19,H⟩:=H;replace H:=gN H;obtain⟨c20,Nn,KZ,H⟩:=H;try have ae0:=eq_false (Nat.not_lt.2 c20)
     try(have I9:=c20;simp only[ByteArray.size_append,yP,List.length_cons,List.length_nil,Nat.zero_add,Nat.reduceAdd] at I9;replace I9:=eq_false (Nat.not_lt.2 I9))
     replace H:=gN H;obtain⟨c21,K3,Ac,H⟩:=H;try have aiU:=eq_false (Nat.not_lt.2 c21)
     try(have Vo:=c21;simp only[ByteArray.size_append,yP,List.length_cons,List.length_nil,Nat.zero_add,Nat.reduceAdd] at Vo;replace Vo:=eq_false (Nat.not_lt.2 Vo))
     replace H:=gD H;obtain⟨aca,A22,H⟩:=H;replace H:=gN H;obtain⟨c23,aeH,XX,H⟩:=H;try have aql:=eq_false (Nat.not_lt.2 c23)
     try(have Jb:=c23;simp only[ByteArray.size_append,yP,List.length_cons,List.length_nil,Nat.zero_add,Nat.reduceAdd] at Jb;replace Jb:=eq_false (Nat.not_lt.2 Jb))
     replace H:=gN H;obtain⟨c24,Vp,GZ,H⟩:=H;try have aqp:=eq_false (Nat.not_lt.2 c24)
     try(have K5:=c24;simp only[ByteArray.size_append,yP,List.length_cons,List.length_nil,Nat.zero_add,Nat.reduceAdd] at K5;replace K5:=eq_false (Nat.not_lt.2 K5))
     obtain rfl:=gK H;try go_wp2
     replace Ba:=ae.mk (dh Ba.out);replace HB:=ae.mk (bn HB.out);refine kJ (n:=25) (S:=fun w'=>w'.cell? ⟨Ia,0,none⟩=some (.int .i64 Yh)/\w'.cell? ⟨Ia,1,none⟩=some (.int .i64 Yi)/\w'.cell? ⟨Ia,2,none⟩=some (.int .i64 Yj)/\w'.cell? ⟨Ia,3,none⟩=some (.int .i64 acb)/\w'.cell? ⟨Ia,4,none⟩=some (.int .i64 acd)/\w'.cell? ⟨Ia,5,none⟩=some (.int .i64 ace)) (ds:=[]) (pY Ba) (fun hHeld=>?_);refine dY dN.Y5 dN.Pw (fun HT_ HW_=>?_);generalize wc.drew=mo at Ba HB hHeld ⊢;repeat(first|refine ek ?_)
     refine bN 4 (some 21) ?_;refine fQ 5 (some 22) (hy:=Or.inl ⟨by rfl,YE⟩) ?_;refine bN 9 (some 26) ?_;refine fQ 10 (some 27) (hy:=Or.inl ⟨by rfl,YE⟩) ?_;refine bN 14 (some 31) ?_;refine fQ 15 (some 32) (hy:=Or.inl ⟨by rfl,YE⟩) ?_;refine bN 16 (some 33) ?_;refine fQ 20 (some 37) (hy:=Or.inl ⟨by rfl,YE⟩) ?_;refine gV (fun K hK=>?_);refine Iw Tryz.func163 (lK.calls a0 afp _ A10.out) fun nd=>?_;refine hK.out _ _ (pY Ba) (fun hHeld=>?_);clear hK K;refine dI ?_;refine gV (fun K hK=>?_);refine Iw Tryz.func162 (jZ.calls afp K9 _ A11.out) fun nd=>?_;refine hK.out _ _ (pY Ba) (fun hHeld=>?_);clear hK K;refine dI ?_;repeat(first|refine ek ?_)
     refine gV (fun K hK=>?_);refine EC Tryz.func164 (eD.calls Oj Yj 2 Mm _ A13.out) fun mV hb=>?_;replace Ba:=jr (g:=Ia) hb;replace HB:=iC hb;(try clear hb)
     refine hK.out _ _ (pY Ba) (fun hHeld=>?_);clear hK K;refine dI ?_;repeat(first|refine ek ?_)
     refine gV (fun K hK=>?_);refine Iw Tryz.func160 (iP.calls Yi Qb _ A16.out) fun nd=>?_;refine hK.out _ _ (pY Ba) (fun hHeld=>?_);clear hK K;refine dI ?_;repeat(first|refine ek ?_)
     refine gV (fun K hK=>?_);refine EC Tryz.func164 (eD.calls Oj (Int.tmod Yh 100) 2 VT _ A19.out) fun mV hb=>?_;replace Ba:=jr (g:=Ia) hb;replace HB:=iC hb;(try clear hb)
     refine hK.out _ _ (pY Ba) (fun hHeld=>?_);clear hK K;refine dI ?_;repeat(first|refine ek ?_)
     refine gV (fun K hK=>?_);refine EC Tryz.func165 (iy.calls Oj Yh Yi Yj acb acd ace aca _ A22.out) fun mV hb=>?_;replace Ba:=jr (g:=Ia) hb;replace HB:=iC hb;(try clear hb)
     refine hK.out _ _ (pY Ba) (fun hHeld=>?_);clear hK K;refine dI ?_;repeat(first|refine ek ?_)
     refine lh (gP HT_.out eB) ?_;try go_wp2
     go_ret;exact⟨su,dL⟩
    ·exact absurd H (by simp)
@[reducible,instance] def dN.c:=jM.of 0 Tryz.func119 @dN.calls


mutual
def ai.j0 : Nat->ByteArray->Option (Int×Bool)
 |0,_=>none
 |k+1,x0=>if(x0.size:Int)=24 then(if 20<=24 then(if 24<=(x0.size:Int) then((aV.f k (x0.extract 20 24)).bind fun Yk=>(if 4<=7 then(if 7<=(x0.size:Int) then((eX.f k (x0.extract 4 7)).bind fun Yl=>(if 8<=10 then(if 10<=(x0.size:Int) then((aV.f k (x0.extract 8 10)).bind fun Ym=>(if 11<=19 then(if 19<=(x0.size:Int) then((ja.f k Yk Yl Ym (x0.extract 11 19)).bind fun VU=>((dH.f k VU).bind fun afq=>(if afq.toList=x0.toList then(some (VU,true)) else(ai.j1 k x0)))) else(none)) else(none))) else(none)) else(none))) else(none)) else(none))) else(none)) else(none)) else(ai.j1 k x0)
def ai.j1 : Nat->ByteArray->Option (Int×Bool)
 |0,_=>none
 |k+1,x0=>if(x0.size:Int)>=30 then(ai.j2 k x0 (decide ((x0.size:Int)<=33))) else(ai.j2 k x0 false)
def ai.j2 : Nat->ByteArray->Bool->Option (Int×Bool)
 |0,_,_=>none
 |k+1,x0,x56=>if x56=true then(if 0<=(wrap64 ((x0.size:Int)-22)) then(if(wrap64 ((x0.size:Int)-22))<=(x0.size:Int) then(if 7<=9 then(if 9<=((x0.extract ((wrap64 ((x0.size:Int)-22)):Int).toNat x0.size).size:Int) then((aV.f k ((x0.extract ((wrap64 ((x0.size:Int)-22)):Int).toNat x0.size).extract 7 9)).bind fun VV=>(if VV>=70 then(ai.j3 k x0 (x0.extract ((wrap64 ((x0.size:Int)-22)):Int).toNat x0.size) (wrap64 (VV+1900))) else(ai.j3 k x0 (x0.extract ((wrap64 ((x0.size:Int)-22)):Int).toNat x0.size) (wrap64 (VV+2000))))) else(none)) else(none)) else(none)) else(none)) else(some (0,false))
def ai.j3 : Nat->ByteArray->ByteArray->Int->Option (Int×Bool)
 |0,_,_,_=>none
 |k+1,x0,x6,x7=>if 3<=6 then(if 6<=(x6.size:Int) then((eX.f k (x6.extract 3 6)).bind fun acf=>(if 0<=2 then(if 2<=(x6.size:Int) then((aV.f k (x6.extract 0 2)).bind fun acg=>(if 10<=18 then(if 18<=(x6.size:Int) then((ja.f k x7 acf acg (x6.extract 10 18)).bind fun ach=>((dN.f k ach).bind fun akE=>(if akE.toList=x0.toList then(some (ach,true)) else(some (0,false))))) else(none)) else(none))) else(none)) else(none))) else(none)) else(none)
end
def ai.f (k:Nat) (a0:ByteArray):Option (Int×Bool):=if(a0.size:Int)=29 then(if 12<=16 then(if 16<=(a0.size:Int) then((aV.f k (a0.extract 12 16)).bind fun Yn=>(if 8<=11 then(if 11<=(a0.size:Int) then((eX.f k (a0.extract 8 11)).bind fun Yo=>(if 5<=7 then(if 7<=(a0.size:Int) then((aV.f k (a0.extract 5 7)).bind fun Yp=>(if 17<=25 then(if 25<=(a0.size:Int) then((ja.f k Yn Yo Yp (a0.extract 17 25)).bind fun VW=>((gp.f k VW).bind fun afr=>(if afr.toList=a0.toList then(some (VW,true)) else(ai.j0 k a0)))) else(none)) else(none))) else(none)) else(none))) else(none)) else(none))) else(none)) else(none)) else(ai.j0 k a0)
def ai.T2 : Bool×List (List Nat×List Nat):=(true,[([],[]),([0],[0]),([1],[1]),([],[]),([3],[3]),([4,2],[4]),([],[]),([6],[6]),([7,5],[7]),([],[]),([9],[9]),([2,5,8,10,8],[2,5,8,10]),([11,11,0,1,2,3,4,5,6,7,8,9,10,11],[11])])
def ai.B2 : List Nat:=[0,1,3,0,8,31,0,64,255,0,512,2047,4095]
theorem ai.als : pX .any (opsOf Tryz.f75 2)=ai.T2:=by kernel_rfl
theorem ai.aeE : jK ai.T2.2 ai.B2=true:=by kernel_rfl
def ai.T6 : Bool×List (List Nat×List Nat):=(true,[([],[]),([0],[0]),([1],[1]),([],[]),([3],[3]),([4,2],[4]),([],[]),([6],[6]),([7,5],[7]),([],[]),([9],[9]),([2,5,8,10,8],[2,5,8,10]),([11,11,0,1,2,3,4,5,6,7,8,9,10,11],[11])])
def ai.B6 : List Nat:=[0,1,3,0,8,31,0,64,255,0,512,2047,4095]
theorem ai.ahJ : pX .any (opsOf Tryz.f75 6)=ai.T6:=by kernel_rfl
theorem ai.aay : jK ai.T6.2 ai.B6=true:=by kernel_rfl
def ai.T15 : Bool×List (List Nat×List Nat):=(true,[([],[]),([],[]),([1],[1]),([2],[2]),([],[]),([4],[4]),([5,3],[5]),([],[]),([7],[7]),([0,3,6,8,6],[0,3,6,8]),([9,9,0,1,2,3,4,5,6,7,8,9],[9])])
def ai.B15 : List Nat:=[0,0,2,6,0,16,62,0,128,511,1023]
theorem ai.ax5 : pX .any (opsOf Tryz.f75 15)=ai.T15:=by kernel_rfl
theorem ai.atK : jK ai.T15.2 ai.B15=true:=by kernel_rfl
theorem ai.e0 {p:Prop} (h:p:=by
  try go_wp2
  replace HB:=ae.mk (bn HB.out)
  refine kJ (n:=11) (S:=fun w'=>True) (ds:=[]) trivial (fun hHeld=>?_);refine dY ai.ax5 ai.atK (fun HT_ HW_=>?_)
  generalize wc.drew=Og at HB hHeld ⊢
  repeat(first|refine ek ?_)
  refine bN 4 (some 75) ?_
  refine bN 5 (some 76) ?_
  refine bN 7 (some 78) ?_
  refine bN 8 (some 79) ?_
  refine gV (fun K hK=>?_)
  refine lQ Tryz.func116 eB rfl #[.string (zq.extract 3 6)] (by rfl) rfl rfl alk ?_
  with_reducible refine(eX.calls an2 (zq.extract 3 6) acf _ A59.out).mono ?_
  rintro e w' ⟨rfl,⟨nd,rfl⟩⟩
  refine⟨_,rfl,?_⟩
  refine hK.out _ _ trivial (fun hHeld=>?_)
  clear hK K
  refine dI ?_
  refine gV (fun K hK=>?_)
  refine lQ Tryz.func115 eB rfl #[.string (zq.extract 0 2)] (by rfl) rfl rfl alk ?_
  with_reducible refine(aV.calls an2 (zq.extract 0 2) acg _ A62.out).mono ?_
  rintro e w' ⟨rfl,⟨nd,rfl⟩⟩
  refine⟨_,rfl,?_⟩
  refine hK.out _ _ trivial (fun hHeld=>?_)
  clear hK K
  refine dI ?_
  refine gV (fun K hK=>?_)
  refine lQ Tryz.func114 eB rfl #[.int .i64 aci,.int .i64 acf,.int .i64 acg,.string (zq.extract 10 18)] (by rfl) rfl rfl alk ?_
  with_reducible refine(ja.calls an2 aci acf acg (zq.extract 10 18) ach _ A65.out).mono ?_
  rintro e mV ⟨rfl,hb⟩
  refine⟨_,rfl,?_⟩
  replace HB:=iC hb
  (try clear hb)
  refine hK.out _ _ trivial (fun hHeld=>?_)
  clear hK K
  refine dI ?_
  repeat(first|refine ek ?_)
  refine lh (gP HT_.out eB) ?_
  try go_wp2_with(((with_reducible refine lS 119 rfl ?_);refine vI 82 rfl Tryz.func119 (dN.calls an2 ach akE _ A66.out) fun LG hb HB=>?_;clear hb))
  go_ret2
  exact⟨by first|rfl|(simp[iN,iO] <;> rfl)|(simp only[<- aah];first|rfl|(simp[iN,iO] <;> rfl))|(simp[*,iN,iO] <;> rfl),dL⟩):p:=h
theorem ai.calls (k:Nat) (a0:ByteArray) (r1:Int) (r2:Bool) (w:World) (h:ai.f k a0=some (r1,r2)) :
  Calls Tryz.prog 75 #[.string a0] w fun e w'=>e = .returned (.tuple #[.int .i64 r1,.bool r2])/\Below w.heap.size w w':=by
 have HB:=ae.mk (Below.refl w.heap.size w);have H:=h;clear h;unfold ai.f at H;have vv:=ae.mk H;clear H;go_enter Tryz.func75,Tryz.ntmps75;go_upto_if 11 with(fail);go_cut [] (fun wc=>∃(kq:Nat),ae (ai.j0 kq a0=some (r1,r2))/\ae (kq<=k)/\ae (Below w.heap.size w wc))
 case first=>
  have H:=vv.out;clear vv;replace H:=gI H;rcases H with⟨c3,-,-,H⟩|⟨c3,-,-,H⟩
  ·obtain⟨nS,GI⟩:=Cu c3;clear c3;(first|rw[nS]|(simp only[jJ,lY];rw[nS])|skip)
   replace H:=gN H;obtain⟨-,Kh,yE,H⟩:=H;replace H:=gN H;obtain⟨-,LW,xW,H⟩:=H;replace H:=gD H;obtain⟨Yn,A6,H⟩:=H;replace H:=gN H;obtain⟨-,Zt,Am,H⟩:=H;replace H:=gN H;obtain⟨-,Zy,zS,H⟩:=H;replace H:=gD H;obtain⟨Yo,A9,H⟩:=H;replace H:=gN H;obtain⟨-,aeY,Cm,H⟩:=H;replace H:=gN H;obtain⟨-,aa8,EA,H⟩:=H;replace H:=gD H;obtain⟨Yp,Y3,H⟩:=H;replace H:=gN H;obtain⟨-,GX,zi,H⟩:=H;replace H:=gN H;obtain⟨-,R5,FV,H⟩:=H;replace H:=gD H;obtain⟨VW,A15,H⟩:=H;replace H:=gD H;obtain⟨afr,A16,H⟩:=H;replace H:=gI H;rcases H with⟨c17,-,-,H⟩|⟨c17,-,-,H⟩
   ·obtain⟨BG,I6⟩:=Cu c17;clear c17;simp only[Option.some.injEq,Prod.mk.injEq] at H;obtain⟨rfl,rfl⟩:=H;try go_wp2
    replace HB:=ae.mk (bn HB.out);refine kJ (n:=13) (S:=fun w'=>True) (ds:=[]) trivial (fun hHeld=>?_);refine dY ai.als ai.aeE (fun HT_ HW_=>?_);generalize w.drew=mo at HB hHeld ⊢;repeat(first|refine ek ?_)
    refine bN 3 (some 15) ?_;refine bN 4 (some 16) ?_;refine bN 6 (some 18) ?_;refine bN 7 (some 19) ?_;refine bN 9 (some 21) ?_;refine bN 10 (some 22) ?_;refine gV (fun K hK=>?_);refine Iw Tryz.func115 (aV.calls k (a0.extract 12 16) Yn _ A6.out) fun nd=>?_;refine hK.out _ _ trivial (fun hHeld=>?_);clear hK K;refine dI ?_;refine gV (fun K hK=>?_);refine Iw Tryz.func116 (eX.calls k (a0.extract 8 11) Yo _ A9.out) fun nd=>?_;refine hK.out _ _ trivial (fun hHeld=>?_);clear hK K;refine dI ?_;refine gV (fun K hK=>?_);refine Iw Tryz.func115 (aV.calls k (a0.extract 5 7) Yp _ Y3.out) fun nd=>?_;refine hK.out _ _ trivial (fun hHeld=>?_);clear hK K;refine dI ?_;refine gV (fun K hK=>?_);refine EC Tryz.func114 (ja.calls k Yn Yo Yp (a0.extract 17 25) VW _ A15.out) fun mV hb=>?_;replace HB:=iC hb;(try clear hb)
    refine hK.out _ _ trivial (fun hHeld=>?_);clear hK K;refine dI ?_;repeat(first|refine ek ?_)
    refine lh (gP HT_.out eB) ?_;try go_wp2_with(((with_reducible refine lS 117 rfl ?_);refine vI 25 rfl Tryz.func117 (gp.calls k VW afr _ A16.out) fun tT hb HB=>?_;clear hb))
    go_ret2;exact⟨su,dL⟩
   ·obtain⟨BG,I6⟩:=Di c17;replace H:=ae.mk H;try go_wp2
    replace HB:=ae.mk (bn HB.out);refine kJ (n:=13) (S:=fun w'=>True) (ds:=[]) trivial (fun hHeld=>?_);refine dY ai.als ai.aeE (fun HT_ HW_=>?_);generalize w.drew=mo at HB hHeld ⊢;repeat(first|refine ek ?_)
    refine bN 3 (some 15) ?_;refine bN 4 (some 16) ?_;refine bN 6 (some 18) ?_;refine bN 7 (some 19) ?_;refine bN 9 (some 21) ?_;refine bN 10 (some 22) ?_;refine gV (fun K hK=>?_);refine Iw Tryz.func115 (aV.calls k (a0.extract 12 16) Yn _ A6.out) fun nd=>?_;refine hK.out _ _ trivial (fun hHeld=>?_);clear hK K;refine dI ?_;refine gV (fun K hK=>?_);refine Iw Tryz.func116 (eX.calls k (a0.extract 8 11) Yo _ A9.out) fun nd=>?_;refine hK.out _ _ trivial (fun hHeld=>?_);clear hK K;refine dI ?_;refine gV (fun K hK=>?_);refine Iw Tryz.func115 (aV.calls k (a0.extract 5 7) Yp _ Y3.out) fun nd=>?_;refine hK.out _ _ trivial (fun hHeld=>?_);clear hK K;refine dI ?_;refine gV (fun K hK=>?_);refine EC Tryz.func114 (ja.calls k Yn Yo Yp (a0.extract 17 25) VW _ A15.out) fun mV hb=>?_;replace HB:=iC hb;(try clear hb)
    refine hK.out _ _ trivial (fun hHeld=>?_);clear hK K;refine dI ?_;repeat(first|refine ek ?_)
    refine lh (gP HT_.out eB) ?_;try go_wp2_with(((with_reducible refine lS 117 rfl ?_);refine vI 25 rfl Tryz.func117 (gp.calls k VW afr _ A16.out) fun tT hb HB=>?_;clear hb))
    go_meet
    case rel=>exact⟨_,H,⟨Ld⟩,⟨dL⟩⟩
  ·obtain⟨nS,GI⟩:=Di c3;(first|rw[nS]|(simp only[jJ,lY];rw[nS])|skip)
   replace H:=ae.mk H;go_wp2;go_meet
   case rel=>exact⟨_,H,⟨Ld⟩,⟨dL⟩⟩
 case rest=>
  clear vv;obtain⟨kq,HA,Ch,HB⟩:=hcut;cases kq with
  |zero=>exact absurd HA.out (by simp[ai.j0])
  |succ vC=>
   have H:=HA.out;clear HA;simp only[ai.j0] at H;have atL:=ae.mk H;clear H;go_upto_if 31 with(fail);go_cut [] (fun wc=>∃(kq:Nat),ae (ai.j1 kq a0=some (r1,r2))/\ae (kq<=vC)/\ae (Below w.heap.size w wc))
   case first=>
    have H:=atL.out;clear atL;replace H:=gI H;rcases H with⟨Z4,-,-,H⟩|⟨Z4,-,-,H⟩
    ·obtain⟨Ck,X3⟩:=Cu Z4;clear Z4;(first|rw[Ck]|(simp only[jJ,lY];rw[Ck])|skip)
     replace H:=gN H;obtain⟨-,aqn,aaF,H⟩:=H;replace H:=gN H;obtain⟨-,aiV,Sa,H⟩:=H;replace H:=gD H;obtain⟨Yk,A28,H⟩:=H;replace H:=gN H;obtain⟨-,ai4,ai5,H⟩:=H;replace H:=gN H;obtain⟨-,Vf,RY,H⟩:=H;replace H:=gD H;obtain⟨Yl,A31,H⟩:=H;replace H:=gN H;obtain⟨-,abj,X6,H⟩:=H;replace H:=gN H;obtain⟨-,aHg,aHh,H⟩:=H;replace H:=gD H;obtain⟨Ym,A34,H⟩:=H;replace H:=gN H;obtain⟨-,aqI,aqJ,H⟩:=H;replace H:=gN H;obtain⟨-,aHi,aHj,H⟩:=H;replace H:=gD H;obtain⟨VU,A37,H⟩:=H;replace H:=gD H;obtain⟨afq,A38,H⟩:=H;replace H:=gI H;rcases H with⟨c39,-,-,H⟩|⟨c39,-,-,H⟩
     ·obtain⟨abP,abQ⟩:=Cu c39;clear c39;simp only[Option.some.injEq,Prod.mk.injEq] at H;obtain⟨rfl,rfl⟩:=H;try go_wp2
      replace HB:=ae.mk (bn HB.out);refine kJ (n:=13) (S:=fun w'=>True) (ds:=[]) trivial (fun hHeld=>?_);refine dY ai.ahJ ai.aay (fun HT_ HW_=>?_);generalize wc.drew=Og at HB hHeld ⊢;repeat(first|refine ek ?_)
      refine bN 3 (some 35) ?_;refine bN 4 (some 36) ?_;refine bN 6 (some 38) ?_;refine bN 7 (some 39) ?_;refine bN 9 (some 41) ?_;refine bN 10 (some 42) ?_;refine gV (fun K hK=>?_);refine Iw Tryz.func115 (aV.calls vC (a0.extract 20 24) Yk _ A28.out) fun nd=>?_;refine hK.out _ _ trivial (fun hHeld=>?_);clear hK K;refine dI ?_;refine gV (fun K hK=>?_);refine Iw Tryz.func116 (eX.calls vC (a0.extract 4 7) Yl _ A31.out) fun nd=>?_;refine hK.out _ _ trivial (fun hHeld=>?_);clear hK K;refine dI ?_;refine gV (fun K hK=>?_);refine Iw Tryz.func115 (aV.calls vC (a0.extract 8 10) Ym _ A34.out) fun nd=>?_;refine hK.out _ _ trivial (fun hHeld=>?_);clear hK K;refine dI ?_;refine gV (fun K hK=>?_);refine EC Tryz.func114 (ja.calls vC Yk Yl Ym (a0.extract 11 19) VU _ A37.out) fun mV hb=>?_;replace HB:=iC hb;(try clear hb)
      refine hK.out _ _ trivial (fun hHeld=>?_);clear hK K;refine dI ?_;repeat(first|refine ek ?_)
      refine lh (gP HT_.out eB) ?_;try go_wp2_with(((with_reducible refine lS 118 rfl ?_);refine vI 45 rfl Tryz.func118 (dH.calls vC VU afq _ A38.out) fun GH hb HB=>?_;clear hb))
      go_ret2;exact⟨su,dL⟩
     ·obtain⟨abP,abQ⟩:=Di c39;replace H:=ae.mk H;try go_wp2
      replace HB:=ae.mk (bn HB.out);refine kJ (n:=13) (S:=fun w'=>True) (ds:=[]) trivial (fun hHeld=>?_);refine dY ai.ahJ ai.aay (fun HT_ HW_=>?_);generalize wc.drew=Og at HB hHeld ⊢;repeat(first|refine ek ?_)
      refine bN 3 (some 35) ?_;refine bN 4 (some 36) ?_;refine bN 6 (some 38) ?_;refine bN 7 (some 39) ?_;refine bN 9 (some 41) ?_;refine bN 10 (some 42) ?_;refine gV (fun K hK=>?_);refine Iw Tryz.func115 (aV.calls vC (a0.extract 20 24) Yk _ A28.out) fun nd=>?_;refine hK.out _ _ trivial (fun hHeld=>?_);clear hK K;refine dI ?_;refine gV (fun K hK=>?_);refine Iw Tryz.func116 (eX.calls vC (a0.extract 4 7) Yl _ A31.out) fun nd=>?_;refine hK.out _ _ trivial (fun hHeld=>?_);clear hK K;refine dI ?_;refine gV (fun K hK=>?_);refine Iw Tryz.func115 (aV.calls vC (a0.extract 8 10) Ym _ A34.out) fun nd=>?_;refine hK.out _ _ trivial (fun hHeld=>?_);clear hK K;refine dI ?_;refine gV (fun K hK=>?_);refine EC Tryz.func114 (ja.calls vC Yk Yl Ym (a0.extract 11 19) VU _ A37.out) fun mV hb=>?_;replace HB:=iC hb;(try clear hb)
      refine hK.out _ _ trivial (fun hHeld=>?_);clear hK K;refine dI ?_;repeat(first|refine ek ?_)
      refine lh (gP HT_.out eB) ?_;try go_wp2_with(((with_reducible refine lS 118 rfl ?_);refine vI 45 rfl Tryz.func118 (dH.calls vC VU afq _ A38.out) fun GH hb HB=>?_;clear hb))
      go_meet
      case rel=>exact⟨_,H,⟨agh⟩,⟨dL⟩⟩
    ·obtain⟨Ck,X3⟩:=Di Z4;(first|rw[Ck]|(simp only[jJ,lY];rw[Ck])|skip)
     replace H:=ae.mk H;go_wp2;go_meet
     case rel=>exact⟨_,H,⟨agh⟩,⟨dL⟩⟩
   case rest=>
    clear atL;obtain⟨kq,HA,an3,HB⟩:=hcut;cases kq with
    |zero=>exact absurd HA.out (by simp[ai.j1])
    |succ aDF=>
     have H:=HA.out;clear HA;simp only[ai.j1] at H;have atM:=ae.mk H;clear H;go_upto_region 9 with(fail);go_cut [56] (fun v56 wc=>∃(kq:Nat) (ad9:Bool),v56 = .bool ad9/\ae (ai.j2 kq a0 ad9=some (r1,r2))/\ae (kq<=aDF)/\ae (Below w.heap.size w wc))
     case first=>
      have H:=atM.out;clear atM;replace H:=gI H;rcases H with⟨c47,-,-,H⟩|⟨c47,-,-,H⟩
      ·have Sg:decide (30<=(a0.size:Int))=true:=aQ c47;have aqK:decide (30<=a0.size)=true:=aQ aa;clear c47;(first|rw[Sg]|(simp only[jJ,lY];rw[Sg])|skip)
       replace H:=ae.mk H;go_wp2;go_meet
       case rel=>exact⟨_,(decide ((a0.size:Int)<=33)),kD,H,⟨by have:=Ch.out;have:=an3.out;first|omega|exact Nat.le_refl _⟩,⟨dL⟩⟩
      ·have Sg:decide (30<=(a0.size:Int))=false:=aT c47;have aqK:decide (30<=a0.size)=false:=aT aa;clear c47;(first|rw[Sg]|(simp only[jJ,lY];rw[Sg])|skip)
       replace H:=ae.mk H;go_wp2;go_meet
       case rel=>exact⟨_,(false),kD,H,⟨by have:=Ch.out;have:=an3.out;first|omega|exact Nat.le_refl _⟩,⟨dL⟩⟩
     case rest=>
      clear atM;obtain⟨kq,ad9,rfl,HA,ax6,HB⟩:=hcut;cases kq with
      |zero=>exact absurd HA.out (by simp[ai.j2])
      |succ ax7=>
       have H:=HA.out;clear HA;simp only[ai.j2] at H;replace H:=gB H;rcases H with⟨rfl,H⟩|⟨rfl,H⟩
       ·obtain⟨ax8,aah⟩:∃ j_:Int,(wrap64 ((a0.size:Int)-22))=j_:=⟨_,rfl⟩;(first|rw[aah] at H|simp only[aah] at H ⊢)
        have aDG:(IntKind.i64.wrap ((a0.size:Int)-22))=ax8:=(jJ _).trans aah;replace H:=gN H;obtain⟨-,aqV,aqW,H⟩:=H;replace H:=gN H;obtain⟨-,ax9,aya,H⟩:=H;obtain⟨zq,hzq⟩:∃ z_:ByteArray,a0.extract ((ax8):Int).toNat a0.size=z_:=⟨_,rfl⟩;rw[hzq] at H;replace H:=gN H;obtain⟨-,akF,aaC,H⟩:=H;replace H:=gN H;obtain⟨-,aqd,aqc,H⟩:=H;replace H:=gD H;obtain⟨VV,A54,H⟩:=H;have atN:=ae.mk H;clear H;go_upto_if 66 with(first|((with_reducible refine lS 115 rfl ?_);refine wC (some 64) rfl rfl Tryz.func115 eB rfl #[.string (zq.extract 7 9)] rfl alk ?_;(with_reducible refine(aV.calls ax7 (zq.extract 7 9) VV _ A54.out).mono ?_);rintro e w' ⟨rfl,⟨nd,rfl⟩⟩;refine⟨_,rfl,?_⟩));(try simp only[Act.put,List.setIfInBounds_toArray,List.set_cons_zero,List.set_cons_succ])
        go_cut [7] (fun v7 wc=>∃(kq:Nat) (aci:Int),v7 = .int .i64 aci/\ae (ai.j3 kq a0 zq aci=some (r1,r2))/\ae (kq<=ax7)/\ae (Below w.heap.size w wc))
        case first=>
         have H:=atN.out;clear atN;replace H:=gI H;rcases H with⟨-,XY,-,H⟩|⟨-,XY,-,H⟩
         ·(first|rw[XY]|(simp only[jJ,lY];rw[XY])|skip)
          replace H:=ae.mk H;go_wp2;go_meet
          case rel=>exact⟨_,(wrap64 (VV+1900)),kD,H,⟨by have:=Ch.out;have:=an3.out;have:=ax6.out;first|omega|exact Nat.le_refl _⟩,⟨dL⟩⟩
         ·(first|rw[XY]|(simp only[jJ,lY];rw[XY])|skip)
          replace H:=ae.mk H;go_wp2;go_meet
          case rel=>exact⟨_,(wrap64 (VV+2000)),kD,H,⟨by have:=Ch.out;have:=an3.out;have:=ax6.out;first|omega|exact Nat.le_refl _⟩,⟨dL⟩⟩
        case rest=>
         clear atN;try clear aqW
         try clear aqV
         try clear aya
         try clear ax9
         try clear aaC
         try clear akF
         try clear aqc
         try clear aqd
         obtain⟨kq,aci,rfl,HA,aJq,HB⟩:=hcut;cases kq with
         |zero=>exact absurd HA.out (by simp[ai.j3])
         |succ an2=>
          have H:=HA.out;clear HA;simp only[ai.j3] at H;replace H:=gN H;obtain⟨-,avG,avF,H⟩:=H;replace H:=gN H;obtain⟨-,aHk,aHl,H⟩:=H;replace H:=gD H;obtain⟨acf,A59,H⟩:=H;replace H:=gN H;obtain⟨-,aHm,aqX,H⟩:=H;replace H:=gN H;obtain⟨-,aHn,aHo,H⟩:=H;replace H:=gD H;obtain⟨acg,A62,H⟩:=H;replace H:=gN H;obtain⟨-,aHp,ap9,H⟩:=H;replace H:=gN H;obtain⟨-,aHq,aHr,H⟩:=H;replace H:=gD H;obtain⟨ach,A65,H⟩:=H;replace H:=gD H;obtain⟨akE,A66,H⟩:=H;replace H:=gI H;rcases H with⟨c67,-,-,H⟩|⟨c67,-,-,H⟩
          ·obtain⟨ayb,ayc⟩:=Cu c67;clear c67;simp only[Option.some.injEq,Prod.mk.injEq] at H;obtain⟨rfl,rfl⟩:=H;exact ai.e0
          ·obtain⟨ayb,ayc⟩:=Di c67;simp only[Option.some.injEq,Prod.mk.injEq] at H;obtain⟨rfl,rfl⟩:=H;exact ai.e0
       ·simp only[Option.some.injEq,Prod.mk.injEq] at H;obtain⟨rfl,rfl⟩:=H;go_wp2;go_ret2;exact⟨su,dL⟩
@[reducible,instance] def ai.c:=jM.of 0 Tryz.func75 @ai.calls


def fG.l0 : Nat->ByteArray->Int->Option (Bool)
 |0,_,_=>none
 |k+1,x0,x3=>if x3<(x0.size:Int) then(if 0<=x3 then((mf.f (bt x0 x3)).bind fun aDH=>(if aDH=true then(fG.l0 k x0 (wrap64 (x3+1))) else(some false))) else(none)) else(some true)
def fG.f (k:Nat) (a0:ByteArray):Option (Bool):=fG.l0 k a0 0
theorem fG.calls (k:Nat) (a0:ByteArray) (r:Bool) (w:World) (h:fG.f k a0=some r) :
  Calls Tryz.prog 98 #[.string a0] w fun e w'=>e = .returned (.bool r)/\bL w w':=by
 have H:=ae.mk h;clear h;unfold fG.f at H;go_enter Tryz.func98,Tryz.ntmps98;go_wp2;go_loopg [3] k (fun kq v3 w'=>∃(jD:Int),v3 = .int .i64 jD/\ae (fG.l0 kq a0 jD=some r)/\ae (kq<=k)/\bL w w')
 case atStart=>exact⟨(0),kD,H,⟨Nat.le_refl _⟩,TP⟩
 case round=>
  clear H;obtain⟨jD,rfl,HA,mh,⟨m1,rfl⟩⟩:=hrel;cases gk with
  |zero=>exact absurd HA.out (by simp[fG.l0])
  |succ k1=>
   have H:=HA;clear HA;simp only[fG.l0] at H;exact uW
@[reducible,instance] def fG.c:=jM.of 0 Tryz.func98 @fG.calls

def kN.f (k:Nat) (az:ByteArray) (aA:ByteArray):Option (Bool):=if(az.size:Int)<=40 then((eO.f k az).bind fun aDI=>(if aDI=true then(if(aA.size:Int)<=190 then((fG.f k aA).bind fun aDJ=>(if aDJ=true then((cz.f k aA).bind fun akG=>(some (akG.toList==aA.toList))) else(some false))) else(some false)) else(some false))) else(some false)
theorem kN.e0 {p:Prop} (h:p:=by
  obtain rfl:=gK H.out
  go_enter Tryz.func58,Tryz.ntmps58
  go_wp2_with(first|((with_reducible refine vJ 1 rfl ?_);refine Iz #[.string az,.string aA] 72 ?_;intro NB hg mo hbox hb;have lG:=ae.mk (hbox);have NC:=rE hg;have ND:=rE hg;replace HB:=iC hb;clear hb hbox hg;have zm:=Js lG;have zn:=Jt lG;have zo:=ah lG.out 0;have zt:=ah lG.out 1)|(go_at_call 97;(with_reducible refine(eO.calls k az false _ A3.out).mono ?_);rintro e w' ⟨rfl,⟨nd,rfl⟩⟩;(try first|exact⟨rfl,_,World.drewN_drewN _ _ _⟩|exact⟨rfl,_,Eq.trans (World.drewN_drewN _ _ _) (congrArg (World.drewN _) (Nat.add_assoc _ _ _))⟩))|(go_at_call 97;(with_reducible refine(eO.calls k az true _ A3.out).mono ?_);rintro e w' ⟨rfl,⟨nd,rfl⟩⟩;(try first|exact⟨rfl,_,World.drewN_drewN _ _ _⟩|exact⟨rfl,_,Eq.trans (World.drewN_drewN _ _ _) (congrArg (World.drewN _) (Nat.add_assoc _ _ _))⟩))|(go_at_call 98;(with_reducible refine(fG.calls k aA false _ A6.out).mono ?_);rintro e w' ⟨rfl,⟨nd,rfl⟩⟩;(try first|exact⟨rfl,_,World.drewN_drewN _ _ _⟩|exact⟨rfl,_,Eq.trans (World.drewN_drewN _ _ _) (congrArg (World.drewN _) (Nat.add_assoc _ _ _))⟩))|(go_at_call 98;(with_reducible refine(fG.calls k aA true _ A6.out).mono ?_);rintro e w' ⟨rfl,⟨nd,rfl⟩⟩;(try first|exact⟨rfl,_,World.drewN_drewN _ _ _⟩|exact⟨rfl,_,Eq.trans (World.drewN_drewN _ _ _) (congrArg (World.drewN _) (Nat.add_assoc _ _ _))⟩))|(go_at_call 99;(with_reducible refine(cz.calls k aA akG _ A8.out).mono ?_);rintro e w' ⟨rfl,⟨nd,rfl⟩⟩;(try first|exact⟨rfl,_,World.drewN_drewN _ _ _⟩|exact⟨rfl,_,Eq.trans (World.drewN_drewN _ _ _) (congrArg (World.drewN _) (Nat.add_assoc _ _ _))⟩)))
  repeat(first|go_quiet (first|((with_reducible refine vJ 1 rfl ?_);refine Iz #[.string az,.string aA] 72 ?_;intro NB hg mo hbox hb;have lG:=ae.mk (hbox);have NC:=rE hg;have ND:=rE hg;replace HB:=iC hb;clear hb hbox hg;have zm:=Js lG;have zn:=Jt lG;have zo:=ah lG.out 0;have zt:=ah lG.out 1));try go_wp2_with(first|((with_reducible refine vJ 1 rfl ?_);refine Iz #[.string az,.string aA] 72 ?_;intro NB hg mo hbox hb;have aqY:=iC hb;have aqZ:=ae.mk (hbox);have aq0:=rE hg;have aq1:=rE hg;clear HB;have HB:=aqY;have lG:=aqZ;have NC:=aq0;have ND:=aq1;clear aqY aqZ aq0 aq1;clear hb hbox hg;have zm:=Js lG;have zn:=Jt lG;have zo:=ah lG.out 0;have zt:=ah lG.out 1))|go_quiet (first|((with_reducible refine vJ 1 rfl ?_);refine Iz #[.string az,.string aA] 72 ?_;intro NB hg mo hbox hb;have lG:=ae.mk (hbox);have NC:=rE hg;have ND:=rE hg;replace HB:=iC hb;clear hb hbox hg;have zm:=Js lG;have zn:=Jt lG;have zo:=ah lG.out 0;have zt:=ah lG.out 1)|(go_at_call 97;(with_reducible refine(eO.calls k az false _ A3.out).mono ?_);rintro e w' ⟨rfl,⟨nd,rfl⟩⟩;(try first|exact⟨rfl,_,World.drewN_drewN _ _ _⟩|exact⟨rfl,_,Eq.trans (World.drewN_drewN _ _ _) (congrArg (World.drewN _) (Nat.add_assoc _ _ _))⟩)));try go_wp2_with(first|((with_reducible refine vJ 1 rfl ?_);refine Iz #[.string az,.string aA] 72 ?_;intro NB hg mo hbox hb;have X4:=iC hb;have abG:=ae.mk (hbox);have abH:=rE hg;have abI:=rE hg;clear HB;have HB:=X4;have lG:=abG;have NC:=abH;have ND:=abI;clear X4 abG abH abI;clear hb hbox hg;have zm:=Js lG;have zn:=Jt lG;have zo:=ah lG.out 0;have zt:=ah lG.out 1)|(go_at_call 97;(with_reducible refine(eO.calls k az false _ A3.out).mono ?_);rintro e w' ⟨rfl,⟨nd,rfl⟩⟩;(try first|exact⟨rfl,_,World.drewN_drewN _ _ _⟩|exact⟨rfl,_,Eq.trans (World.drewN_drewN _ _ _) (congrArg (World.drewN _) (Nat.add_assoc _ _ _))⟩)))|go_quiet (first|((with_reducible refine vJ 1 rfl ?_);refine Iz #[.string az,.string aA] 72 ?_;intro NB hg mo hbox hb;have lG:=ae.mk (hbox);have NC:=rE hg;have ND:=rE hg;replace HB:=iC hb;clear hb hbox hg;have zm:=Js lG;have zn:=Jt lG;have zo:=ah lG.out 0;have zt:=ah lG.out 1)|(go_at_call 97;(with_reducible refine(eO.calls k az true _ A3.out).mono ?_);rintro e w' ⟨rfl,⟨nd,rfl⟩⟩;(try first|exact⟨rfl,_,World.drewN_drewN _ _ _⟩|exact⟨rfl,_,Eq.trans (World.drewN_drewN _ _ _) (congrArg (World.drewN _) (Nat.add_assoc _ _ _))⟩)));try go_wp2_with(first|((with_reducible refine vJ 1 rfl ?_);refine Iz #[.string az,.string aA] 72 ?_;intro NB hg mo hbox hb;have yc:=iC hb;have Mj:=ae.mk (hbox);have aq2:=rE hg;have aq3:=rE hg;clear HB;have HB:=yc;have lG:=Mj;have NC:=aq2;have ND:=aq3;clear yc Mj aq2 aq3;clear hb hbox hg;have zm:=Js lG;have zn:=Jt lG;have zo:=ah lG.out 0;have zt:=ah lG.out 1)|(go_at_call 97;(with_reducible refine(eO.calls k az true _ A3.out).mono ?_);rintro e w' ⟨rfl,⟨nd,rfl⟩⟩;(try first|exact⟨rfl,_,World.drewN_drewN _ _ _⟩|exact⟨rfl,_,Eq.trans (World.drewN_drewN _ _ _) (congrArg (World.drewN _) (Nat.add_assoc _ _ _))⟩)))|go_quiet (first|((with_reducible refine vJ 1 rfl ?_);refine Iz #[.string az,.string aA] 72 ?_;intro NB hg mo hbox hb;have lG:=ae.mk (hbox);have NC:=rE hg;have ND:=rE hg;replace HB:=iC hb;clear hb hbox hg;have zm:=Js lG;have zn:=Jt lG;have zo:=ah lG.out 0;have zt:=ah lG.out 1)|(go_at_call 97;(with_reducible refine(eO.calls k az true _ A3.out).mono ?_);rintro e w' ⟨rfl,⟨nd,rfl⟩⟩;(try first|exact⟨rfl,_,World.drewN_drewN _ _ _⟩|exact⟨rfl,_,Eq.trans (World.drewN_drewN _ _ _) (congrArg (World.drewN _) (Nat.add_assoc _ _ _))⟩))|(go_at_call 98;(with_reducible refine(fG.calls k aA false _ A6.out).mono ?_);rintro e w' ⟨rfl,⟨nd,rfl⟩⟩;(try first|exact⟨rfl,_,World.drewN_drewN _ _ _⟩|exact⟨rfl,_,Eq.trans (World.drewN_drewN _ _ _) (congrArg (World.drewN _) (Nat.add_assoc _ _ _))⟩)));try go_wp2_with(first|((with_reducible refine vJ 1 rfl ?_);refine Iz #[.string az,.string aA] 72 ?_;intro NB hg mo hbox hb;have yJ:=iC hb;have xY:=ae.mk (hbox);have L8:=rE hg;have abJ:=rE hg;clear HB;have HB:=yJ;have lG:=xY;have NC:=L8;have ND:=abJ;clear yJ xY L8 abJ;clear hb hbox hg;have zm:=Js lG;have zn:=Jt lG;have zo:=ah lG.out 0;have zt:=ah lG.out 1)|(go_at_call 97;(with_reducible refine(eO.calls k az true _ A3.out).mono ?_);rintro e w' ⟨rfl,⟨nd,rfl⟩⟩;(try first|exact⟨rfl,_,World.drewN_drewN _ _ _⟩|exact⟨rfl,_,Eq.trans (World.drewN_drewN _ _ _) (congrArg (World.drewN _) (Nat.add_assoc _ _ _))⟩))|(go_at_call 98;(with_reducible refine(fG.calls k aA false _ A6.out).mono ?_);rintro e w' ⟨rfl,⟨nd,rfl⟩⟩;(try first|exact⟨rfl,_,World.drewN_drewN _ _ _⟩|exact⟨rfl,_,Eq.trans (World.drewN_drewN _ _ _) (congrArg (World.drewN _) (Nat.add_assoc _ _ _))⟩)))|go_quiet (first|((with_reducible refine vJ 1 rfl ?_);refine Iz #[.string az,.string aA] 72 ?_;intro NB hg mo hbox hb;have lG:=ae.mk (hbox);have NC:=rE hg;have ND:=rE hg;replace HB:=iC hb;clear hb hbox hg;have zm:=Js lG;have zn:=Jt lG;have zo:=ah lG.out 0;have zt:=ah lG.out 1)|(go_at_call 97;(with_reducible refine(eO.calls k az true _ A3.out).mono ?_);rintro e w' ⟨rfl,⟨nd,rfl⟩⟩;(try first|exact⟨rfl,_,World.drewN_drewN _ _ _⟩|exact⟨rfl,_,Eq.trans (World.drewN_drewN _ _ _) (congrArg (World.drewN _) (Nat.add_assoc _ _ _))⟩))|(go_at_call 98;(with_reducible refine(fG.calls k aA true _ A6.out).mono ?_);rintro e w' ⟨rfl,⟨nd,rfl⟩⟩;(try first|exact⟨rfl,_,World.drewN_drewN _ _ _⟩|exact⟨rfl,_,Eq.trans (World.drewN_drewN _ _ _) (congrArg (World.drewN _) (Nat.add_assoc _ _ _))⟩))|(go_at_call 99;(with_reducible refine(cz.calls k aA akG _ A8.out).mono ?_);rintro e w' ⟨rfl,⟨nd,rfl⟩⟩;(try first|exact⟨rfl,_,World.drewN_drewN _ _ _⟩|exact⟨rfl,_,Eq.trans (World.drewN_drewN _ _ _) (congrArg (World.drewN _) (Nat.add_assoc _ _ _))⟩)));try go_wp2_with(first|((with_reducible refine vJ 1 rfl ?_);refine Iz #[.string az,.string aA] 72 ?_;intro NB hg mo hbox hb;have aq4:=iC hb;have LZ:=ae.mk (hbox);have L6:=rE hg;have abN:=rE hg;clear HB;have HB:=aq4;have lG:=LZ;have NC:=L6;have ND:=abN;clear aq4 LZ L6 abN;clear hb hbox hg;have zm:=Js lG;have zn:=Jt lG;have zo:=ah lG.out 0;have zt:=ah lG.out 1)|(go_at_call 97;(with_reducible refine(eO.calls k az true _ A3.out).mono ?_);rintro e w' ⟨rfl,⟨nd,rfl⟩⟩;(try first|exact⟨rfl,_,World.drewN_drewN _ _ _⟩|exact⟨rfl,_,Eq.trans (World.drewN_drewN _ _ _) (congrArg (World.drewN _) (Nat.add_assoc _ _ _))⟩))|(go_at_call 98;(with_reducible refine(fG.calls k aA true _ A6.out).mono ?_);rintro e w' ⟨rfl,⟨nd,rfl⟩⟩;(try first|exact⟨rfl,_,World.drewN_drewN _ _ _⟩|exact⟨rfl,_,Eq.trans (World.drewN_drewN _ _ _) (congrArg (World.drewN _) (Nat.add_assoc _ _ _))⟩))|(go_at_call 99;(with_reducible refine(cz.calls k aA akG _ A8.out).mono ?_);rintro e w' ⟨rfl,⟨nd,rfl⟩⟩;(try first|exact⟨rfl,_,World.drewN_drewN _ _ _⟩|exact⟨rfl,_,Eq.trans (World.drewN_drewN _ _ _) (congrArg (World.drewN _) (Nat.add_assoc _ _ _))⟩))))
  go_ret
  exact⟨su,dL⟩):p:=h
theorem kN.calls (k:Nat) (az aA:ByteArray) (r:Bool) (w:World) (h:kN.f k az aA=some r) :
  Calls Tryz.prog 58 #[.agg #[.string az,.string aA]] w fun e w'=>e = .returned (.bool r)/\Below w.heap.size w w':=by
 have UL:=Tryz.underlying72;have HB:=ae.mk (Below.refl w.heap.size w);have H:=ae.mk h;clear h;unfold kN.f at H;rcases GM H with⟨c2,xU,-,H⟩|⟨c2,xU,-,H⟩
 ·have EG:decide (az.size<=40)=true:=aQ aa;clear c2;rcases D6 H with⟨A3,H⟩|⟨A3,H⟩
  ·rcases GM H with⟨c5,xW,-,H⟩|⟨c5,xW,-,H⟩
   ·have LW:decide (aA.size<=190)=true:=aQ aa;clear c5;rcases D6 H with⟨A6,H⟩|⟨A6,H⟩
    ·obtain⟨akG,A8,H⟩:=xE H;exact kN.e0
    ·exact kN.e0
   ·have LW:decide (aA.size<=190)=false:=aT aa;clear c5;exact kN.e0
  ·exact kN.e0
 ·have EG:decide (az.size<=40)=false:=aT aa;clear c2;exact kN.e0
@[reducible,instance] def kN.c:=jM.of 0 Tryz.func58 @kN.calls

end Go.Proofs.YtfhllanhldbkkaaGreatDoor.P
