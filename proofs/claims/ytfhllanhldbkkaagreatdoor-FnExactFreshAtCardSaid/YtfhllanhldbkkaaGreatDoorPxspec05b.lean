import Derived.Test.YtfhllanhldbkkaaGreatDoorPxspec02j
set_option maxHeartbeats 8000000
set_option maxRecDepth 100000
namespace Go.Proofs.YtfhllanhldbkkaaGreatDoor.P
open Go.RowKit Go.Proofs.YtfhllanhldbkkaaGreatDoorW.aW Go.Proofs.YtfhllanhldbkkaaGreatDoorW.eQ Go.Proofs.YtfhllanhldbkkaaGreatDoorW.fO
attribute [local go_sem] kV kW mE mF jP jQ kX kY dZ E8 E9 Fa Fb oU oV
set_option linter.unusedVariables false
set_option linter.unusedSimpArgs false

def fJ.l0 : Nat->List (j6)->Int->Option (Bool)
 |0,_,_=>none
 |k+1,x0,x3=>if x3<(x0.length:Int) then(if 0<=x3 then((kN.f k ((bF x0 x3).f0) ((bF x0 x3).f1)).bind fun aDa=>(if aDa=true then(fJ.l0 k x0 (wrap64 (x3+1))) else(some false))) else(none)) else(some true)
def fJ.f (k:Nat) (l0:List (j6)):Option (Bool):=if(l0.length:Int)>20 then(some false) else(fJ.l0 k l0 0)
theorem fJ.calls (k:Nat) (A0:Option Addr) (c0:Nat) (l0:List (j6)) (r:Bool) (w:World) (hr0:Kd.C tZ w A0 l0.length l0) (hc0:l0.length<=c0) (h:fJ.f k l0=some r) :
  Calls Tryz.prog 32 #[.slice A0 l0.length c0] w fun e w'=>e = .returned (.bool r)/\Below w.heap.size w w':=by
 have UL:=Tryz.underlying72;have GL:=ae.mk hr0;have GG:=ae.mk hc0;clear hr0 hc0;have HB:=ae.mk (Below.refl w.heap.size w);have H:=ae.mk h;clear h;unfold fJ.f at H;rcases GM H with⟨c2,-,-,H⟩|⟨c2,-,-,H⟩
 ·have xU:decide (20<(l0.length:Int))=true:=aQ c2;have EG:decide (20<l0.length)=true:=aQ aa;clear c2;exact uE
 ·have xU:decide (20<(l0.length:Int))=false:=aT c2;have EG:decide (20<l0.length)=false:=aT aa;clear c2;go_enter Tryz.func32,Tryz.ntmps32;go_wp2;go_loopg [3] k (fun kq v3 w'=>∃(jD:Int),v3 = .int .i64 jD/\ae (fJ.l0 kq l0 jD=some r)/\ae (kq<=k)/\ae (Below w.heap.size w w'))
  case atStart=>exact⟨(0),kD,H,⟨Nat.le_refl _⟩,⟨dL⟩⟩
  case round=>
   clear H;try clear c2
   try clear xU
   try clear EG
   obtain⟨jD,rfl,HA,mh,HB⟩:=hrel;cases gk with
   |zero=>exact absurd HA.out (by simp[fJ.l0])
   |succ k1=>
    have H:=HA;clear HA;simp only[fJ.l0] at H;exact uW
@[reducible,instance] def fJ.c:=jM.of 0 Tryz.func32 @fJ.calls

def nU.f (k:Nat) (az:ByteArray) (aA:ByteArray):Option (ByteArray):=(kN.f k az aA).bind fun aDb=>(if aDb=true then(if az.size+2<=9223372036854775807 then(if(az++(⟨#[58,32]⟩:af)).size+aA.size<=9223372036854775807 then(some ((az++(⟨#[58,32]⟩:af))++aA)) else(none)) else(none)) else(some (⟨#[]⟩:af)))
theorem nU.calls (k:Nat) (az aA r:ByteArray) (w:World) (h:nU.f k az aA=some r) :
  Calls Tryz.prog 103 #[.agg #[.string az,.string aA]] w fun e w'=>e = .returned (.string r)/\Below w.heap.size w w':=by
 have UL:=Tryz.underlying72;unfold nU.f at h;exact uA
@[reducible,instance] def nU.c:=jM.of 0 Tryz.func103 @nU.calls

def gX.l0 : Nat->List (j6)->ByteArray->List ByteArray->Int->Option (List ByteArray)
 |0,_,_,_,_=>none
 |k+1,x0,x1,x5,x6=>if x6<(x0.length:Int) then(if 0<=x6 then((mZ.f ((bF x0 x6).f0) x1).bind fun axN=>(if axN=true then(if x5.length<8796093022208 then(gX.l0 k x0 x1 (x5 ++ [(bF x0 x6).f1]) (wrap64 (x6+1))) else(none)) else(gX.l0 k x0 x1 x5 (wrap64 (x6+1))))) else(none)) else(some x5)
def gX.f (k:Nat) (l0:List (j6)) (a1:ByteArray):Option (List ByteArray):=(fJ.f k l0).bind fun axO=>(if axO=true then(gX.l0 k l0 a1 ([]:List ByteArray) 0) else(some ([]:List ByteArray)))
theorem gX.calls (k:Nat) (A0:Option Addr) (c0:Nat) (l0:List (j6)) (a1:ByteArray) (r:List ByteArray) (w:World) (hr0:Kd.C tZ w A0 l0.length l0) (hc0:l0.length<=c0) (h:gX.f k l0 a1=some r) :
  Calls Tryz.prog 76 #[.slice A0 l0.length c0,.string a1] w fun e w'=>∃ KW:Value,e = .returned (KW)/\Kd.R Kd.string 9 w' w.heap.size (fun _=>True) KW r/\Below w.heap.size w w':=by
 have GL:=ae.mk hr0;have GG:=ae.mk hc0;clear hr0 hc0;have HB:=ae.mk (Below.refl w.heap.size w);have H:=h;clear h;unfold gX.f at H;replace H:=WU H;rcases H with⟨A3,H⟩|⟨A3,H⟩
 ·replace H:=ae.mk H;go_enter Tryz.func76,Tryz.ntmps76;go_wp2_with(first|((with_reducible refine lS 32 rfl ?_);refine vI 8 rfl Tryz.func32 (fJ.calls k _ _ l0 true _ zs0 GG.out A3.out) fun w5 hb HB=>?_;clear hb));go_loopg [5,6] k (fun kq v5 v6 w'=>∃(gH:List ByteArray) (lN:Int),v6 = .int .i64 lN/\ae (gX.l0 kq l0 a1 gH lN=some r)/\ae (kq<=k)/\ae (Kd.R Kd.string 9 w' w.heap.size (fun _=>True) v5 gH)/\ae (Below w.heap.size w w'))
  case atStart=>exact⟨(([]:List ByteArray)),(0),kD,H,⟨Nat.le_refl _⟩,⟨Pe⟩,⟨dL⟩⟩
  case round=>
   clear H;obtain⟨gH,lN,rfl,HA,mh,wE,HB⟩:=hrel;cases gk with
   |zero=>exact absurd HA.out (by simp[gX.l0])
   |succ k1=>
    have H:=HA.out;clear HA;simp only[gX.l0] at H;replace H:=gI H;rcases H with⟨-,xV,-,H⟩|⟨-,xV,-,H⟩
    ·replace H:=gN H;obtain⟨-,Am,-,H⟩:=H;replace H:=WU H;rcases H with⟨A8,H⟩|⟨A8,H⟩
     ·replace H:=gN H;obtain⟨c10,-,-,H⟩:=H;have axP:=ae.mk c10;clear c10;obtain⟨aqO,VG⟩:∃ y_:List ByteArray,y_=(gH ++ [(bF l0 lN).f1]):=⟨_,rfl⟩;replace H:(gX.l0 k1 l0 a1 aqO (wrap64 (lN+1)))=some r:=by first|(rw[VG];with_reducible exact H)|(have mW:=(aj _ _).symm.trans H;rw[VG];with_reducible exact mW)|(have mW:=(aj _ _).symm.trans H;with_reducible exact mW)|with_reducible exact H|(rw[VG];exact H)|exact H
      have atz:=ae.mk VG;clear VG;replace H:=ae.mk H;have VH:0<=(lN:Int):=aX gq;have VI:lN<(l0.length:Int):=aX gq;obtain⟨akf,akg,F3,F4⟩:=D5 GL.out lN VH VI;cases akg
      replace F3:=(HB.out.cell (World.block_lt_of_cell? w _ F3)).trans F3;replace F4:=(HB.out.cell (World.block_lt_of_cell? w _ F4)).trans F4;replace VH:=eq_true VH;replace VI:=eq_true VI;go_wp2_with(first|((with_reducible refine lS 120 rfl ?_);refine vI 22 rfl Tryz.func120 (mZ.calls ((bF l0 lN).f0) a1 true _ A8.out) fun Oh hb HB=>?_;replace wE:=ae.mk (Kd.bz SK hb);clear hb;have akh:0<=(lN:Int):=aX gq;have aki:lN<(l0.length:Int):=aX gq;obtain⟨atA,axQ,VJ,VK⟩:=D5 GL.out lN akh aki;obtain rfl:akf=atA:=(by injection axQ);replace VJ:=(HB.out.cell (World.block_lt_of_cell? w _ VJ)).trans VJ;replace VK:=(HB.out.cell (World.block_lt_of_cell? w _ VK)).trans VK;replace akh:=eq_true akh;replace aki:=eq_true aki)|((with_reducible refine iF (b:=.append) (xs:=#[.tmp 23,.tmp 29]) rfl ?_);at_builtin;refine Kd.mG Kd.string (w0:=w) w.heap.size rfl (.tmp 23) (.tmp 29) 76 9 (.string ⟨#[]⟩) 16 rfl Tryz.underlying76 Iy rfl av aa u5 gH ((bF l0 lN).f1) [.string ((bF l0 lN).f1)] (fun _=>True) (fun _=>False) rfl rfl ?aP (fun _ hk=>hk.elim) ?aF ?aO ?aB ?aS ?aL ?_;(case aP=>exact rfl);(case aB=>exact dL);(case aF=>exact(fun _ _=>trivial));(case aO=>exact SK);(case aS=>exact(bq dL));(case aL=>have:=axP.out;omega);intro aG5 Kk ho hb hg hat;rw[<- atz.out] at ho;have qb:=ae.mk (hb);have qU:=ae.mk (ho);clear HB;clear wE;have HB:=qb;have aDc:=qU;clear qb qU;clear ho hb hg hat));go_roundg k1
      case measure=>have:=mh.out;omega
      case rel=>exact⟨(aqO),(wrap64 (lN+1)),kD,H,⟨by have:=mh.out;omega⟩,⟨wh⟩,⟨dL⟩⟩
     ·replace H:=ae.mk H;have VH:0<=(lN:Int):=aX gq;have VI:lN<(l0.length:Int):=aX gq;obtain⟨akf,akg,F3,F4⟩:=D5 GL.out lN VH VI;cases akg
      replace F3:=(HB.out.cell (World.block_lt_of_cell? w _ F3)).trans F3;replace F4:=(HB.out.cell (World.block_lt_of_cell? w _ F4)).trans F4;replace VH:=eq_true VH;replace VI:=eq_true VI;go_wp2_with(first|((with_reducible refine lS 120 rfl ?_);refine vI 22 rfl Tryz.func120 (mZ.calls ((bF l0 lN).f0) a1 false _ A8.out) fun Kg hb HB=>?_;replace wE:=ae.mk (Kd.bz SK hb);clear hb));go_roundg k1
      case measure=>have:=mh.out;omega
      case rel=>exact⟨(gH),(wrap64 (lN+1)),kD,H,⟨by have:=mh.out;omega⟩,⟨wh⟩,⟨dL⟩⟩
    ·obtain rfl:=gK H;go_wp2;go_ret;exact⟨_,su,wh,dL⟩
 ·obtain rfl:=gK H;go_enter Tryz.func76,Tryz.ntmps76;go_wp2_with(first|((with_reducible refine lS 32 rfl ?_);refine vI 8 rfl Tryz.func32 (fJ.calls k _ _ l0 false _ zs0 GG.out A3.out) fun w14 hb HB=>?_;clear hb));go_ret;exact⟨_,su,Pe,dL⟩
@[reducible,instance] def gX.c:=jM.of 0 Tryz.func76 @gX.calls


def mM.f (k:Nat) (l0:List (j6)) (a1:ByteArray):Option (ByteArray×Bool):=(gX.f k l0 a1).bind fun Nz=>(if(Nz.length:Int)=0 then(some ((⟨#[]⟩:af),false)) else(if 0<(Nz.length:Int) then(some (ed ByteArray.empty Nz 0,true)) else(none)))
theorem mM.calls (k:Nat) (A0:Option Addr) (c0:Nat) (l0:List (j6)) (a1 r1:ByteArray) (r2:Bool) (w:World) (hr0:Kd.C tZ w A0 l0.length l0) (hc0:l0.length<=c0) (h:mM.f k l0 a1=some (r1,r2)) :
  Calls Tryz.prog 44 #[.slice A0 l0.length c0,.string a1] w fun e w'=>e = .returned (.tuple #[.string r1,.bool r2])/\Below w.heap.size w w':=by
 have GL:=ae.mk hr0;have GG:=ae.mk hc0;clear hr0 hc0;have HB:=ae.mk (Below.refl w.heap.size w);have H:=ae.mk h;clear h;unfold mM.f at H;obtain⟨Nz,A3,H⟩:=xE H;rcases GM H with⟨c4,-,-,H⟩|⟨c4,-,-,H⟩
 ·obtain⟨yE,Kh⟩:=Cu c4;clear c4;simp only[Option.some.injEq,Prod.mk.injEq] at H;obtain⟨rfl,rfl⟩:=H;go_enter Tryz.func44,Tryz.ntmps44;go_wp2_with(first|((with_reducible refine lS 76 rfl ?_);refine WK 9 rfl Tryz.func76 (gX.calls k _ _ l0 a1 Nz _ zs0 GG.out A3.out) ?_;rintro e w5 ⟨axR,rfl,ho0,hb⟩;refine⟨_,rfl,?_⟩;have ZG:=ae.mk (Kd.gZ ho0 (bq dL));replace HB:=iC hb;clear hb;(try clear ho0);obtain⟨Ao6,co6,eo6⟩:=Kd.dE ZG.out;subst eo6));go_ret2;exact⟨su,dL⟩
 ·obtain⟨yE,Kh⟩:=Di c4;have agw:¬ (Nz = []):=fun h_=>c4 (by rw[h_];rfl);rcases GM H with⟨c7,Am,-,H⟩|⟨c7,-,-,H⟩
  ·have Zt:decide (0<Nz.length)=true:=aQ aa;clear c7;simp only[Option.some.injEq,Prod.mk.injEq] at H;obtain⟨rfl,rfl⟩:=H;go_enter Tryz.func44,Tryz.ntmps44;go_wp2_with(first|((with_reducible refine lS 76 rfl ?_);refine WK 9 rfl Tryz.func76 (gX.calls k _ _ l0 a1 Nz _ zs0 GG.out A3.out) ?_;rintro e w8 ⟨axR,rfl,ho0,hb⟩;refine⟨_,rfl,?_⟩;have ZG:=ae.mk (Kd.gZ ho0 (bq dL));replace HB:=iC hb;clear hb;(try clear ho0);obtain⟨Ao9,co9,eo9⟩:=Kd.dE ZG.out;subst eo9;have akj:0<=(0:Int):=aa;have akk:0<(Nz.length:Int):=aX gq;obtain⟨aDd,axS,abW⟩:=Kd.iM (Kd.aJ ZG.out).2.2 0 akj akk;cases axS;have aDe:(0<Nz.length)=True:=eq_true aa;(try rw[show((0:Int)).toNat=0 from rfl] at abW);(try rw[Addr.add_zero'] at abW);replace akj:=eq_true akj;replace akk:=eq_true akk));go_ret2;exact⟨su,dL⟩
  ·exact absurd H.out (by simp)
@[reducible,instance] def mM.c:=jM.of 0 Tryz.func44 @mM.calls

def gY.l0 : Nat->List ByteArray->ByteArray->Int->Option (ByteArray)
 |0,_,_,_=>none
 |k+1,x5,x6,x7=>if x7<(x5.length:Int) then(if x7>0 then(if x6.size+2<=9223372036854775807 then(if 0<=x7 then(if(x6++(⟨#[44,32]⟩:af)).size+(ed ByteArray.empty x5 x7).size<=9223372036854775807 then(gY.l0 k x5 ((x6++(⟨#[44,32]⟩:af))++(ed ByteArray.empty x5 x7)) (wrap64 (x7+1))) else(none)) else(none)) else(none)) else(if 0<=x7 then(if x6.size+(ed ByteArray.empty x5 x7).size<=9223372036854775807 then(gY.l0 k x5 (x6++(ed ByteArray.empty x5 x7)) (wrap64 (x7+1))) else(none)) else(none))) else(some x6)
def gY.f (k:Nat) (l0:List (j6)) (a1:ByteArray):Option (ByteArray):=(gX.f k l0 a1).bind fun abX=>(gY.l0 k abX (⟨#[]⟩:af) 0)
theorem gY.calls (k:Nat) (A0:Option Addr) (c0:Nat) (l0:List (j6)) (a1 r:ByteArray) (w:World) (hr0:Kd.C tZ w A0 l0.length l0) (hc0:l0.length<=c0) (h:gY.f k l0 a1=some r) :
  Calls Tryz.prog 123 #[.slice A0 l0.length c0,.string a1] w fun e w'=>e = .returned (.string r)/\Below w.heap.size w w':=by
 have GL:=ae.mk hr0;have GG:=ae.mk hc0;clear hr0 hc0;have HB:=ae.mk (Below.refl w.heap.size w);have H:=ae.mk h;clear h;unfold gY.f at H;obtain⟨abX,A3,H⟩:=xE H;go_enter Tryz.func123,Tryz.ntmps123;go_wp2_with(first|((with_reducible refine lS 76 rfl ?_);refine WK 10 rfl Tryz.func76 (gX.calls k _ _ l0 a1 abX _ zs0 GG.out A3.out) ?_;rintro e w4 ⟨axT,rfl,ho0,hb⟩;refine⟨_,rfl,?_⟩;have Ra:=ae.mk (Kd.gZ ho0 (bq dL));replace HB:=iC hb;clear hb;(try clear ho0)));go_loopg [6,7] k (fun kq v6 v7 w'=>∃(lN:ByteArray) (yF:Int),v6 = .string lN/\v7 = .int .i64 yF/\ae (gY.l0 kq abX lN yF=some r)/\ae (kq<=k)/\ae (Kd.R Kd.string 9 w' w.heap.size (fun _=>True) axT abX)/\ae (Below w.heap.size w w'))
 case atStart=>exact⟨((⟨#[]⟩:af)),(0),kD,kD,H,⟨Nat.le_refl _⟩,⟨wh⟩,⟨dL⟩⟩
 case round=>
  clear H;obtain⟨lN,yF,rfl,rfl,HA,mh,Rb,HB⟩:=hrel;cases gk with
  |zero=>exact absurd HA.out (by simp[gY.l0])
  |succ k1=>
   have H:=HA;clear HA;simp only[gY.l0] at H;exact uW
@[reducible,instance] def gY.c:=jM.of 0 Tryz.func123 @gY.calls

def mR.f (k:Nat) (l0:List (j6)) (a1:ByteArray):Option (List ByteArray):=(gY.f k l0 a1).bind fun afl=>((aY.f k afl).bind fun akl=>(some akl))
theorem mR.calls (k:Nat) (A0:Option Addr) (c0:Nat) (l0:List (j6)) (a1:ByteArray) (r:List ByteArray) (w:World) (hr0:Kd.C tZ w A0 l0.length l0) (hc0:l0.length<=c0) (h:mR.f k l0 a1=some r) :
  Calls Tryz.prog 80 #[.slice A0 l0.length c0,.string a1] w fun e w'=>∃ KW:Value,e = .returned (KW)/\Kd.R Kd.string 9 w' w.heap.size (fun _=>True) KW r/\Below w.heap.size w w':=by
 have GL:=ae.mk hr0;have GG:=ae.mk hc0;clear hr0 hc0;have HB:=ae.mk (Below.refl w.heap.size w);have H:=ae.mk h;clear h;unfold mR.f at H;obtain⟨afl,A3,H⟩:=xE H;obtain⟨akl,A4,H⟩:=xE H;obtain rfl:=gK H.out;go_enter Tryz.func80,Tryz.ntmps80;go_wp2_with(first|((with_reducible refine lS 123 rfl ?_);refine vI 7 rfl Tryz.func123 (gY.calls k _ _ l0 a1 afl _ zs0 GG.out A3.out) fun w5 hb HB=>?_;clear hb)|((with_reducible refine lS 122 rfl ?_);refine WK 8 rfl Tryz.func122 (aY.calls k afl akl _ A4.out) ?_;rintro e w6 ⟨aG6,rfl,ho0,hb⟩;refine⟨_,rfl,?_⟩;have aDf:=ae.mk (Kd.gZ ho0 (bq dL));replace HB:=iC hb;clear hb;(try clear ho0)));go_ret;exact⟨_,su,wh,dL⟩
@[reducible,instance] def mR.c:=jM.of 0 Tryz.func80 @mR.calls


def dP.l0 : Nat->ByteArray->Int->Option (Bool)
 |0,_,_=>none
 |k+1,x0,x3=>if x3<(x0.size:Int) then(if 0<=x3 then(if(bt x0 x3)<33 then(some false) else(if(bt x0 x3)>126 then(some false) else(dP.l0 k x0 (wrap64 (x3+1))))) else(none)) else(some (decide ((x0.size:Int)>0)))
def dP.f (k:Nat) (a0:ByteArray):Option (Bool):=dP.l0 k a0 0
theorem dP.calls (k:Nat) (a0:ByteArray) (r:Bool) (w:World) (h:dP.f k a0=some r) :
  Calls Tryz.prog 100 #[.string a0] w fun e w'=>e = .returned (.bool r)/\bL w w':=by
 have H:=ae.mk h;clear h;unfold dP.f at H;go_enter Tryz.func100,Tryz.ntmps100;go_wp2;go_loopg [3] k (fun kq v3 w'=>∃(jD:Int),v3 = .int .i64 jD/\ae (dP.l0 kq a0 jD=some r)/\ae (kq<=k)/\bL w w')
 case atStart=>exact⟨(0),kD,H,⟨Nat.le_refl _⟩,TP⟩
 case round=>
  clear H;obtain⟨jD,rfl,HA,mh,⟨m1,rfl⟩⟩:=hrel;cases gk with
  |zero=>exact absurd HA.out (by simp[dP.l0])
  |succ k1=>
   have H:=HA;clear HA;simp only[dP.l0] at H;exact uW
@[reducible,instance] def dP.c:=jM.of 0 Tryz.func100 @dP.calls

def dS.l0 : Nat->ByteArray->Int->Int->Option (ByteArray)
 |0,_,_,_=>none
 |k+1,x0,x1,x5=>if x5<(x0.size:Int) then(if 0<=x5 then(if(bt x0 x5)=x1 then(if x5<=(x0.size:Int) then(some (x0.extract 0 (x5:Int).toNat)) else(none)) else(dS.l0 k x0 x1 (wrap64 (x5+1)))) else(none)) else(some x0)
def dS.f (k:Nat) (a0:ByteArray) (a1:Int):Option (ByteArray):=dS.l0 k a0 a1 0
theorem dS.calls (k:Nat) (a0:ByteArray) (a1:Int) (r:ByteArray) (w:World) (h:dS.f k a0 a1=some r) :
  Calls Tryz.prog 140 #[.string a0,.int .u8 a1] w fun e w'=>e = .returned (.string r)/\bL w w':=by
 have H:=ae.mk h;clear h;unfold dS.f at H;go_enter Tryz.func140,Tryz.ntmps140;go_wp2;go_loopg [5] k (fun kq v5 w'=>∃(gH:Int),v5 = .int .i64 gH/\ae (dS.l0 kq a0 a1 gH=some r)/\ae (kq<=k)/\bL w w')
 case atStart=>exact⟨(0),kD,H,⟨Nat.le_refl _⟩,TP⟩
 case round=>
  clear H;obtain⟨gH,rfl,HA,mh,⟨m1,rfl⟩⟩:=hrel;cases gk with
  |zero=>exact absurd HA.out (by simp[dS.l0])
  |succ k1=>
   have H:=HA;clear HA;simp only[dS.l0] at H;exact uW
@[reducible,instance] def dS.c:=jM.of 0 Tryz.func140 @dS.calls

def iZ.l0 : Nat->List (j6)->Int->Option (Bool)
 |0,_,_=>none
 |k+1,x0,x3=>if x3<(x0.length:Int) then(if 0<=x3 then((jk.f ((bF x0 x3).f0)).bind fun atB=>(if atB.toList=([99,111,110,116,101,110,116,45,108,101,110,103,116,104]:aM) then(some true) else(if atB.toList=([116,114,97,110,115,102,101,114,45,101,110,99,111,100,105,110,103]:aM) then(some true) else(if atB.toList=([116,114,97,105,108,101,114]:aM) then(some true) else(iZ.l0 k x0 (wrap64 (x3+1))))))) else(none)) else(some false)
def iZ.f (k:Nat) (l0:List (j6)):Option (Bool):=iZ.l0 k l0 0
theorem iZ.calls (k:Nat) (A0:Option Addr) (c0:Nat) (l0:List (j6)) (r:Bool) (w:World) (hr0:Kd.C tZ w A0 l0.length l0) (hc0:l0.length<=c0) (h:iZ.f k l0=some r) :
  Calls Tryz.prog 59 #[.slice A0 l0.length c0] w fun e w'=>e = .returned (.bool r)/\Below w.heap.size w w':=by
 have GL:=ae.mk hr0;have GG:=ae.mk hc0;clear hr0 hc0;have HB:=ae.mk (Below.refl w.heap.size w);have H:=ae.mk h;clear h;unfold iZ.f at H;go_enter Tryz.func59,Tryz.ntmps59;go_wp2;go_loopg [3] k (fun kq v3 w'=>∃(jD:Int),v3 = .int .i64 jD/\ae (iZ.l0 kq l0 jD=some r)/\ae (kq<=k)/\ae (Below w.heap.size w w'))
 case atStart=>exact⟨(0),kD,H,⟨Nat.le_refl _⟩,⟨dL⟩⟩
 case round=>
  clear H;obtain⟨jD,rfl,HA,mh,HB⟩:=hrel;cases gk with
  |zero=>exact absurd HA.out (by simp[iZ.l0])
  |succ k1=>
   have H:=HA;clear HA;simp only[iZ.l0] at H;exact uW
@[reducible,instance] def iZ.c:=jM.of 0 Tryz.func59 @iZ.calls


def wm.f (a0:Int):Option (Bool):=if a0=204 then(some true) else(some (a0==304))
theorem wm.calls (a0:Int) (r:Bool) (w:World) (h:wm.f a0=some r) :
  Calls Tryz.prog 101 #[.int .i64 a0] w fun e w'=>e = .returned (.bool r)/\bL w w':=by
 unfold wm.f at h;exact uA
@[reducible,instance] def wm.c:=jM.of 0 Tryz.func101 @wm.calls

def oP.f (k:Nat) (az:ByteArray) (aA:ByteArray) (aC:Int) (bI:ByteArray) (aG:Bool) (fM:List (j6)) (aZ:ByteArray):Option (Bool):=if aA.toList=([]:aM) then(if aC<200 then(some false) else(if aC>599 then(some false) else(if(bI.size:Int)>40 then(some false) else((fG.f k bI).bind fun aDg=>(if aDg=true then(if aG=true then(if aZ.toList=([]:aM) then(some true) else(some false)) else((wm.f aC).bind fun aDh=>(some (!aDh)))) else(some false)))))) else(some false)
theorem oP.calls (k:Nat) (az aA:ByteArray) (aC:Int) (bI:ByteArray) (aG:Bool) (wT:Option Addr) (wU:Nat) (fM:List (j6)) (aZ:ByteArray) (r:Bool) (w:World) (wo:Kd.C tZ w wT fM.length fM) (wu:fM.length<=wU) (h:oP.f k az aA aC bI aG fM aZ=some r) :
  Calls Tryz.prog 61 #[.agg #[.string az,.string aA,.int .i64 aC,.string bI,.bool aG,.slice wT fM.length wU,.string aZ]] w fun e w'=>e = .returned (.bool r)/\Below w.heap.size w w':=by
 have WV:=Tryz.underlying31;have RQ:=ae.mk wo;have RS:=ae.mk wu;clear wo wu;unfold oP.f at h;exact uA
@[reducible,instance] def oP.c:=jM.of 0 Tryz.func61 @oP.calls


mutual
def dD.j0 : Nat->ByteArray->ByteArray->ByteArray->Int->ByteArray->Bool->List (j6)->ByteArray->Option (ByteArray)
 |0,_,_,_,_,_,_,_,_=>none
 |k+1,x3,Tm,ZH,ZI,ZJ,Tn,M0,M3=>dD.l0 k x3 0 Tm ZH ZI ZJ Tn M0 M3
def dD.l0 : Nat->ByteArray->Int->ByteArray->ByteArray->Int->ByteArray->Bool->List (j6)->ByteArray->Option (ByteArray)
 |0,_,_,_,_,_,_,_,_,_=>none
 |k+1,x3,x4,Tm,ZH,ZI,ZJ,Tn,M0,M3=>if x4<(M0.length:Int) then(if 0<=x4 then((nU.f k ((bF M0 x4).f0) ((bF M0 x4).f1)).bind fun atC=>(if x3.size+atC.size<=9223372036854775807 then(if(x3++atC).size+2<=9223372036854775807 then(dD.l0 k ((x3++atC)++(⟨#[13,10]⟩:af)) (wrap64 (x4+1)) Tm ZH ZI ZJ Tn M0 M3) else(none)) else(none))) else(none)) else(if Tm.toList=([]:aM) then(if Tn=true then(if x3.size+2<=9223372036854775807 then(some (x3++(⟨#[13,10]⟩:af))) else(none)) else(if x3.size+16<=9223372036854775807 then((bX.f k (M3.size:Int)).bind fun anZ=>(if(x3++(⟨#[67,111,110,116,101,110,116,45,76,101,110,103,116,104,58,32]⟩:af)).size+anZ.size<=9223372036854775807 then(if((x3++(⟨#[67,111,110,116,101,110,116,45,76,101,110,103,116,104,58,32]⟩:af))++anZ).size+2<=9223372036854775807 then(if(((x3++(⟨#[67,111,110,116,101,110,116,45,76,101,110,103,116,104,58,32]⟩:af))++anZ)++(⟨#[13,10]⟩:af)).size+2<=9223372036854775807 then(some ((((x3++(⟨#[67,111,110,116,101,110,116,45,76,101,110,103,116,104,58,32]⟩:af))++anZ)++(⟨#[13,10]⟩:af))++(⟨#[13,10]⟩:af))) else(none)) else(none)) else(none))) else(none))) else(if M3.toList=([]:aM) then(if x3.size+2<=9223372036854775807 then(some (x3++(⟨#[13,10]⟩:af))) else(none)) else(if x3.size+16<=9223372036854775807 then((bX.f k (M3.size:Int)).bind fun an0=>(if(x3++(⟨#[67,111,110,116,101,110,116,45,76,101,110,103,116,104,58,32]⟩:af)).size+an0.size<=9223372036854775807 then(if((x3++(⟨#[67,111,110,116,101,110,116,45,76,101,110,103,116,104,58,32]⟩:af))++an0).size+2<=9223372036854775807 then(if(((x3++(⟨#[67,111,110,116,101,110,116,45,76,101,110,103,116,104,58,32]⟩:af))++an0)++(⟨#[13,10]⟩:af)).size+2<=9223372036854775807 then(some ((((x3++(⟨#[67,111,110,116,101,110,116,45,76,101,110,103,116,104,58,32]⟩:af))++an0)++(⟨#[13,10]⟩:af))++(⟨#[13,10]⟩:af))) else(none)) else(none)) else(none))) else(none))))
end
def dD.f (k:Nat) (az:ByteArray) (aA:ByteArray) (aC:Int) (bI:ByteArray) (aG:Bool) (fM:List (j6)) (aZ:ByteArray):Option (ByteArray):=if az.size+1<=9223372036854775807 then(if(az++(⟨#[32]⟩:af)).size+aA.size<=9223372036854775807 then(if((az++(⟨#[32]⟩:af))++aA).size+11<=9223372036854775807 then(if az.toList=([]:aM) then((bX.f k aC).bind fun abY=>(if 9+abY.size<=9223372036854775807 then(if((⟨#[72,84,84,80,47,49,46,49,32]⟩:af)++abY).size+1<=9223372036854775807 then(if(((⟨#[72,84,84,80,47,49,46,49,32]⟩:af)++abY)++(⟨#[32]⟩:af)).size+bI.size<=9223372036854775807 then(if((((⟨#[72,84,84,80,47,49,46,49,32]⟩:af)++abY)++(⟨#[32]⟩:af))++bI).size+2<=9223372036854775807 then(dD.j0 k (((((⟨#[72,84,84,80,47,49,46,49,32]⟩:af)++abY)++(⟨#[32]⟩:af))++bI)++(⟨#[13,10]⟩:af)) az aA aC bI aG fM aZ) else(none)) else(none)) else(none)) else(none))) else(dD.j0 k (((az++(⟨#[32]⟩:af))++aA)++(⟨#[32,72,84,84,80,47,49,46,49,13,10]⟩:af)) az aA aC bI aG fM aZ)) else(none)) else(none)) else(none)
def dD.T3 : Bool×List (List Nat×List Nat):=(true,[([],[]),([0],[0]),([1],[1]),([2],[2]),([3],[3]),([],[]),([5],[5]),([4,6],[4,6]),([7],[7]),([8,2,0,1,2,3,4,5,6,7,8],[8])])
def dD.B3 : List Nat:=[0,1,3,7,15,0,32,127,255,511]
theorem dD.UR : pX .any (opsOf Tryz.f62 3)=dD.T3:=by kernel_rfl
theorem dD.LJ : jK dD.T3.2 dD.B3=true:=by kernel_rfl
theorem dD.calls (k:Nat) (az aA:ByteArray) (aC:Int) (bI:ByteArray) (aG:Bool) (wT:Option Addr) (wU:Nat) (fM:List (j6)) (aZ r:ByteArray) (w:World) (wo:Kd.C tZ w wT fM.length fM) (wu:fM.length<=wU) (h:dD.f k az aA aC bI aG fM aZ=some r) :
  Calls Tryz.prog 62 #[.agg #[.string az,.string aA,.int .i64 aC,.string bI,.bool aG,.slice wT fM.length wU,.string aZ]] w fun e w'=>e = .returned (.string r)/\Below w.heap.size w w':=by
 have WV:=Tryz.underlying31;have UL:=Tryz.underlying72;have RQ:=ae.mk wo;have RS:=ae.mk wu;clear wo wu;have HB:=ae.mk (Below.refl w.heap.size w);have H:=ae.mk h;clear h;unfold dD.f at H;rcases GM H with⟨c2,EG,xU,H⟩|⟨c2,-,-,H⟩
 ·try have alX:=eq_false (Nat.not_lt.2 c2)
  obtain⟨c3,GI,nS,H⟩:=Ci H;try have ac7:=eq_false (Nat.not_lt.2 c3)
  try(have atD:=c3;simp only[ByteArray.size_append,yP,List.length_cons,List.length_nil,Nat.zero_add,Nat.reduceAdd] at atD;replace atD:=eq_false (Nat.not_lt.2 atD))
  obtain⟨c4,Kh,yE,H⟩:=Ci H;try have agw:=eq_false (Nat.not_lt.2 c4)
  try(have VC:=c4;simp only[ByteArray.size_append,yP,List.length_cons,List.length_nil,Nat.zero_add,Nat.reduceAdd] at VC;replace VC:=eq_false (Nat.not_lt.2 VC))
  have HC5:=H;clear H;go_enter Tryz.func62,Tryz.ntmps62;go_upto_if 14 with(first|((with_reducible refine vJ 1 rfl ?_);refine qo #[.string az,.string aA,.int .i64 aC,.string bI,.bool aG,.slice wT fM.length wU,.string aZ] 31 ?_;intro NA hg w6 hbox hb;have qb:=iC hb;have qU:=ae.mk (hbox);have I5:=rE hg;have UW:=rE hg;clear HB;have HB:=qb;have Ba:=qU;have aG7:=I5;have aG8:=UW;clear qb qU I5 UW;clear hb hbox hg;obtain⟨_,_,_,_,_,_,_⟩:=Pd Ba;obtain⟨_,_,_,_,_,_,_⟩:=agd Ba));(try simp only[Act.put,List.setIfInBounds_toArray,List.set_cons_zero,List.set_cons_succ])
  go_cut [3] (fun v3 wc=>∃(kq:Nat) (an1:ByteArray),v3 = .string an1/\ae (dD.j0 kq an1 az aA aC bI aG fM aZ=some r)/\ae (kq<=k)/\ae (wc.heap[NA]? = some (.cells #[.string az,.string aA,.int .i64 aC,.string bI,.bool aG,(.slice wT fM.length wU),.string aZ] 31 (0,0)))/\ae (Below w.heap.size w wc))
  case first=>
   have H:=HC5;clear HC5;rcases GM H with⟨c8,-,-,H⟩|⟨c8,-,-,H⟩
   ·have zS:(az.toList==([]:aM))=true:=beq_iff_eq.mpr c8;have adY:az.toList.isEmpty=true:=List.isEmpty_iff.mpr c8;have Zy:(az.toList != ([]:aM))=false:=bne_eq_false_iff_eq.mpr c8;clear c8;(first|rw[zS]|rw[adY]|(simp only[jJ,lY];rw[zS])|skip)
    obtain⟨abY,A9,H⟩:=xE H;obtain⟨c10,aeY,Cm,H⟩:=Ci H;try have aqP:=eq_false (Nat.not_lt.2 c10)
    obtain⟨c11,aa8,EA,H⟩:=Ci H;try have aiO:=eq_false (Nat.not_lt.2 c11)
    try(have Sm:=c11;simp only[ByteArray.size_append,yP,List.length_cons,List.length_nil,Nat.zero_add,Nat.reduceAdd] at Sm;replace Sm:=eq_false (Nat.not_lt.2 Sm))
    obtain⟨c12,Nk,Ab,H⟩:=Ci H;try have apI:=eq_false (Nat.not_lt.2 c12)
    try(have akm:=c12;simp only[ByteArray.size_append,yP,List.length_cons,List.length_nil,Nat.zero_add,Nat.reduceAdd] at akm;replace akm:=eq_false (Nat.not_lt.2 akm))
    obtain⟨c13,GX,zi,H⟩:=Ci H;try have aiP:=eq_false (Nat.not_lt.2 c13)
    try(have I7:=c13;simp only[ByteArray.size_append,yP,List.length_cons,List.length_nil,Nat.zero_add,Nat.reduceAdd] at I7;replace I7:=eq_false (Nat.not_lt.2 I7))
    try go_wp2
    replace Ba:=ae.mk (dh Ba.out);replace HB:=ae.mk (bn HB.out);refine kJ (n:=10) (S:=fun w'=>w'.cell? ⟨NA,0,none⟩=some (.string az)/\w'.cell? ⟨NA,1,none⟩=some (.string aA)/\w'.cell? ⟨NA,2,none⟩=some (.int .i64 aC)/\w'.cell? ⟨NA,3,none⟩=some (.string bI)/\w'.cell? ⟨NA,4,none⟩=some (.bool aG)/\w'.cell? ⟨NA,5,none⟩=some (.slice wT fM.length wU)/\w'.cell? ⟨NA,6,none⟩=some (.string aZ)) (ds:=[]) (Pd Ba) (fun hHeld=>?_);refine dY dD.UR dD.LJ (fun HT_ HW_=>?_);generalize w6.drew=mo at Ba HB hHeld ⊢;repeat(first|refine mr ?_ (hy:=Or.inl ⟨by rfl,by rintro w' ⟨s0,s1,s2,s3,s4,s5,s6⟩;go_simp;with_reducible rfl⟩)|refine ek ?_)
    refine bN 5 (some 20) ?_;refine fQ 6 (some 21) (hy:=Or.inl ⟨by rfl,by rintro w' ⟨s0,s1,s2,s3,s4,s5,s6⟩;go_simp;with_reducible rfl⟩) ?_;refine gV (fun K hK=>?_);refine EC Tryz.func102 (bX.calls k aC abY _ A9.out) fun mV hb=>?_;replace Ba:=jr (g:=NA) hb;replace HB:=iC hb;(try clear hb)
    refine hK.out _ _ (Pd Ba) (fun hHeld=>?_);clear hK K;refine dI ?_;repeat(first|refine ek ?_)
    refine lh (gP HT_.out eB) ?_;try go_wp2
    go_meet
    case rel=>exact⟨_,(((((⟨#[72,84,84,80,47,49,46,49,32]⟩:af)++abY)++(⟨#[32]⟩:af))++bI)++(⟨#[13,10]⟩:af)),kD,H,⟨Ld⟩,⟨yz⟩,⟨dL⟩⟩
   ·have zS:(az.toList==([]:aM))=false:=beq_eq_false_iff_ne.mpr c8;have adY:az.toList.isEmpty=false:=Bool.eq_false_iff.mpr (fun h_=>c8 (List.isEmpty_iff.mp h_));have Zy:(az.toList != ([]:aM))=true:=bne_iff_ne.mpr c8;(first|rw[zS]|rw[adY]|(simp only[jJ,lY];rw[zS])|skip)
    exact uW
  case rest=>
   clear HC5;try clear c2
   try clear xU
   try clear EG
   try clear alX
   try clear c3
   try clear nS
   try clear GI
   try clear ac7
   try clear c4
   try clear yE
   try clear Kh
   try clear agw
   obtain⟨kq,an1,rfl,HA,HJ4,Ba,HB⟩:=hcut;cases kq with
   |zero=>exact absurd HA.out (by simp[dD.j0])
   |succ kj4=>
    have H:=HA;clear HA;simp only[dD.j0] at H;go_wp2;go_loopg [3,4] kj4 (fun kq v3 v4 w'=>∃(rA:ByteArray) (lF:Int),v3 = .string rA/\v4 = .int .i64 lF/\ae (dD.l0 kq rA lF az aA aC bI aG fM aZ=some r)/\ae (kq<=kj4)/\ae (w'.heap[NA]? = some (.cells #[.string az,.string aA,.int .i64 aC,.string bI,.bool aG,(.slice wT fM.length wU),.string aZ] 31 (0,0)))/\ae (Below w.heap.size w w'))
    case atStart=>exact⟨(an1),(0),kD,kD,H,⟨Nat.le_refl _⟩,⟨yz⟩,⟨dL⟩⟩
    case round=>
     clear H;try clear c2
     try clear xU
     try clear EG
     try clear alX
     try clear c3
     try clear nS
     try clear GI
     try clear ac7
     try clear c4
     try clear yE
     try clear Kh
     try clear agw
     obtain⟨rA,lF,rfl,rfl,HA,Cv,Ba,HB⟩:=hrel;cases gk with
     |zero=>exact absurd HA.out (by simp[dD.l0])
     |succ k2=>
      have H:=HA;clear HA;simp only[dD.l0] at H;exact uW
 ·exact absurd H.out (by simp)
@[reducible,instance] def dD.c:=jM.of 0 Tryz.func62 @dD.calls


def nV.f (k:Nat) (az:ByteArray) (aA:ByteArray) (aC:Int) (bI:ByteArray) (aG:Bool) (fM:List (j6)) (aZ:ByteArray):Option (Bool):=if(az.size:Int)<=20 then((eO.f k az).bind fun aDi=>(if aDi=true then(if(aA.size:Int)<=200 then((dP.f k aA).bind fun aDj=>(if aDj=true then(if aC=0 then(if bI.toList=([]:aM) then(some (!aG)) else(some false)) else(some false)) else(some false))) else(some false)) else(some false))) else(some false)
theorem nV.calls (k:Nat) (az aA:ByteArray) (aC:Int) (bI:ByteArray) (aG:Bool) (wT:Option Addr) (wU:Nat) (fM:List (j6)) (aZ:ByteArray) (r:Bool) (w:World) (wo:Kd.C tZ w wT fM.length fM) (wu:fM.length<=wU) (h:nV.f k az aA aC bI aG fM aZ=some r) :
  Calls Tryz.prog 60 #[.agg #[.string az,.string aA,.int .i64 aC,.string bI,.bool aG,.slice wT fM.length wU,.string aZ]] w fun e w'=>e = .returned (.bool r)/\Below w.heap.size w w':=by
 have WV:=Tryz.underlying31;have RQ:=ae.mk wo;have RS:=ae.mk wu;clear wo wu;unfold nV.f at h;exact uA
@[reducible,instance] def nV.c:=jM.of 0 Tryz.func60 @nV.calls


def jR.j0 : Nat->Bool->ByteArray->ByteArray->Int->ByteArray->Bool->List (j6)->ByteArray->Option (Bool)
 |0,_,_,_,_,_,_,_,_=>none
 |k+1,x23,P8,Tp,Tq,Tt,Tu,Tv,Tw=>if x23=true then(some false) else(if P8.toList=([]:aM) then((oP.f k P8 Tp Tq Tt Tu Tv Tw).bind fun aDk=>(if aDk=true then((dD.f k P8 Tp Tq Tt Tu Tv Tw).bind fun aDl=>(some (decide ((aDl.size:Int)<=1500)))) else(some false))) else((nV.f k P8 Tp Tq Tt Tu Tv Tw).bind fun aDm=>(if aDm=true then((dD.f k P8 Tp Tq Tt Tu Tv Tw).bind fun aDn=>(some (decide ((aDn.size:Int)<=1500)))) else(some false))))
def jR.f (k:Nat) (az:ByteArray) (aA:ByteArray) (aC:Int) (bI:ByteArray) (aG:Bool) (fM:List (j6)) (aZ:ByteArray):Option (Bool):=(fJ.f k fM).bind fun aDo=>(if aDo=true then(if(fM.length:Int)=20 then(jR.j0 k true az aA aC bI aG fM aZ) else((iZ.f k fM).bind fun aDp=>(if aDp=true then(jR.j0 k true az aA aC bI aG fM aZ) else(jR.j0 k (decide ((aZ.size:Int)>600)) az aA aC bI aG fM aZ)))) else(jR.j0 k true az aA aC bI aG fM aZ))
theorem jR.calls (k:Nat) (az aA:ByteArray) (aC:Int) (bI:ByteArray) (aG:Bool) (wT:Option Addr) (wU:Nat) (fM:List (j6)) (aZ:ByteArray) (r:Bool) (w:World) (wo:Kd.C tZ w wT fM.length fM) (wu:fM.length<=wU) (h:jR.f k az aA aC bI aG fM aZ=some r) :
  Calls Tryz.prog 33 #[.agg #[.string az,.string aA,.int .i64 aC,.string bI,.bool aG,.slice wT fM.length wU,.string aZ]] w fun e w'=>e = .returned (.bool r)/\Below w.heap.size w w':=by
 have WV:=Tryz.underlying31;have RQ:=ae.mk wo;have RS:=ae.mk wu;clear wo wu;have HB:=ae.mk (Below.refl w.heap.size w);have H:=ae.mk h;clear h;unfold jR.f at H;have vv:=H;clear H;go_enter Tryz.func33,Tryz.ntmps33;go_upto_region 1 with(first|((with_reducible refine vJ 1 rfl ?_);refine Iz #[.string az,.string aA,.int .i64 aC,.string bI,.bool aG,.slice wT fM.length wU,.string aZ] 31 ?_;intro axU hg w3 hbox hb;have Ba:=ae.mk (hbox);have aG9:=rE hg;replace HB:=iC hb;clear hb hbox hg));(try simp only[Act.put,List.setIfInBounds_toArray,List.set_cons_zero,List.set_cons_succ])
 go_cut [23] (fun v23 wc=>∃(kq:Nat) (akn:Bool),v23 = .bool akn/\ae (jR.j0 kq akn az aA aC bI aG fM aZ=some r)/\ae (kq<=k)/\ae (wc.heap[axU]? = some (.cells #[.string az,.string aA,.int .i64 aC,.string bI,.bool aG,(.slice wT fM.length wU),.string aZ] 31 (0,0)))/\ae (Below w.heap.size w wc))
 case first=>
  have H:=vv;clear vv;exact uW
 case rest=>
  clear vv;obtain⟨kq,akn,rfl,HA,Ch,Ba,HB⟩:=hcut;cases kq with
  |zero=>exact absurd HA.out (by simp[jR.j0])
  |succ vC=>
   have H:=HA;clear HA;simp only[jR.j0] at H;exact uW
@[reducible,instance] def jR.c:=jM.of 0 Tryz.func33 @jR.calls


def kC.f (k:Nat) (a0:Int):Option (Bool):=(kP.f a0).bind fun t227=>(if t227>=97 then(if t227<=122 then(some true) else((dQ.f a0).bind fun t228=>(if t228=true then(some true) else((iY.f k (⟨#[45,46,95,126]⟩:af) a0).bind fun t229=>(some t229))))) else((dQ.f a0).bind fun t230=>(if t230=true then(some true) else((iY.f k (⟨#[45,46,95,126]⟩:af) a0).bind fun t231=>(some t231)))))
theorem kC.mono : ∀ a0 k,MR (kC.f k a0) (kC.f (k+1) a0):=by
 intro a0 k
 have m0:=@iY.mono
 unfold kC.f
 exact uO
theorem kC.calls (k:Nat) (a0:Int) (r:Bool) (w:World) (h:kC.f k a0=some r) :
  Calls Tryz.prog 212 #[.int .u8 a0] w fun e w'=>e = .returned (.bool r)/\bL w w':=by
 unfold kC.f at h;exact uA
@[reducible,instance] def kC.c:=jM.of 0 Tryz.func212 @kC.calls

def nC.f (a0:Int):Option (Int):=if a0>=97 then(if a0<=122 then(some ((a0-32)%256)) else(some a0)) else(some a0)
theorem nC.calls (a0 r:Int) (w:World) (h:nC.f a0=some r) :
  Calls Tryz.prog 213 #[.int .u8 a0] w fun e w'=>e = .returned (.int .u8 r)/\bL w w':=by
 unfold nC.f at h;exact uA
@[reducible,instance] def nC.c:=jM.of 0 Tryz.func213 @nC.calls

end Go.Proofs.YtfhllanhldbkkaaGreatDoor.P
