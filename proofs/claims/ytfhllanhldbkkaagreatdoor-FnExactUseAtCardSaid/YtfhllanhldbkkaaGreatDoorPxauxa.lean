import Derived.Test.YtfhllanhldbkkaaGreatDoorPx0
set_option maxHeartbeats 8000000
set_option maxRecDepth 100000
namespace Go.Proofs.YtfhllanhldbkkaaGreatDoor.P
open Go.RowKit Go.Proofs.YtfhllanhldbkkaaGreatDoorW.aW Go.Proofs.YtfhllanhldbkkaaGreatDoorW.eQ Go.Proofs.YtfhllanhldbkkaaGreatDoorW.fO
attribute [local go_sem] kV kW mE mF jP jQ kX kY dZ E8 E9 Fa Fb oU oV
set_option linter.unusedVariables false
set_option linter.unusedSimpArgs false

def qw.f (az:ByteArray) (aA:ByteArray) (a1:Int):Option (Int):=if(wrap64 (a1-(az.size:Int)))<0 then(some (-1)) else(if(wrap64 ((wrap64 (a1-(az.size:Int)))-(aA.size:Int)))<0 then(some (-1)) else(some (wrap64 ((wrap64 (a1-(az.size:Int)))-(aA.size:Int)))))
theorem qw.calls (az aA:ByteArray) (a1 r:Int) (w:World) (h:qw.f az aA a1=some r) :
  Calls Tryz.prog 56 #[.agg #[.string az,.string aA],.int .i64 a1] w fun e w'=>e = .returned (.int .i64 r)/\Below w.heap.size w w':=by
 have ast:=Tryz.underlying69;unfold qw.f at h;exact uA
@[reducible,instance] def qw.c:=jM.of 0 Tryz.func56 @qw.calls

def gQ.l0 : Nat->List (ET)->Int->Int->Option (Int)
 |0,_,_,_=>none
 |k+1,x0,x1,x5=>if x5<(x0.length:Int) then(if 0<=x5 then((qw.f ((Ap x0 x5).f0) ((Ap x0 x5).f1) x1).bind fun t106=>(if t106<0 then(some (-1)) else(gQ.l0 k x0 t106 (wrap64 (x5+1))))) else(none)) else(some x1)
def gQ.f (k:Nat) (l0:List (ET)) (a1:Int):Option (Int):=if(wrap64 (a1-(l0.length:Int)))<0 then(some (-1)) else(gQ.l0 k l0 (wrap64 (a1-(l0.length:Int))) 0)
theorem gQ.calls (k:Nat) (A0:Option Addr) (c0:Nat) (l0:List (ET)) (a1 r:Int) (w:World) (hr0:Kd.C WJ w A0 l0.length l0) (hc0:l0.length<=c0) (h:gQ.f k l0 a1=some r) :
  Calls Tryz.prog 28 #[.slice A0 l0.length c0,.int .i64 a1] w fun e w'=>e = .returned (.int .i64 r)/\Below w.heap.size w w':=by
 have ast:=Tryz.underlying69;have GL:=ae.mk hr0;have GG:=ae.mk hc0;clear hr0 hc0;have HB:=ae.mk (Below.refl w.heap.size w);have H:=ae.mk h;clear h;unfold gQ.f at H;rcases GM H with⟨-,nS,-,H⟩|⟨-,nS,-,H⟩
 ·exact uE
 ·go_enter Tryz.func28,Tryz.ntmps28;go_wp2;go_loopg [1,5] k (fun kq v1 v5 w'=>∃(ac6:Int) (gH:Int),v1 = .int .i64 ac6/\v5 = .int .i64 gH/\ae (gQ.l0 kq l0 ac6 gH=some r)/\ae (kq<=k)/\ae (Below w.heap.size w w'))
  case atStart=>exact⟨(wrap64 (a1-(l0.length:Int))),(0),kD,kD,H,⟨Nat.le_refl _⟩,⟨dL⟩⟩
  case round=>
   clear H;try clear nS
   obtain⟨ac6,gH,rfl,rfl,HA,mh,HB⟩:=hrel;cases gk with
   |zero=>exact absurd HA.out (by simp[gQ.l0])
   |succ k1=>
    have H:=HA;clear HA;simp only[gQ.l0] at H;exact uW
@[reducible,instance] def gQ.c:=jM.of 0 Tryz.func28 @gQ.calls

def uZ.f (k:Nat) (az:ByteArray) (aA:ByteArray) (aC:Int) (bI:ByteArray) (aG:Bool) (fM:List (ET)) (aZ:ByteArray) (a1:Int):Option (Int):=if(wrap64 (a1-(az.size:Int)))<0 then(some (-1)) else(if(wrap64 ((wrap64 (a1-(az.size:Int)))-(aA.size:Int)))<0 then(some (-1)) else(if(wrap64 ((wrap64 ((wrap64 (a1-(az.size:Int)))-(aA.size:Int)))-(bI.size:Int)))<0 then(some (-1)) else((gQ.f k fM (wrap64 ((wrap64 ((wrap64 (a1-(az.size:Int)))-(aA.size:Int)))-(bI.size:Int)))).bind fun t110=>(if t110<0 then(some (-1)) else(if(wrap64 (t110-(aZ.size:Int)))<0 then(some (-1)) else(some (wrap64 (t110-(aZ.size:Int)))))))))
theorem uZ.calls (k:Nat) (az aA:ByteArray) (aC:Int) (bI:ByteArray) (aG:Bool) (wT:Option Addr) (wU:Nat) (fM:List (ET)) (aZ:ByteArray) (a1 r:Int) (w:World) (wo:Kd.C WJ w wT fM.length fM) (wu:fM.length<=wU) (h:uZ.f k az aA aC bI aG fM aZ a1=some r) :
  Calls Tryz.prog 29 #[.agg #[.string az,.string aA,.int .i64 aC,.string bI,.bool aG,.slice wT fM.length wU,.string aZ],.int .i64 a1] w fun e w'=>e = .returned (.int .i64 r)/\Below w.heap.size w w':=by
 have asu:=Tryz.underlying24;have RQ:=ae.mk wo;have RS:=ae.mk wu;clear wo wu;unfold uZ.f at h;exact uA
@[reducible,instance] def uZ.c:=jM.of 0 Tryz.func29 @uZ.calls


def lJ.f (k:Nat) (az:ByteArray) (aA:Int) (aC:Int) (bK:List (ET)) (aG:ByteArray) (bH:ByteArray) (aZ:Int) (df:ByteArray) (cZ:Bool) (bD:List (ET)) (bg:ByteArray) (a1:Int):Option (Int):=if(wrap64 (a1-(az.size:Int)))<0 then(some (-1)) else((gQ.f k bK (wrap64 (a1-(az.size:Int)))).bind fun t112=>(if t112<0 then(some (-1)) else((uZ.f k aG bH aZ df cZ bD bg t112).bind fun t113=>(if t113<0 then(some (-1)) else(some t113)))))
theorem lJ.calls (k:Nat) (az:ByteArray) (aA aC:Int) (jy:Option Addr) (jA:Nat) (bK:List (ET)) (aG bH:ByteArray) (aZ:Int) (df:ByteArray) (cZ:Bool) (jB:Option Addr) (jC:Nat) (bD:List (ET)) (bg:ByteArray) (a1 r:Int) (w:World) (ku:Kd.C WJ w jy bK.length bK) (kv:bK.length<=jA) (ky:Kd.C WJ w jB bD.length bD) (kz:bD.length<=jC) (h:lJ.f k az aA aC bK aG bH aZ df cZ bD bg a1=some r) :
  Calls Tryz.prog 10 #[.agg #[.string az,.int .i64 aA,.int .i64 aC,.slice jy bK.length jA,.string aG,.string bH,.int .i64 aZ,.string df,.bool cZ,.slice jB bD.length jC,.string bg],.int .i64 a1] w fun e w'=>e = .returned (.int .i64 r)/\Below w.heap.size w w':=by
 have asr:=Tryz.underlying26;have asu:=Tryz.underlying24;have xI:=ae.mk ku;have mD:=ae.mk kv;clear ku kv;have xB:=ae.mk ky;have lg:=ae.mk kz;clear ky kz;unfold lJ.f at h;exact uA
@[reducible,instance] def lJ.c:=jM.of 0 Tryz.func10 @lJ.calls

def rF.f (az:ByteArray) (aA:ByteArray):Option (ByteArray×ByteArray):=some (az,aA)
theorem rF.calls (az aA:ByteArray) (r1 r2:ByteArray) (w:World) (h:rF.f az aA=some (r1,r2)) :
  Calls Tryz.prog 63 #[.agg #[.string az,.string aA]] w fun e w'=>e = .returned (.agg #[.string r1,.string r2])/\Below w.heap.size w w':=by
 have ast:=Tryz.underlying69;have UL:=Tryz.underlying72;unfold rF.f at h;exact uA
@[reducible,instance] def rF.c:=jM.of 0 Tryz.func63 @rF.calls


def fC.l0 : Nat->List (ET)->List (j6)->Int->Option ((List (j6)))
 |0,_,_,_=>none
 |k+1,x0,x3,x4=>if x4<(x0.length:Int) then(if 0<=x4 then((rF.f ((Ap x0 x4).f0) ((Ap x0 x4).f1)).bind fun apU=>(if x4<(x3.length:Int) then(fC.l0 k x0 (x3.set (x4:Int).toNat (⟨apU.1,apU.2⟩:j6)) (wrap64 (x4+1))) else(none))) else(none)) else(some x3)
def fC.f (k:Nat) (l0:List (ET)):Option ((List (j6))):=if 0<=(l0.length:Int) then(if((l0.length:Int):Int).toNat<=8796093022208 then(fC.l0 k l0 (List.replicate ((l0.length:Int):Int).toNat z72) 0) else(none)) else(none)
theorem fC.calls (k:Nat) (A0:Option Addr) (c0:Nat) (l0:List (ET)) (r:List (j6)) (w:World) (hr0:Kd.C WJ w A0 l0.length l0) (hc0:l0.length<=c0) (h:fC.f k l0=some r) :
  Calls Tryz.prog 34 #[.slice A0 l0.length c0] w fun e w'=>∃ KW:Value,e = .returned (KW)/\Kd.R tZ 72 w' w.heap.size (fun _=>True) KW r/\Below w.heap.size w w':=by
 have ast:=Tryz.underlying69;have UL:=Tryz.underlying72;have GL:=ae.mk hr0;have GG:=ae.mk hc0;clear hr0 hc0;have HB:=ae.mk (Below.refl w.heap.size w);have H:=h;clear h;unfold fC.f at H;replace H:=gI H;rcases H with⟨-,EG,xU,H⟩|⟨c2,-,-,H⟩
 ·replace H:=gN H;obtain⟨-,GI,nS,H⟩:=H;obtain⟨auL,aas⟩:∃ y_:List (j6),y_=(List.replicate ((l0.length:Int):Int).toNat z72):=⟨_,rfl⟩;replace H:(fC.l0 k l0 auL 0)=some r:=by first|(rw[aas];with_reducible exact H)|(have mW:=(aj _ _).symm.trans H;rw[aas];with_reducible exact mW)|(have mW:=(aj _ _).symm.trans H;with_reducible exact mW)|with_reducible exact H|(rw[aas];exact H)|exact H
  have apV:=ae.mk aas;clear aas;replace H:=ae.mk H;go_enter Tryz.func34,Tryz.ntmps34;go_wp2_with(first|((with_reducible refine vJ 7 rfl ?_);refine Kd.ar9 tZ _ 72 rfl (N:=7) rfl 29 _ _ rfl (l0.length:Int) rfl rfl Tryz.underlying29 (.agg #[(.string ⟨#[]⟩),(.string ⟨#[]⟩)]) 32 asb rfl av aa z72 (ok:=fun _=>True) (okp:=fun _=>True) (aeu _ _ _ z72 ) (fun _ hk=>hk) trivial (aX gq) (Nat.le_trans (Nat.mul_le_mul_right _ (aX gq:(l0.length:Int).toNat<=8796093022208)) aa) (Below.refl _ _) (Nat.le_refl _) ?_;intro v127 w4 ho5 hb hg_ hnew_;clear hg_ hnew_;(first|rw[<- apV.out] at ho5|(simp only[Int.reduceToNat] at ho5;rw[<- apV.out] at ho5));have aEH:=ae.mk (Kd.gZ ho5 (bq dL));replace HB:=iC hb;clear hb ho5));go_loopg [4] k (fun kq v4 w'=>∃(jD:List (j6)) (gJ:Int),v4 = .int .i64 gJ/\ae (fC.l0 kq l0 jD gJ=some r)/\ae (kq<=k)/\ae (Kd.R tZ 72 w' w.heap.size (fun _=>True) v127 jD)/\ae (Below w.heap.size w w'))
  case atStart=>exact⟨(auL),(0),kD,H,⟨Nat.le_refl _⟩,⟨wh⟩,⟨dL⟩⟩
  case round=>
   clear H;try clear c2
   try clear xU
   try clear EG
   try clear nS
   try clear GI
   obtain⟨jD,gJ,rfl,HA,mh,jY,HB⟩:=hrel;cases gk with
   |zero=>exact absurd HA.out (by simp[fC.l0])
   |succ k1=>
    have H:=HA.out;clear HA;simp only[fC.l0] at H;replace H:=gI H;rcases H with⟨-,xV,-,H⟩|⟨-,xV,-,H⟩
    ·replace H:=gN H;obtain⟨-,Am,-,H⟩:=H;replace H:=gD H;obtain⟨⟨t130,t131⟩,A8,H⟩:=H;dsimp only at H;replace H:=gN H;obtain⟨-,LH,-,H⟩:=H;obtain⟨asv,aat⟩:∃ y_:List (j6),y_=(jD.set (gJ:Int).toNat (⟨t130,t131⟩:j6)):=⟨_,rfl⟩;replace H:(fC.l0 k1 l0 asv (wrap64 (gJ+1)))=some r:=by first|(rw[aat];with_reducible exact H)|(have mW:=(aj _ _).symm.trans H;rw[aat];with_reducible exact mW)|(have mW:=(aj _ _).symm.trans H;with_reducible exact mW)|with_reducible exact H|(rw[aat];exact H)|exact H
     have auM:=ae.mk aat;clear aat;replace H:=ae.mk H;have asw:0<=(gJ:Int):=aX gq;have asx:gJ<(l0.length:Int):=aX gq;obtain⟨aEI,e129,YZ,Y0⟩:=acU GL.out gJ asw asx;cases e129
     replace YZ:=(HB.out.cell (World.block_lt_of_cell? w _ YZ)).trans YZ;replace Y0:=(HB.out.cell (World.block_lt_of_cell? w _ Y0)).trans Y0;replace asw:=eq_true asw;replace asx:=eq_true asx;go_wp2_with(first|((with_reducible refine lS 63 rfl ?_);refine vI 20 rfl Tryz.func63 (rF.calls ((Ap l0 gJ).f0) ((Ap l0 gJ).f1) t130 t131 _ A8.out) fun Oh hb HB=>?_;replace jY:=ae.mk (Kd.bz SG hb);clear hb;have p10:0<=(gJ:Int):=aX gq;have q10:(gJ:Int)<((jD.length:Int):Int):=aX gq;obtain⟨Y1,asy,alr,auN,aAp,aIx,auO⟩:=Kd.ar7 jY.out aa;(first|cases alr|(injection alr with ea_ en_ ec_;(first|subst ea_|(injection ea_ with ea_;subst ea_));subst ec_;clear en_));have auP:=ae.mk auN;have aIy:=ae.mk auO;clear auN aAp auO;obtain⟨aIz,auQ,auR,ahG,ahH⟩:=Kd.ag6 jY.out z72 (gJ:Int) p10 q10;obtain rfl:=Xg auR;have aAq:Oh.cell? ⟨Y1,(gJ:Int).toNat*2,none⟩=some (.string ((bF jD gJ).f0)):=ahG 0 _ rfl;have aAr:Oh.cell? ⟨Y1,(gJ:Int).toNat*2+1,none⟩=some (.string ((bF jD gJ).f1)):=ahG 1 _ rfl;have aAs:Oh.frozen? ⟨Y1,(gJ:Int).toNat*2,none⟩=false:=ahH 0;have aAt:Oh.frozen? ⟨Y1,(gJ:Int).toNat*2+1,none⟩=false:=ahH 1;clear auQ ahG ahH auR;replace p10:=eq_true p10;replace q10:=eq_true q10;have auS:=ae.mk (show Kd.R tZ 72 Oh w.heap.size (fun _=>True) (.slice (some ⟨Y1,0,none⟩) jD.length asy) jD from SG);obtain⟨aIA,apW,auT,aeB,ahI⟩:=Kd.ag6 auS.out z72 (gJ:Int) (aX gq) (by have h_:(gJ:Int)<((jD.length:Int):Int):=aX gq;first|exact h_|(have e_:=(Kd.aJ jY.out).1;omega)|simpa using h_);obtain rfl:=Xg auT;have asz:=Kd.auu auS.out (gJ:Int) (aX gq) (by have h_:(gJ:Int)<((jD.length:Int):Int):=aX gq;first|exact h_|(have e_:=(Kd.aJ jY.out).1;omega)|simpa using h_) (seg:=[.string t130,.string t131]) (j:=0) apW aeB (show 2<=2 from by decide) (x':=(⟨t130,t131⟩:j6)) (aeu _ _ _ (⟨t130,t131⟩:j6) ) (fun _ hk=>hk);have asA:=aeB 0 _ rfl;(try simp only[show(tZ).sz=2 from rfl,Nat.mul_one,Nat.add_zero] at asA);have asB:=ahI 0;(try simp only[show(tZ).sz=2 from rfl,Nat.mul_one,Nat.add_zero] at asB);have asC:=aeB 1 _ rfl;(try simp only[show(tZ).sz=2 from rfl,Nat.mul_one,Nat.add_zero] at asC);have asD:=ahI 1;(try simp only[show(tZ).sz=2 from rfl,Nat.mul_one,Nat.add_zero] at asD);clear apW aeB ahI auT)|((with_reducible refine acR (t:=72) (p:=21) rfl ?_);refine aac (t:=72) (p:=21) (v:=?aAu) (w1:=((Oh.setCell ⟨Y1,(gJ:Int).toNat*2,none⟩ (.string t130)).setCell ⟨Y1,(gJ:Int).toNat*2+1,none⟩ (.string t131))) ?hg ?ho ?hn ?hr ?_;(case ho=>rfl);(case hg=>rfl);(case hn=>rfl);(case hr=>first|(go_simp;done)|(go_simp;rfl));intro Kg hw;have hg:Oh.grownBy Kg (some Y1):=(by rw[hw];exact asz.2);have hp_:Kd.R tZ 72 Kg w.heap.size (fun _=>True) (.slice (some ⟨Y1,0,none⟩) jD.length asy) asv:=(by rw[hw,auM.out];exact asz.1);clear asz;replace jY:=ae.mk (hp_);replace HB:=ae.mk ((by rw[hw];exact kH (kH (HB.out) auP.out) auP.out:Below w.heap.size w Kg));clear hg hw hp_));go_roundg k1
     case measure=>have:=mh.out;omega
     case rel=>exact⟨(asv),(wrap64 (gJ+1)),kD,H,⟨by have:=mh.out;omega⟩,⟨wh⟩,⟨dL⟩⟩
    ·obtain rfl:=gK H;go_wp2;go_ret;exact⟨_,su,wh,dL⟩
 ·exact absurd H (by simp)
@[reducible,instance] def fC.c:=jM.of 0 Tryz.func34 @fC.calls

def wI.f (k:Nat) (az:ByteArray) (aA:ByteArray) (aC:Int) (bI:ByteArray) (aG:Bool) (fM:List (ET)) (aZ:ByteArray):Option (ByteArray×ByteArray×Int×ByteArray×Bool×(List (j6))×ByteArray):=(fC.f k fM).bind fun t142=>(some (az,aA,aC,bI,aG,t142,aZ))
theorem wI.calls (k:Nat) (az aA:ByteArray) (aC:Int) (bI:ByteArray) (aG:Bool) (wT:Option Addr) (wU:Nat) (fM:List (ET)) (aZ r1 r2:ByteArray) (r3:Int) (r4:ByteArray) (r5:Bool) (r6:List (j6)) (r7:ByteArray) (w:World) (wo:Kd.C WJ w wT fM.length fM) (wu:fM.length<=wU) (h:wI.f k az aA aC bI aG fM aZ=some (r1,r2,r3,r4,r5,r6,r7)) :
  Calls Tryz.prog 35 #[.agg #[.string az,.string aA,.int .i64 aC,.string bI,.bool aG,.slice wT fM.length wU,.string aZ]] w fun e w'=>∃ v5_:Value,e = .returned (.agg #[.string r1,.string r2,.int .i64 r3,.string r4,.bool r5,v5_,.string r7])/\Kd.R tZ 72 w' w.heap.size (fun _=>True) v5_ r6/\Below w.heap.size w w':=by
 have asu:=Tryz.underlying24;have WV:=Tryz.underlying31;have RQ:=ae.mk wo;have RS:=ae.mk wu;clear wo wu;have HB:=ae.mk (Below.refl w.heap.size w);have H:=ae.mk h;clear h;unfold wI.f at H;obtain⟨t142,A2,H⟩:=xE H;simp only[Option.some.injEq,Prod.mk.injEq] at H;obtain⟨rfl,rfl,rfl,rfl,rfl,rfl,rfl⟩:=H;go_enter Tryz.func35,Tryz.ntmps35;go_wp2_with(first|((with_reducible refine vJ 1 rfl ?_);refine agk #[.string az,.string aA,.int .i64 aC,.string bI,.bool aG,.slice wT fM.length wU,.string aZ] 24 ?_;clear HB;intro aau w3 UM aEJ HB)|((with_reducible refine vJ 2 rfl ?_);refine qo #[.string (⟨#[]⟩:af),.string (⟨#[]⟩:af),.int .i64 0,.string (⟨#[]⟩:af),.bool false,.slice none 0 0,.string (⟨#[]⟩:af)] 31 ?_;intro aeC hg w4 hbox hb;have aav:=ae.mk (hbox);have aEK:=rE hg;have Xy:=O9 (g:=aau) hg;have agq:=QD Xy;replace UM:=jr (g:=aau) hb;replace HB:=iC hb;clear hb hbox hg)|((with_reducible refine vJ 3 rfl ?_);refine qo #[.string (⟨#[]⟩:af),.string (⟨#[]⟩:af),.int .i64 0,.string (⟨#[]⟩:af),.bool false,.slice none 0 0,.string (⟨#[]⟩:af)] 31 ?_;intro auU hg w5 hbox hb;have Xz:=ae.mk (hbox);have aEL:=rE hg;have XA:=O9 (g:=aau) hg;have agr:=QD XA;have XB:=O9 (g:=aeC) hg;have ags:=QD XB;replace UM:=jr (g:=aau) hb;replace aav:=jr (g:=aeC) hb;replace HB:=iC hb;clear hb hbox hg;have aAv:=Xy.out;have aAw:=agq.out;have aAx:=XA.out;have aAy:=agr.out;have _:=Pd UM;have _:=agd UM;have aIB:=ags.out;have aIC:=XB.out;have _:=Pd Xz;have _:=agd Xz)|((with_reducible refine lS 34 rfl ?_);refine WK 21 rfl Tryz.func34 (fC.calls k _ _ fM t142 _ (Kd.ng RQ.out dL) RS.out A2.out) ?_;rintro e Oh ⟨v143,rfl,ho0,hb⟩;refine⟨_,rfl,?_⟩;have apX:=ae.mk (Kd.gZ ho0 (bq dL));replace UM:=jr (g:=aau) hb;replace aav:=jr (g:=aeC) hb;replace Xz:=jr (g:=auU) (o:=.cells #[.string az,.string aA,.int .i64 aC,.string bI,.bool aG,.slice none 0 0,.string (⟨#[]⟩:af)] 31 (0,0)) hb;replace HB:=iC hb;clear hb;(try clear ho0);obtain⟨auV,auW,asE⟩:=Kd.dE apX.out;subst asE;have _:=Pd Xz;have _:=agd Xz;have _:=Pd UM;have _:=agd UM;have _:=Pd aav;have _:=agd aav));refine bodyPost_ret (results_cell_row rfl _ _ aeC 31 #[.string az,.string aA,.int .i64 aC,.string bI,.bool aG,.slice auV t142.length auW,.string aZ] (0,0) _ rfl gBz Tryz.underlying31 rfl eB) rfl ?_;exact⟨_,su,by(with_reducible repeat(first|apply Kd.bR|apply Kd.bP|apply Kd.bV));exact EZ (Kd.nO (Kd.nO apX.out Xz.out av) aav.out av) (fun _ hk=>trivial),dL⟩
@[reducible,instance] def wI.c:=jM.of 0 Tryz.func35 @wI.calls


def je.f (k:Nat) (az:ByteArray) (aA:Int) (aC:Int) (bK:List (ET)) (aG:ByteArray) (bH:ByteArray) (aZ:Int) (df:ByteArray) (cZ:Bool) (bD:List (ET)) (bg:ByteArray):Option (ByteArray×Int×Int×(List (j6))×ByteArray×ByteArray×Int×ByteArray×Bool×(List (j6))×ByteArray):=(fC.f k bK).bind fun t148=>((wI.f k aG bH aZ df cZ bD bg).bind fun UN=>(some (az,aA,aC,t148,UN.1,UN.2.1,UN.2.2.1,UN.2.2.2.1,UN.2.2.2.2.1,UN.2.2.2.2.2.1,UN.2.2.2.2.2.2)))
theorem je.calls (k:Nat) (az:ByteArray) (aA aC:Int) (jy:Option Addr) (jA:Nat) (bK:List (ET)) (aG bH:ByteArray) (aZ:Int) (df:ByteArray) (cZ:Bool) (jB:Option Addr) (jC:Nat) (bD:List (ET)) (bg r1:ByteArray) (r2 r3:Int) (r4:List (j6)) (r5 r6:ByteArray) (r7:Int) (r8:ByteArray) (r9:Bool) (Y2:List (j6)) (r11:ByteArray) (w:World) (ku:Kd.C WJ w jy bK.length bK) (kv:bK.length<=jA) (ky:Kd.C WJ w jB bD.length bD) (kz:bD.length<=jC) (h:je.f k az aA aC bK aG bH aZ df cZ bD bg=some (r1,r2,r3,r4,r5,r6,r7,r8,r9,Y2,r11)) :
  Calls Tryz.prog 12 #[.agg #[.string az,.int .i64 aA,.int .i64 aC,.slice jy bK.length jA,.string aG,.string bH,.int .i64 aZ,.string df,.bool cZ,.slice jB bD.length jC,.string bg]] w fun e w'=>∃ v3_ v9_:Value,e = .returned (.agg #[.string r1,.int .i64 r2,.int .i64 r3,v3_,.string r5,.string r6,.int .i64 r7,.string r8,.bool r9,v9_,.string r11])/\Kd.R tZ 72 w' w.heap.size (fun k_=>some k_≠(v9_:Value).ownBlock) v3_ r4/\Kd.R tZ 72 w' w.heap.size (fun k_=>some k_≠(v3_:Value).ownBlock) v9_ Y2/\Below w.heap.size w w':=by
 have asr:=Tryz.underlying26;have J9:=Tryz.underlying33;have asu:=Tryz.underlying24;have WV:=Tryz.underlying31;have xI:=ae.mk ku;have mD:=ae.mk kv;clear ku kv;have xB:=ae.mk ky;have lg:=ae.mk kz;clear ky kz;have HB:=ae.mk (Below.refl w.heap.size w);have H:=ae.mk h;clear h;unfold je.f at H;obtain⟨t148,A2,H⟩:=xE H;obtain⟨⟨t151,t152,t153,t154,t155,t156,t159⟩,A3,H⟩:=xE H;dsimp only at H;simp only[Option.some.injEq,Prod.mk.injEq] at H;obtain⟨rfl,rfl,rfl,rfl,rfl,rfl,rfl,rfl,rfl,rfl,rfl⟩:=H;go_enter Tryz.func12,Tryz.ntmps12;go_wp2_with(first|((with_reducible refine vJ 1 rfl ?_);refine agk #[.string az,.int .i64 aA,.int .i64 aC,.slice jy bK.length jA,.string aG,.string bH,.int .i64 aZ,.string df,.bool cZ,.slice jB bD.length jC,.string bg] 26 ?_;clear HB;intro XC mo XD aEM HB)|((with_reducible refine vJ 2 rfl ?_);refine qo #[.string (⟨#[]⟩:af),.int .i64 0,.int .i64 0,.slice none 0 0,.string (⟨#[]⟩:af),.string (⟨#[]⟩:af),.int .i64 0,.string (⟨#[]⟩:af),.bool false,.slice none 0 0,.string (⟨#[]⟩:af)] 33 ?_;intro aaw hg mV hbox hb;have XE:=ae.mk (hbox);have aEN:=rE hg;have XF:=O9 (g:=XC) hg;have agt:=QD XF;replace XD:=jr (g:=XC) hb;replace HB:=iC hb;clear hb hbox hg)|((with_reducible refine vJ 3 rfl ?_);refine qo #[.string (⟨#[]⟩:af),.int .i64 0,.int .i64 0,.slice none 0 0,.string (⟨#[]⟩:af),.string (⟨#[]⟩:af),.int .i64 0,.string (⟨#[]⟩:af),.bool false,.slice none 0 0,.string (⟨#[]⟩:af)] 33 ?_;intro apY hg tT hbox hb;have Ps:=ae.mk (hbox);have aEO:=rE hg;have XG:=O9 (g:=XC) hg;have agu:=QD XG;have XH:=O9 (g:=aaw) hg;have agv:=QD XH;replace XD:=jr (g:=XC) hb;replace XE:=jr (g:=aaw) hb;replace HB:=iC hb;clear hb hbox hg;have aAx:=XF.out;have aAy:=agt.out;have asF:=XG.out;have asG:=agu.out;have _:=E5 XD;have aEP:=agv.out;have aEQ:=XH.out;have _:=E5 Ps)|((with_reducible refine lS 34 rfl ?_);refine WK 15 rfl Tryz.func34 (fC.calls k _ _ bK t148 _ (Kd.ng xI.out dL) mD.out A2.out) ?_;rintro e Og ⟨aID,rfl,ho0,hb⟩;refine⟨_,rfl,?_⟩;have aax:=ae.mk (Kd.gZ ho0 (bq dL));replace XD:=jr (g:=XC) hb;replace XE:=jr (g:=aaw) hb;replace Ps:=jr (g:=apY) (o:=.cells #[.string az,.int .i64 aA,.int .i64 aC,.slice none 0 0,.string (⟨#[]⟩:af),.string (⟨#[]⟩:af),.int .i64 0,.string (⟨#[]⟩:af),.bool false,.slice none 0 0,.string (⟨#[]⟩:af)] 33 (0,0)) hb;replace HB:=iC hb;clear hb;(try clear ho0);obtain⟨auX,auY,aAz⟩:=Kd.dE aax.out;subst aAz;have _:=E5 Ps;have _:=E5 XD)|((with_reducible refine lS 35 rfl ?_);refine WK 19 rfl Tryz.func35 (wI.calls k aG bH aZ df cZ _ _ bD bg t151 t152 t153 t154 t155 t156 t159 _ (Kd.ng xB.out dL) lg.out A3.out) ?_;rintro e GH ⟨v157,rfl,ho0,hb⟩;refine⟨_,rfl,?_⟩;have apZ:=ae.mk (Kd.gZ (Kd.oF ho0 (Kd.vG (by(with_reducible repeat(first|apply Kd.bR|apply Kd.bP|apply Kd.bV));exact(EZ (Kd.nO aax.out Ps.out av) (fun _ h_=>h_.1))))) (bq dL));replace aax:=ae.mk (Kd.EX (by(with_reducible repeat(first|apply Kd.bR|apply Kd.bP|apply Kd.bV));exact(EZ (Kd.nO aax.out Ps.out av) (fun _ h_=>h_.1))) (Kd.nH ho0) hb);replace XD:=jr (g:=XC) hb;replace XE:=jr (g:=aaw) hb;replace Ps:=jr (g:=apY) (o:=.cells #[.string az,.int .i64 aA,.int .i64 aC,.slice auX t148.length auY,.string (⟨#[]⟩:af),.string (⟨#[]⟩:af),.int .i64 0,.string (⟨#[]⟩:af),.bool false,.slice none 0 0,.string (⟨#[]⟩:af)] 33 (0,0)) hb;replace HB:=iC hb;clear hb;(try clear ho0);have _:=E5 Ps;obtain⟨asH,asI,asJ⟩:=Kd.dE apZ.out;subst asJ;have _:=E5 XE));refine bodyPost_ret (results_cell_row rfl _ _ aaw 33 #[.string az,.int .i64 aA,.int .i64 aC,.slice auX t148.length auY,.string t151,.string t152,.int .i64 t153,.string t154,.bool t155,.slice asH t156.length asI,.string t159] (0,0) _ rfl gBz Tryz.underlying33 rfl eB) rfl ?_;exact⟨_,_,su,by(with_reducible repeat(first|apply Kd.bR|apply Kd.bP|apply Kd.bV));exact EZ (Kd.nO (Kd.nO aax.out Ps.out av) XE.out av) (fun _ hk=>hk.1.1.2),by(with_reducible repeat(first|apply Kd.bR|apply Kd.bP|apply Kd.bV));exact EZ (Kd.nO (Kd.nO apZ.out Ps.out av) XE.out av) (fun _ hk=>hk.1.1.2),dL⟩
@[reducible,instance] def je.c:=jM.of 0 Tryz.func12 @je.calls


def oz.f (az:ByteArray) (aA:ByteArray) (qC:ByteArray) (qD:ByteArray):Option (Bool):=if az.toList=qC.toList then(if aA.toList=qD.toList then(some true) else(some false)) else(some false)
theorem oz.calls (az aA:ByteArray) (qC qD:ByteArray) (r:Bool) (w:World) (h:oz.f az aA qC qD=some r) :
  Calls Tryz.prog 74 #[.agg #[.string az,.string aA],.agg #[.string qC,.string qD]] w fun e w'=>e = .returned (.bool r)/\Below w.heap.size w w':=by
 have UL:=Tryz.underlying72;unfold oz.f at h;exact uA
@[reducible,instance] def oz.c:=jM.of 0 Tryz.func74 @oz.calls


def dO.l0 : Nat->List (j6)->List (j6)->Int->Option (Bool)
 |0,_,_,_=>none
 |k+1,x0,x1,x5=>if x5<(x0.length:Int) then(if 0<=x5 then(if x5<(x1.length:Int) then((oz.f ((bF x0 x5).f0) ((bF x0 x5).f1) ((bF x1 x5).f0) ((bF x1 x5).f1)).bind fun aAA=>(if aAA=true then(dO.l0 k x0 x1 (wrap64 (x5+1))) else(some false))) else(none)) else(none)) else(some true)
def dO.f (k:Nat) (l0:List (j6)) (l1:List (j6)):Option (Bool):=if(l0.length:Int)=(l1.length:Int) then(dO.l0 k l0 l1 0) else(some false)
def dO.T6 : Bool×List (List Nat×List Nat):=(true,[([],[]),([],[]),([0,1],[0,1]),([2],[2]),([],[]),([],[]),([4,5],[4,5]),([6],[6]),([3,7],[3,7]),([8],[8])])
def dO.B6 : List Nat:=[0,0,3,7,0,0,48,112,255,511]
theorem dO.ahJ : pX .any (opsOf Tryz.f40 6)=dO.T6:=by kernel_rfl
theorem dO.aay : jK dO.T6.2 dO.B6=true:=by kernel_rfl
theorem dO.calls (k:Nat) (A0:Option Addr) (c0:Nat) (l0:List (j6)) (A1:Option Addr) (c1:Nat) (l1:List (j6)) (r:Bool) (w:World) (hr0:Kd.C tZ w A0 l0.length l0) (hc0:l0.length<=c0) (hr1:Kd.C tZ w A1 l1.length l1) (hc1:l1.length<=c1) (h:dO.f k l0 l1=some r) :
  Calls Tryz.prog 40 #[.slice A0 l0.length c0,.slice A1 l1.length c1] w fun e w'=>e = .returned (.bool r)/\Below w.heap.size w w':=by
 have UL:=Tryz.underlying72;have GL:=ae.mk hr0;have GG:=ae.mk hc0;clear hr0 hc0;have HR1:=ae.mk hr1;have HC1:=ae.mk hc1;clear hr1 hc1;have HB:=ae.mk (Below.refl w.heap.size w);have H:=ae.mk h;clear h;unfold dO.f at H;rcases GM H with⟨c3,-,-,H⟩|⟨c3,-,-,H⟩
 ·obtain⟨nS,GI⟩:=Cu c3;have ac7:(l0.length==l1.length)=true:=by first|simpa using c3|(simp at c3 ⊢;omega)
  clear c3;go_enter Tryz.func40,Tryz.ntmps40;go_wp2;go_loopg [5] k (fun kq v5 w'=>∃(gH:Int),v5 = .int .i64 gH/\ae (dO.l0 kq l0 l1 gH=some r)/\ae (kq<=k)/\ae (Below w.heap.size w w'))
  case atStart=>exact⟨(0),kD,H,⟨Nat.le_refl _⟩,⟨dL⟩⟩
  case round=>
   clear H;try clear c3
   try clear nS
   try clear GI
   try clear ac7
   obtain⟨gH,rfl,HA,mh,HB⟩:=hrel;cases gk with
   |zero=>exact absurd HA.out (by simp[dO.l0])
   |succ k1=>
    have H:=HA;clear HA;simp only[dO.l0] at H;rcases GM H with⟨-,yE,-,H⟩|⟨-,yE,-,H⟩
    ·obtain⟨-,xW,-,H⟩:=Ci H;obtain⟨-,xV,-,H⟩:=Ci H;rcases D6 H with⟨A7,H⟩|⟨A7,H⟩
     ·try go_wp2
      replace HB:=ae.mk (bn HB.out);have ac8:0<=(gH:Int):=aX gq;have ac9:gH<(l0.length:Int):=aX gq;obtain⟨UO,asK,Bz,BA⟩:=D5 GL.out gH ac8 ac9;have EH:=BA;have EI:=Bz;cases asK
      replace Bz:=(HB.out.cell (World.block_lt_of_cell? w _ Bz)).trans Bz;replace BA:=(HB.out.cell (World.block_lt_of_cell? w _ BA)).trans BA;replace ac8:=eq_true ac8;replace ac9:=eq_true ac9;have ada:0<=(gH:Int):=aX gq;have adb:gH<(l1.length:Int):=aX gq;obtain⟨UQ,asL,BB,BC⟩:=D5 HR1.out gH ada adb;have EJ:=BC;have EK:=BB;cases asL
      replace BB:=(HB.out.cell (World.block_lt_of_cell? w _ BB)).trans BB;replace BC:=(HB.out.cell (World.block_lt_of_cell? w _ BC)).trans BC;replace ada:=eq_true ada;replace adb:=eq_true adb;refine kJ (n:=10) (S:=fun w'=>w'.cell? (UO.add ((gH).toNat*2))=some (.string ((bF l0 gH).f0))/\w'.cell? ⟨(UO.add ((gH).toNat*2)).block,(UO.add ((gH).toNat*2)).off+1,none⟩=some (.string ((bF l0 gH).f1))/\w'.cell? (UQ.add ((gH).toNat*2))=some (.string ((bF l1 gH).f0))/\w'.cell? ⟨(UQ.add ((gH).toNat*2)).block,(UQ.add ((gH).toNat*2)).off+1,none⟩=some (.string ((bF l1 gH).f1))) (ds:=[]) ⟨((HB.out.cell (World.block_lt_of_cell? w _ EI)).trans EI),((HB.out.cell (World.block_lt_of_cell? w _ EH)).trans EH),((HB.out.cell (World.block_lt_of_cell? w _ EK)).trans EK),((HB.out.cell (World.block_lt_of_cell? w _ EJ)).trans EJ)⟩ (fun hHeld=>?_);refine dY dO.ahJ dO.aay (fun HT_ HW_=>?_);generalize wr.drew=mo at HB Bz BA BB BC hHeld ⊢;repeat(first|refine mr ?_ (hy:=Or.inl ⟨by rfl,auC⟩)|refine ek ?_|(refine gV (fun K hK=>?_);refine lQ Tryz.func74 eB rfl #[.agg #[.string ((bF l0 gH).f0),.string ((bF l0 gH).f1)],.agg #[.string ((bF l1 gH).f0),.string ((bF l1 gH).f1)]] (by rfl) rfl rfl Iu ?_;(with_reducible refine(oz.calls ((bF l0 gH).f0) ((bF l0 gH).f1) ((bF l1 gH).f0) ((bF l1 gH).f1) true _ A7.out).mono ?_);rintro e mV ⟨rfl,hb⟩;refine⟨_,rfl,?_⟩;replace HB:=iC hb;clear hb;refine hK.out _ _ ⟨((HB.out.cell (World.block_lt_of_cell? w _ EI)).trans EI),((HB.out.cell (World.block_lt_of_cell? w _ EH)).trans EH),((HB.out.cell (World.block_lt_of_cell? w _ EK)).trans EK),((HB.out.cell (World.block_lt_of_cell? w _ EJ)).trans EJ)⟩ (fun hHeld=>?_);clear hK K;refine dI ?_))
      refine lh (gP HT_.out eB) ?_;try go_wp2
      go_roundg k1
      case measure=>have:=mh.out;omega
      case rel=>exact⟨(wrap64 (gH+1)),kD,H,⟨by have:=mh.out;omega⟩,⟨dL⟩⟩
     ·obtain rfl:=gK H.out;try go_wp2
      replace HB:=ae.mk (bn HB.out);have ac8:0<=(gH:Int):=aX gq;have ac9:gH<(l0.length:Int):=aX gq;obtain⟨UO,asK,Bz,BA⟩:=D5 GL.out gH ac8 ac9;have EH:=BA;have EI:=Bz;cases asK
      replace Bz:=(HB.out.cell (World.block_lt_of_cell? w _ Bz)).trans Bz;replace BA:=(HB.out.cell (World.block_lt_of_cell? w _ BA)).trans BA;replace ac8:=eq_true ac8;replace ac9:=eq_true ac9;have ada:0<=(gH:Int):=aX gq;have adb:gH<(l1.length:Int):=aX gq;obtain⟨UQ,asL,BB,BC⟩:=D5 HR1.out gH ada adb;have EJ:=BC;have EK:=BB;cases asL
      replace BB:=(HB.out.cell (World.block_lt_of_cell? w _ BB)).trans BB;replace BC:=(HB.out.cell (World.block_lt_of_cell? w _ BC)).trans BC;replace ada:=eq_true ada;replace adb:=eq_true adb;refine kJ (n:=10) (S:=fun w'=>w'.cell? (UO.add ((gH).toNat*2))=some (.string ((bF l0 gH).f0))/\w'.cell? ⟨(UO.add ((gH).toNat*2)).block,(UO.add ((gH).toNat*2)).off+1,none⟩=some (.string ((bF l0 gH).f1))/\w'.cell? (UQ.add ((gH).toNat*2))=some (.string ((bF l1 gH).f0))/\w'.cell? ⟨(UQ.add ((gH).toNat*2)).block,(UQ.add ((gH).toNat*2)).off+1,none⟩=some (.string ((bF l1 gH).f1))) (ds:=[]) ⟨((HB.out.cell (World.block_lt_of_cell? w _ EI)).trans EI),((HB.out.cell (World.block_lt_of_cell? w _ EH)).trans EH),((HB.out.cell (World.block_lt_of_cell? w _ EK)).trans EK),((HB.out.cell (World.block_lt_of_cell? w _ EJ)).trans EJ)⟩ (fun hHeld=>?_);refine dY dO.ahJ dO.aay (fun HT_ HW_=>?_);generalize wr.drew=mo at HB Bz BA BB BC hHeld ⊢;repeat(first|refine mr ?_ (hy:=Or.inl ⟨by rfl,auC⟩)|refine ek ?_|(refine gV (fun K hK=>?_);refine lQ Tryz.func74 eB rfl #[.agg #[.string ((bF l0 gH).f0),.string ((bF l0 gH).f1)],.agg #[.string ((bF l1 gH).f0),.string ((bF l1 gH).f1)]] (by rfl) rfl rfl Iu ?_;(with_reducible refine(oz.calls ((bF l0 gH).f0) ((bF l0 gH).f1) ((bF l1 gH).f0) ((bF l1 gH).f1) false _ A7.out).mono ?_);rintro e tT ⟨rfl,hb⟩;refine⟨_,rfl,?_⟩;replace HB:=iC hb;clear hb;refine hK.out _ _ ⟨((HB.out.cell (World.block_lt_of_cell? w _ EI)).trans EI),((HB.out.cell (World.block_lt_of_cell? w _ EH)).trans EH),((HB.out.cell (World.block_lt_of_cell? w _ EK)).trans EK),((HB.out.cell (World.block_lt_of_cell? w _ EJ)).trans EJ)⟩ (fun hHeld=>?_);clear hK K;refine dI ?_))
      refine lh (gP HT_.out eB) ?_;try go_wp2
      go_ret;exact⟨su,dL⟩
    ·exact uW
 ·obtain⟨nS,GI⟩:=Di c3;have ac7:(l0.length==l1.length)=false:=by first|simpa using c3|(simp at c3 ⊢;omega)
  exact uE
@[reducible,instance] def dO.c:=jM.of 0 Tryz.func40 @dO.calls


def xM.f (k:Nat) (az:ByteArray) (aA:ByteArray) (aC:Int) (bI:ByteArray) (aG:Bool) (fM:List (j6)) (aZ:ByteArray) (qC:ByteArray) (qD:ByteArray) (rQ:Int) (uu:ByteArray) (rR:Bool) (ade:List (j6)) (rT:ByteArray):Option (Bool):=if az.toList=qC.toList then(if aA.toList=qD.toList then(if aC=rQ then(if bI.toList=uu.toList then(if(aG != rR)=true then(some false) else((dO.f k fM ade).bind fun aAB=>(if aAB=true then(if aZ.toList=rT.toList then(some true) else(some false)) else(some false)))) else(some false)) else(some false)) else(some false)) else(some false)
theorem xM.calls (k:Nat) (az aA:ByteArray) (aC:Int) (bI:ByteArray) (aG:Bool) (wT:Option Addr) (wU:Nat) (fM:List (j6)) (aZ qC qD:ByteArray) (rQ:Int) (uu:ByteArray) (rR:Bool) (auZ:Option Addr) (au0:Nat) (ade:List (j6)) (rT:ByteArray) (r:Bool) (w:World) (wo:Kd.C tZ w wT fM.length fM) (wu:fM.length<=wU) (ap0:Kd.C tZ w auZ ade.length ade) (ap1:ade.length<=au0) (h:xM.f k az aA aC bI aG fM aZ qC qD rQ uu rR ade rT=some r) :
  Calls Tryz.prog 41 #[.agg #[.string az,.string aA,.int .i64 aC,.string bI,.bool aG,.slice wT fM.length wU,.string aZ],.agg #[.string qC,.string qD,.int .i64 rQ,.string uu,.bool rR,.slice auZ ade.length au0,.string rT]] w fun e w'=>e = .returned (.bool r)/\Below w.heap.size w w':=by
 have WV:=Tryz.underlying31;have RQ:=ae.mk wo;have RS:=ae.mk wu;clear wo wu;have aER:=ae.mk ap0;have aES:=ae.mk ap1;clear ap0 ap1;unfold xM.f at h;exact uA
@[reducible,instance] def xM.c:=jM.of 0 Tryz.func41 @xM.calls


def nu.f (k:Nat) (az:ByteArray) (aA:Int) (aC:Int) (bK:List (j6)) (aG:ByteArray) (bH:ByteArray) (aZ:Int) (df:ByteArray) (cZ:Bool) (bD:List (j6)) (bg:ByteArray) (qC:ByteArray) (qD:Int) (rQ:Int) (adf:List (j6)) (rR:ByteArray) (uw:ByteArray) (rT:Int) (uy:ByteArray) (uz:Bool) (adg:List (j6)) (aeD:ByteArray):Option (Bool):=if az.toList=qC.toList then(if aA=qD then(if aC=rQ then((dO.f k bK adf).bind fun aAC=>(if aAC=true then((xM.f k aG bH aZ df cZ bD bg rR uw rT uy uz adg aeD).bind fun aAD=>(if aAD=true then(some true) else(some false))) else(some false))) else(some false)) else(some false)) else(some false)
theorem nu.calls (k:Nat) (az:ByteArray) (aA aC:Int) (jy:Option Addr) (jA:Nat) (bK:List (j6)) (aG bH:ByteArray) (aZ:Int) (df:ByteArray) (cZ:Bool) (jB:Option Addr) (jC:Nat) (bD:List (j6)) (bg qC:ByteArray) (qD rQ:Int) (au1:Option Addr) (au2:Nat) (adf:List (j6)) (rR uw:ByteArray) (rT:Int) (uy:ByteArray) (uz:Bool) (au3:Option Addr) (au4:Nat) (adg:List (j6)) (aeD:ByteArray) (r:Bool) (w:World) (ku:Kd.C tZ w jy bK.length bK) (kv:bK.length<=jA) (ky:Kd.C tZ w jB bD.length bD) (kz:bD.length<=jC) (ap2:Kd.C tZ w au1 adf.length adf) (ap3:adf.length<=au2) (ap4:Kd.C tZ w au3 adg.length adg) (ap5:adg.length<=au4) (h:nu.f k az aA aC bK aG bH aZ df cZ bD bg qC qD rQ adf rR uw rT uy uz adg aeD=some r) :
  Calls Tryz.prog 14 #[.agg #[.string az,.int .i64 aA,.int .i64 aC,.slice jy bK.length jA,.string aG,.string bH,.int .i64 aZ,.string df,.bool cZ,.slice jB bD.length jC,.string bg],.agg #[.string qC,.int .i64 qD,.int .i64 rQ,.slice au1 adf.length au2,.string rR,.string uw,.int .i64 rT,.string uy,.bool uz,.slice au3 adg.length au4,.string aeD]] w fun e w'=>e = .returned (.bool r)/\Below w.heap.size w w':=by
 have J9:=Tryz.underlying33;have WV:=Tryz.underlying31;have xI:=ae.mk ku;have mD:=ae.mk kv;clear ku kv;have xB:=ae.mk ky;have lg:=ae.mk kz;clear ky kz;have aET:=ae.mk ap2;have aEU:=ae.mk ap3;clear ap2 ap3;have aEV:=ae.mk ap4;have aEW:=ae.mk ap5;clear ap4 ap5;unfold nu.f at h;exact uA
@[reducible,instance] def nu.c:=jM.of 0 Tryz.func14 @nu.calls


def si.f (az:Bool) (aA:Bool) (aC:Bool) (bI:Bool) (aG:Bool) (bH:Bool) (aZ:Int) (df:Int) (cZ:Int) (Pt:Int):Option (Bool×Bool×Bool×Bool×Bool×Bool×Int×Int×Int×Int):=some (az,aA,aC,bI,aG,bH,aZ,df,cZ,Pt)
theorem si.calls (az aA:Bool) (aC bI:Bool) (aG bH:Bool) (aZ df:Int) (cZ Pt:Int) (r1 r2:Bool) (r3 r4:Bool) (r5 r6:Bool) (r7 r8:Int) (r9 Y2:Int) (w:World) (h:si.f az aA aC bI aG bH aZ df cZ Pt=some (r1,r2,r3,r4,r5,r6,r7,r8,r9,Y2)) :
  Calls Tryz.prog 26 #[.agg #[.bool az,.bool aA,.bool aC,.bool bI,.bool aG,.bool bH,.int .i64 aZ,.int .i64 df,.int .i64 cZ,.int .i64 Pt]] w fun e w'=>e = .returned (.agg #[.bool r1,.bool r2,.bool r3,.bool r4,.bool r5,.bool r6,.int .i64 r7,.int .i64 r8,.int .i64 r9,.int .i64 Y2])/\Below w.heap.size w w':=by
 have aAE:=Tryz.underlying42;have adh:=Tryz.underlying44;unfold si.f at h;exact uA
@[reducible,instance] def si.c:=jM.of 0 Tryz.func26 @si.calls

end Go.Proofs.YtfhllanhldbkkaaGreatDoor.P
