import Derived.Test.YtfhllanhldbkkaaGreatDoorPxspec12c
set_option maxHeartbeats 8000000
set_option maxRecDepth 100000
namespace Go.Proofs.YtfhllanhldbkkaaGreatDoor.P
open Go.RowKit Go.Proofs.YtfhllanhldbkkaaGreatDoorW.aW Go.Proofs.YtfhllanhldbkkaaGreatDoorW.eQ Go.Proofs.YtfhllanhldbkkaaGreatDoorW.fO
attribute [local go_sem] kV kW mE mF jP jQ kX kY dZ E8 E9 Fa Fb oU oV
set_option linter.unusedVariables false
set_option linter.unusedSimpArgs false

def fq.j0 : Nat->Int->Bool->ByteArray->Int->Int->List (j6)->ByteArray->ByteArray->Int->ByteArray->Bool->List (j6)->ByteArray->Option (Int)
 |0,_,_,_,_,_,_,_,_,_,_,_,_,_=>none
 |k+1,x9,x67,ajy,ajz,ajA,ajB,ajC,ajD,ajE,ajF,ajG,ajH,ajI=>if x67=true then(some 0) else((lZ.f k ajy ajz ajA ajB ajC ajD ajE ajF ajG ajH ajI).bind fun aqL=>(if(wrap64 (Int.tdiv (wrap64 (aqL-x9)) 10))<86400 then(some (wrap64 (Int.tdiv (wrap64 (aqL-x9)) 10))) else(some 86400)))
def fq.f (k:Nat) (az:ByteArray) (aA:Int) (aC:Int) (bK:List (j6)) (aG:ByteArray) (bH:ByteArray) (aZ:Int) (df:ByteArray) (cZ:Bool) (bD:List (j6)) (bg:ByteArray):Option (Int):=(kg.f k az aA aC bK aG bH aZ df cZ bD bg).bind fun axu=>(if axu=true then((bG.f k bD).bind fun ZF=>(if ZF.2.2.2.2.2.2.2.1>=0 then(some ZF.2.2.2.2.2.2.2.1) else(if ZF.2.2.2.2.2.2.1>=0 then(some ZF.2.2.2.2.2.2.1) else((mM.f k bD (⟨#[101,120,112,105,114,101,115]⟩:af)).bind fun atx=>(if atx.2=true then((ny.f k bD (⟨#[101,120,112,105,114,101,115]⟩:af)).bind fun ajJ=>(if ajJ.2=true then((lZ.f k az aA aC bK aG bH aZ df cZ bD bg).bind fun axv=>((ma.f (wrap64 (ajJ.1-axv)) 0).bind fun axw=>(some axw))) else(some 0))) else((ny.f k bD (⟨#[108,97,115,116,45,109,111,100,105,102,105,101,100]⟩:af)).bind fun VE=>(if VE.2=true then((qB.f aZ).bind fun axx=>(if axx=true then((lZ.f k az aA aC bK aG bH aZ df cZ bD bg).bind fun axy=>(fq.j0 k VE.1 (decide (VE.1>axy)) az aA aC bK aG bH aZ df cZ bD bg)) else(fq.j0 k VE.1 true az aA aC bK aG bH aZ df cZ bD bg))) else(fq.j0 k VE.1 true az aA aC bK aG bH aZ df cZ bD bg)))))))) else(some (-1)))
theorem fq.WL {p:Prop} (h:p:=by repeat(first|(with_reducible first|exact ae.out (by assumption)|apply oK|(apply uf;assumption)|apply jV|apply dh|apply kU)|(simp only[List.setIfInBounds_toArray,List.set_cons_zero,List.set_cons_succ];with_reducible rfl)|(simp only[List.setIfInBounds_toArray,List.set_cons_zero,List.set_cons_succ];done)|exact(rfl:(_:Array Value)=_))):p:=h
theorem fq.ZY {W w1:World} {g:Nat} {o:Obj} (hb:Below W.heap.size W w1) (h:W.heap[g]? = some o:=by exact fq.WL):ae (w1.heap[g]? = some o):=⟨pU h hb⟩
theorem fq.calls (k:Nat) (az:ByteArray) (aA aC:Int) (jy:Option Addr) (jA:Nat) (bK:List (j6)) (aG bH:ByteArray) (aZ:Int) (df:ByteArray) (cZ:Bool) (jB:Option Addr) (jC:Nat) (bD:List (j6)) (bg:ByteArray) (r:Int) (w:World) (ku:Kd.C tZ w jy bK.length bK) (kv:bK.length<=jA) (ky:Kd.C tZ w jB bD.length bD) (kz:bD.length<=jC) (h:fq.f k az aA aC bK aG bH aZ df cZ bD bg=some r) :
  Calls Tryz.prog 21 #[.agg #[.string az,.int .i64 aA,.int .i64 aC,.slice jy bK.length jA,.string aG,.string bH,.int .i64 aZ,.string df,.bool cZ,.slice jB bD.length jC,.string bg]] w fun e w'=>e = .returned (.int .i64 r)/\Below w.heap.size w w':=by
 have J9:=Tryz.underlying33;have adh:=Tryz.underlying44;have xI:=ae.mk ku;have mD:=ae.mk kv;clear ku kv;have xB:=ae.mk ky;have lg:=ae.mk kz;clear ky kz;have HB:=ae.mk (Below.refl w.heap.size w);have H:=h;clear h;unfold fq.f at H;replace H:=WU H;rcases H with⟨A2,H⟩|⟨A2,H⟩
 ·replace H:=gD H;obtain⟨⟨ajK,ajL,ajM,ajN,ajO,ajP,ajQ,ajR,ajS,ajT⟩,A4,H⟩:=H;dsimp only at H;replace H:=gI H;rcases H with⟨-,xW,-,H⟩|⟨-,xW,-,H⟩
  ·replace H:=ae.mk H;exact uE
  ·replace H:=gI H;rcases H with⟨-,FV,-,H⟩|⟨-,FV,-,H⟩
   ·replace H:=ae.mk H;exact uE
   ·replace H:=gD H;obtain⟨⟨axz,aG0⟩,A23,H⟩:=H;dsimp only at H;replace H:=gB H;rcases H with⟨rfl,H⟩|⟨rfl,H⟩
    ·replace H:=ae.mk H;exact uE
    ·replace H:=gD H;obtain⟨⟨aqM,axA⟩,A51,H⟩:=H;dsimp only at H;have aty:=ae.mk H;clear H;go_enter Tryz.func21,Tryz.ntmps21;go_upto_region 16 with(first|((with_reducible refine vJ 1 rfl ?_);refine qo #[.string az,.int .i64 aA,.int .i64 aC,.slice jy bK.length jA,.string aG,.string bH,.int .i64 aZ,.string df,.bool cZ,.slice jB bD.length jC,.string bg] 33 ?_;intro Kt hg w53 hbox hb;have Ba:=ae.mk (hbox);have aC5:=rE hg;replace HB:=iC hb;clear hb hbox hg;have alZ:=Js Ba;have al0:=Jt Ba;have al1:=Qx Ba;have al2:=QE Ba;have al3:=QF Ba;have al4:=Pb Ba;have al5:=cz6 Ba;have al6:=cz7 Ba;have al7:=(ug Ba).2.2.2.2.2.2.2.2.1;have al8:=(ug Ba).2.2.2.2.2.2.2.2.2;have ajU:w53.cell? ⟨Kt,10,none⟩=some (.string bg):=(ag Ba.out 10).trans rfl;have al9:=ah Ba.out 0;have ama:=ah Ba.out 1;have amb:=ah Ba.out 2;have amc:=ah Ba.out 3;have amd:=ah Ba.out 4;have ame:=ah Ba.out 5;have amf:=ah Ba.out 6;have amg:=ah Ba.out 7;have amh:=ah Ba.out 8;have ami:=ah Ba.out 9;have ajV:=ah Ba.out 10)|((with_reducible refine lS 11 rfl ?_);refine vI 13 rfl Tryz.func11 (kg.calls k az aA aC _ _ bK aG bH aZ df cZ _ _ bD bg true _ RL mD.out MX lg.out A2.out) fun w55 hb _=>?_;replace Ba:=jr (g:=Kt) hb;replace HB:=iC hb;(try clear hb);have amj:=Js Ba;have amk:=Jt Ba;have aml:=Qx Ba;have amm:=QE Ba;have amn:=QF Ba;have amo:=Pb Ba;have amq:=cz6 Ba;have amr:=cz7 Ba;have ams:=(ug Ba).2.2.2.2.2.2.2.2.1;have amt:=(ug Ba).2.2.2.2.2.2.2.2.2;have ajW:w55.cell? ⟨Kt,10,none⟩=some (.string bg):=(ag Ba.out 10).trans rfl;have amu:=ah Ba.out 0;have amv:=ah Ba.out 1;have amw:=ah Ba.out 2;have amx:=ah Ba.out 3;have amy:=ah Ba.out 4;have amz:=ah Ba.out 5;have amA:=ah Ba.out 6;have amB:=ah Ba.out 7;have amC:=ah Ba.out 8;have amD:=ah Ba.out 9;have ajX:=ah Ba.out 10)|((with_reducible refine lS 48 rfl ?_);refine vI 19 rfl Tryz.func48 (bG.calls k _ _ bD ajK ajL ajM ajN ajO ajP ajQ ajR ajS ajT _ MX lg.out A4.out) fun w57 hb _=>?_;replace Ba:=jr (g:=Kt) hb;replace HB:=iC hb;(try clear hb))|((with_reducible refine vJ 4 rfl ?_);refine qo #[.bool false,.bool false,.bool false,.bool false,.bool false,.bool false,.int .i64 0,.int .i64 0,.int .i64 0,.int .i64 0] 44 ?_;intro ad6 hg w58 hbox hb;have Bb:=ae.mk (hbox);have aC6:=rE hg;have Si:=O9 (g:=Kt) hg;have abS:=QD Si;replace Ba:=jr (g:=Kt) hb;replace HB:=iC hb;clear hb hbox hg;have avx:=abS.out;have avy:=Si.out;have amE:=Js Bb;have amF:=Jt Bb;have amG:=Qx Bb;have amH:=QE Bb;have amI:=QF Bb;have amJ:=Pb Bb;have amK:=cz6 Bb;have amL:=cz7 Bb;have amM:=(ug Bb).2.2.2.2.2.2.2.2.1;have amN:=(ug Bb).2.2.2.2.2.2.2.2.2;have amO:=ah Bb.out 0;have amP:=ah Bb.out 1;have amQ:=ah Bb.out 2;have amR:=ah Bb.out 3;have amS:=ah Bb.out 4;have amT:=ah Bb.out 5;have amU:=ah Bb.out 6;have amV:=ah Bb.out 7;have amW:=ah Bb.out 8;have amX:=ah Bb.out 9)|((with_reducible refine lS 44 rfl ?_);refine vI 32 rfl Tryz.func44 (mM.calls k _ _ bD (⟨#[101,120,112,105,114,101,115]⟩:af) axz false _ (Kd.ng xB.out dL) lg.out A23.out) fun w61 hb _=>?_;replace Ba:=jr (g:=Kt) hb;replace Bb:=fq.ZY (g:=ad6) (o:=.cells #[.bool ajK,.bool ajL,.bool ajM,.bool ajN,.bool ajO,.bool ajP,.int .i64 ajQ,.int .i64 ajR,.int .i64 ajS,.int .i64 ajT] 44 (0,0)) hb;replace HB:=iC hb;(try clear hb))|((with_reducible refine lS 42 rfl ?_);refine vI 50 rfl Tryz.func42 (ny.calls k _ _ bD (⟨#[108,97,115,116,45,109,111,100,105,102,105,101,100]⟩:af) aqM axA _ MX lg.out A51.out) fun w62 hb _=>?_;replace Ba:=jr (g:=Kt) hb;replace Bb:=jr (g:=ad6) hb;replace HB:=iC hb;(try clear hb)));(try simp only[Act.put,List.setIfInBounds_toArray,List.set_cons_zero,List.set_cons_succ])
     go_cut [67] (fun v67 wc=>∃(kq:Nat) (ad7:Bool),v67 = .bool ad7/\ae (fq.j0 kq aqM ad7 az aA aC bK aG bH aZ df cZ bD bg=some r)/\ae (kq<=k)/\ae (wc.heap[Kt]? = some (.cells #[.string az,.int .i64 aA,.int .i64 aC,(.slice jy bK.length jA),.string aG,.string bH,.int .i64 aZ,.string df,.bool cZ,(.slice jB bD.length jC),.string bg] 33 (0,0)))/\ae (wc.heap[ad6]? = some (.cells #[.bool ajK,.bool ajL,.bool ajM,.bool ajN,.bool ajO,.bool ajP,.int .i64 ajQ,.int .i64 ajR,.int .i64 ajS,.int .i64 ajT] 44 (0,0)))/\ae (Below w.heap.size w wc))
     case first=>
      have H:=aty;clear aty;exact uW
     case rest=>
      clear aty;try clear c5
      try clear xW
      try clear c14
      try clear FV
      try clear alZ
      try clear al0
      try clear ajU
      try clear al1
      try clear al2
      try clear al3
      try clear al4
      try clear al5
      try clear al6
      try clear al7
      try clear al8
      try clear amj
      try clear amk
      try clear ajW
      try clear aml
      try clear amm
      try clear amn
      try clear amo
      try clear amq
      try clear amr
      try clear ams
      try clear amt
      try clear amE
      try clear amF
      try clear amG
      try clear amH
      try clear amI
      try clear amJ
      try clear amK
      try clear amL
      try clear amM
      try clear amN
      try clear al9
      try clear ama
      try clear ajV
      try clear amb
      try clear amc
      try clear amd
      try clear ame
      try clear amf
      try clear amg
      try clear amh
      try clear ami
      try clear amu
      try clear amv
      try clear ajX
      try clear amw
      try clear amx
      try clear amy
      try clear amz
      try clear amA
      try clear amB
      try clear amC
      try clear amD
      try clear amO
      try clear amP
      try clear amQ
      try clear amR
      try clear amS
      try clear amT
      try clear amU
      try clear amV
      try clear amW
      try clear amX
      obtain⟨kq,ad7,rfl,HA,aJj,Ba,Bb,HB⟩:=hcut;cases kq with
      |zero=>exact absurd HA.out (by simp[fq.j0])
      |succ aJk=>
       have H:=HA;clear HA;simp only[fq.j0] at H;exact uW
 ·replace H:=ae.mk H;exact uE
@[reducible,instance] def fq.c:=jM.of 0 Tryz.func21 @fq.calls


def rP.f (k:Nat) (az:ByteArray) (aA:Int) (aC:Int) (bK:List (j6)) (aG:ByteArray) (bH:ByteArray) (aZ:Int) (df:ByteArray) (cZ:Bool) (bD:List (j6)) (bg:ByteArray) (a1:Int):Option (Bool):=(jI.f k az aA aC bK aG bH aZ df cZ bD bg a1).bind fun aqN=>(if aqN>=0 then((fq.f k az aA aC bK aG bH aZ df cZ bD bg).bind fun axB=>(some (decide (axB>aqN)))) else(some false))
theorem rP.calls (k:Nat) (az:ByteArray) (aA aC:Int) (jy:Option Addr) (jA:Nat) (bK:List (j6)) (aG bH:ByteArray) (aZ:Int) (df:ByteArray) (cZ:Bool) (jB:Option Addr) (jC:Nat) (bD:List (j6)) (bg:ByteArray) (a1:Int) (r:Bool) (w:World) (ku:Kd.C tZ w jy bK.length bK) (kv:bK.length<=jA) (ky:Kd.C tZ w jB bD.length bD) (kz:bD.length<=jC) (h:rP.f k az aA aC bK aG bH aZ df cZ bD bg a1=some r) :
  Calls Tryz.prog 23 #[.agg #[.string az,.int .i64 aA,.int .i64 aC,.slice jy bK.length jA,.string aG,.string bH,.int .i64 aZ,.string df,.bool cZ,.slice jB bD.length jC,.string bg],.int .i64 a1] w fun e w'=>e = .returned (.bool r)/\Below w.heap.size w w':=by
 have J9:=Tryz.underlying33;have xI:=ae.mk ku;have mD:=ae.mk kv;clear ku kv;have xB:=ae.mk ky;have lg:=ae.mk kz;clear ky kz;unfold rP.f at h;exact uA
@[reducible,instance] def rP.c:=jM.of 0 Tryz.func23 @rP.calls


mutual
def fD.j0 : Nat->Int->Bool->ByteArray->Int->Int->List (j6)->ByteArray->ByteArray->Int->ByteArray->Bool->List (j6)->ByteArray->Bool->Bool->Bool->Bool->Bool->Bool->Int->Int->Int->Int->Option (Int)
 |0,_,_,_,_,_,_,_,_,_,_,_,_,_,_,_,_,_,_,_,_,_,_,_=>none
 |k+1,x7,x19,ajY,ajZ,aj0,aj1,aj2,aj3,aj4,aj5,aj6,abT,aj7,DI,BN,DJ,DK,DL,DN,zk,DR,zl,xu=>if x19=true then(some 3) else((bG.f k abT).bind fun fZ=>((fq.f k ajY ajZ aj0 aj1 aj2 aj3 aj4 aj5 aj6 abT aj7).bind fun K7=>(if BN=true then(fD.j1 k x7 K7 true DI BN DJ DK DL DN zk DR zl xu fZ.1 fZ.2.1 fZ.2.2.1 fZ.2.2.2.1 fZ.2.2.2.2.1 fZ.2.2.2.2.2.1 fZ.2.2.2.2.2.2.1 fZ.2.2.2.2.2.2.2.1 fZ.2.2.2.2.2.2.2.2.1 fZ.2.2.2.2.2.2.2.2.2) else(if fZ.2.1=true then(fD.j1 k x7 K7 true DI BN DJ DK DL DN zk DR zl xu fZ.1 fZ.2.1 fZ.2.2.1 fZ.2.2.2.1 fZ.2.2.2.2.1 fZ.2.2.2.2.2.1 fZ.2.2.2.2.2.2.1 fZ.2.2.2.2.2.2.2.1 fZ.2.2.2.2.2.2.2.2.1 fZ.2.2.2.2.2.2.2.2.2) else(if zk>=0 then(if x7>zk then(fD.j1 k x7 K7 true DI BN DJ DK DL DN zk DR zl xu fZ.1 fZ.2.1 fZ.2.2.1 fZ.2.2.2.1 fZ.2.2.2.2.1 fZ.2.2.2.2.2.1 fZ.2.2.2.2.2.2.1 fZ.2.2.2.2.2.2.2.1 fZ.2.2.2.2.2.2.2.2.1 fZ.2.2.2.2.2.2.2.2.2) else(if xu>=0 then(fD.j1 k x7 K7 (decide ((wrap64 (K7-x7))<xu)) DI BN DJ DK DL DN zk DR zl xu fZ.1 fZ.2.1 fZ.2.2.1 fZ.2.2.2.1 fZ.2.2.2.2.1 fZ.2.2.2.2.2.1 fZ.2.2.2.2.2.2.1 fZ.2.2.2.2.2.2.2.1 fZ.2.2.2.2.2.2.2.2.1 fZ.2.2.2.2.2.2.2.2.2) else(fD.j1 k x7 K7 false DI BN DJ DK DL DN zk DR zl xu fZ.1 fZ.2.1 fZ.2.2.1 fZ.2.2.2.1 fZ.2.2.2.2.1 fZ.2.2.2.2.2.1 fZ.2.2.2.2.2.2.1 fZ.2.2.2.2.2.2.2.1 fZ.2.2.2.2.2.2.2.2.1 fZ.2.2.2.2.2.2.2.2.2))) else(if xu>=0 then(fD.j1 k x7 K7 (decide ((wrap64 (K7-x7))<xu)) DI BN DJ DK DL DN zk DR zl xu fZ.1 fZ.2.1 fZ.2.2.1 fZ.2.2.2.1 fZ.2.2.2.2.1 fZ.2.2.2.2.2.1 fZ.2.2.2.2.2.2.1 fZ.2.2.2.2.2.2.2.1 fZ.2.2.2.2.2.2.2.2.1 fZ.2.2.2.2.2.2.2.2.2) else(fD.j1 k x7 K7 false DI BN DJ DK DL DN zk DR zl xu fZ.1 fZ.2.1 fZ.2.2.1 fZ.2.2.2.1 fZ.2.2.2.2.1 fZ.2.2.2.2.2.1 fZ.2.2.2.2.2.2.1 fZ.2.2.2.2.2.2.2.1 fZ.2.2.2.2.2.2.2.2.1 fZ.2.2.2.2.2.2.2.2.2)))))))
def fD.j1 : Nat->Int->Int->Bool->Bool->Bool->Bool->Bool->Bool->Bool->Int->Int->Int->Int->Bool->Bool->Bool->Bool->Bool->Bool->Int->Int->Int->Int->Option (Int)
 |0,_,_,_,_,_,_,_,_,_,_,_,_,_,_,_,_,_,_,_,_,_,_,_=>none
 |k+1,x7,x9,x55,DI,BN,DJ,DK,DL,DN,zk,DR,zl,xu,axC,axD,axE,axF,aj8,axG,axH,aj9,axI,axJ=>if x55=true then(some 2) else(if x9>x7 then(some 0) else(if zl>=0 then(if(wrap64 (x7-x9))<=zl then(if aj8=true then(some 2) else(if aj9<0 then(some 1) else(some 2))) else(some 2)) else(some 2)))
end
def fD.f (k:Nat) (az:ByteArray) (aA:Int) (aC:Int) (bK:List (j6)) (aG:ByteArray) (bH:ByteArray) (aZ:Int) (df:ByteArray) (cZ:Bool) (bD:List (j6)) (bg:ByteArray) (qC:Bool) (qD:Bool) (rQ:Bool) (uu:Bool) (rR:Bool) (uw:Bool) (rT:Int) (uy:Int) (uz:Int) (vS:Int) (a2:Int):Option (Int):=(jI.f k az aA aC bK aG bH aZ df cZ bD bg a2).bind fun VF=>(if VF<0 then(fD.j0 k VF true az aA aC bK aG bH aZ df cZ bD bg qC qD rQ uu rR uw rT uy uz vS) else((wy.f qC qD rQ uu rR uw rT uy uz vS).bind fun axK=>(fD.j0 k VF (!axK) az aA aC bK aG bH aZ df cZ bD bg qC qD rQ uu rR uw rT uy uz vS)))
theorem fD.WL {p:Prop} (h:p:=by repeat(first|(with_reducible first|exact ae.out (by assumption)|apply oK|(apply uf;assumption)|apply jV|apply dh|apply kU)|(simp only[List.setIfInBounds_toArray,List.set_cons_zero,List.set_cons_succ];with_reducible rfl)|(simp only[List.setIfInBounds_toArray,List.set_cons_zero,List.set_cons_succ];done)|exact(rfl:(_:Array Value)=_))):p:=h
theorem fD.ZY {W w1:World} {g:Nat} {o:Obj} (hb:Below W.heap.size W w1) (h:W.heap[g]? = some o:=by exact fD.WL):ae (w1.heap[g]? = some o):=⟨pU h hb⟩
theorem fD.calls (k:Nat) (az:ByteArray) (aA aC:Int) (jy:Option Addr) (jA:Nat) (bK:List (j6)) (aG bH:ByteArray) (aZ:Int) (df:ByteArray) (cZ:Bool) (jB:Option Addr) (jC:Nat) (bD:List (j6)) (bg:ByteArray) (qC qD:Bool) (rQ uu:Bool) (rR uw:Bool) (rT uy:Int) (uz vS:Int) (a2 r:Int) (w:World) (ku:Kd.C tZ w jy bK.length bK) (kv:bK.length<=jA) (ky:Kd.C tZ w jB bD.length bD) (kz:bD.length<=jC) (h:fD.f k az aA aC bK aG bH aZ df cZ bD bg qC qD rQ uu rR uw rT uy uz vS a2=some r) :
  Calls Tryz.prog 25 #[.agg #[.string az,.int .i64 aA,.int .i64 aC,.slice jy bK.length jA,.string aG,.string bH,.int .i64 aZ,.string df,.bool cZ,.slice jB bD.length jC,.string bg],.agg #[.bool qC,.bool qD,.bool rQ,.bool uu,.bool rR,.bool uw,.int .i64 rT,.int .i64 uy,.int .i64 uz,.int .i64 vS],.int .i64 a2] w fun e w'=>e = .returned (.int .i64 r)/\Below w.heap.size w w':=by
 have J9:=Tryz.underlying33;have adh:=Tryz.underlying44;have xI:=ae.mk ku;have mD:=ae.mk kv;clear ku kv;have xB:=ae.mk ky;have lg:=ae.mk kz;clear ky kz;have HB:=ae.mk (Below.refl w.heap.size w);have H:=h;clear h;unfold fD.f at H;replace H:=gD H;obtain⟨VF,A4,H⟩:=H;have HC5:=ae.mk H;clear H;go_enter Tryz.func25,Tryz.ntmps25;go_upto_region 2 with(first|((with_reducible refine vJ 3 rfl ?_);refine qo #[.string az,.int .i64 aA,.int .i64 aC,.slice jy bK.length jA,.string aG,.string bH,.int .i64 aZ,.string df,.bool cZ,.slice jB bD.length jC,.string bg] 33 ?_;intro En hg w6 hbox hb;have Ba:=ae.mk (hbox);have aC7:=rE hg;replace HB:=iC hb;clear hb hbox hg)|((with_reducible refine vJ 4 rfl ?_);refine qo #[.bool qC,.bool qD,.bool rQ,.bool uu,.bool rR,.bool uw,.int .i64 rT,.int .i64 uy,.int .i64 uz,.int .i64 vS] 44 ?_;intro Oy hg w7 hbox hb;have Bb:=ae.mk (hbox);have aC8:=rE hg;have Ml:=O9 (g:=En) hg;have Sj:=QD Ml;replace Ba:=jr (g:=En) hb;replace HB:=iC hb;clear hb hbox hg;have asF:=Ml.out;have asG:=Sj.out;have Y6:=Js Ba;have Y7:=Jt Ba;have Y8:=Qx Ba;have Y9:=QE Ba;have Za:=QF Ba;have Zb:=Pb Ba;have Zc:=cz6 Ba;have Zd:=cz7 Ba;have Ze:=(ug Ba).2.2.2.2.2.2.2.2.1;have Zf:=(ug Ba).2.2.2.2.2.2.2.2.2;have Td:w7.cell? ⟨En,10,none⟩=some (.string bg):=(ag Ba.out 10).trans rfl;have Zg:=ah Ba.out 0;have Zh:=ah Ba.out 1;have Zi:=ah Ba.out 2;have Zj:=ah Ba.out 3;have Zk:=ah Ba.out 4;have Zl:=ah Ba.out 5;have Zm:=ah Ba.out 6;have Zn:=ah Ba.out 7;have Zo:=ah Ba.out 8;have Zp:=ah Ba.out 9;have Te:=ah Ba.out 10)|((with_reducible refine lS 19 rfl ?_);refine vI 12 rfl Tryz.func19 (jI.calls k az aA aC _ _ bK aG bH aZ df cZ _ _ bD bg a2 VF _ RL mD.out MX lg.out A4.out) fun w10 hb _=>?_;replace Ba:=jr (g:=En) hb;replace Bb:=jr (g:=Oy) hb;replace HB:=iC hb;(try clear hb)));(try simp only[Act.put,List.setIfInBounds_toArray,List.set_cons_zero,List.set_cons_succ])
 go_cut [19] (fun v19 wc=>∃(kq:Nat) (UU:Bool),v19 = .bool UU/\ae (fD.j0 kq VF UU az aA aC bK aG bH aZ df cZ bD bg qC qD rQ uu rR uw rT uy uz vS=some r)/\ae (kq<=k)/\ae (wc.heap[En]? = some (.cells #[.string az,.int .i64 aA,.int .i64 aC,(.slice jy bK.length jA),.string aG,.string bH,.int .i64 aZ,.string df,.bool cZ,(.slice jB bD.length jC),.string bg] 33 (0,0)))/\ae (wc.heap[Oy]? = some (.cells #[.bool qC,.bool qD,.bool rQ,.bool uu,.bool rR,.bool uw,.int .i64 rT,.int .i64 uy,.int .i64 uz,.int .i64 vS] 44 (0,0)))/\ae (Below w.heap.size w wc))
 case first=>
  have H:=HC5;clear HC5;exact uW
 case rest=>
  clear HC5;try clear Y6
  try clear Y7
  try clear Td
  try clear Y8
  try clear Y9
  try clear Za
  try clear Zb
  try clear Zc
  try clear Zd
  try clear Ze
  try clear Zf
  try clear Zg
  try clear Zh
  try clear Te
  try clear Zi
  try clear Zj
  try clear Zk
  try clear Zl
  try clear Zm
  try clear Zn
  try clear Zo
  try clear Zp
  obtain⟨kq,UU,rfl,HA,HJ4,Ba,Bb,HB⟩:=hcut;cases kq with
  |zero=>exact absurd HA.out (by simp[fD.j0])
  |succ kj4=>
   have H:=HA.out;clear HA;simp only[fD.j0] at H;replace H:=gB H;rcases H with⟨rfl,H⟩|⟨rfl,H⟩
   ·replace H:=ae.mk H;exact uW
   ·replace H:=gD H;obtain⟨⟨afb,afc,afd,afe,aff,afg,afh,afi,afj,afk⟩,ZZ,H⟩:=H;dsimp only at H;replace H:=gD H;obtain⟨K7,Zq,H⟩:=H;have adk:=ae.mk H;clear H;have aG1:=Ml.out;have aG2:=Sj.out;have amY:=Js Ba;have amZ:=Jt Ba;have am0:=Qx Ba;have am1:=QE Ba;have am2:=QF Ba;have am3:=Pb Ba;have am4:=cz6 Ba;have am5:=cz7 Ba;have am6:=(ug Ba).2.2.2.2.2.2.2.2.1;have am7:=(ug Ba).2.2.2.2.2.2.2.2.2;have aka:wc.cell? ⟨En,10,none⟩=some (.string bg):=(ag Ba.out 10).trans rfl;have am8:=ah Ba.out 0;have am9:=ah Ba.out 1;have ana:=ah Ba.out 2;have anb:=ah Ba.out 3;have anc:=ah Ba.out 4;have ane:=ah Ba.out 5;have anf:=ah Ba.out 6;have ang:=ah Ba.out 7;have anh:=ah Ba.out 8;have ani:=ah Ba.out 9;have akb:=ah Ba.out 10;go_upto_region 6 with(first|((with_reducible refine lS 48 rfl ?_);refine vI 23 rfl Tryz.func48 (bG.calls kj4 _ _ bD afb afc afd afe aff afg afh afi afj afk _ MX lg.out ZZ.out) fun w22 hb _=>?_;replace Ba:=jr (g:=En) hb;replace Bb:=jr (g:=Oy) hb;replace HB:=iC hb;(try clear hb))|((with_reducible refine vJ 8 rfl ?_);refine qo #[.bool false,.bool false,.bool false,.bool false,.bool false,.bool false,.int .i64 0,.int .i64 0,.int .i64 0,.int .i64 0] 44 ?_;intro akc hg w23 hbox hb;have Bc:=ae.mk (hbox);have aC9:=rE hg;have Sk:=O9 (g:=En) hg;have abU:=QD Sk;have Sl:=O9 (g:=Oy) hg;have abV:=QD Sl;replace Ba:=jr (g:=En) hb;replace Bb:=jr (g:=Oy) hb;replace HB:=iC hb;clear hb hbox hg;have axL:=abU.out;have axM:=Sk.out;have aG3:=abV.out;have aG4:=Sl.out;have anj:=Js Bc;have ank:=Jt Bc;have anl:=Qx Bc;have anm:=QE Bc;have ann:=QF Bc;have ano:=Pb Bc;have anp:=cz6 Bc;have anq:=cz7 Bc;have anr:=(ug Bc).2.2.2.2.2.2.2.2.1;have ant:=(ug Bc).2.2.2.2.2.2.2.2.2;have anu:=ah Bc.out 0;have anv:=ah Bc.out 1;have anw:=ah Bc.out 2;have anx:=ah Bc.out 3;have anz:=ah Bc.out 4;have anA:=ah Bc.out 5;have anB:=ah Bc.out 6;have anC:=ah Bc.out 7;have anD:=ah Bc.out 8;have anE:=ah Bc.out 9;have anF:=Js Ba;have anG:=Jt Ba;have anH:=Qx Ba;have anI:=QE Ba;have anJ:=QF Ba;have anK:=Pb Ba;have anL:=cz6 Ba;have anM:=cz7 Ba;have anN:=(ug Ba).2.2.2.2.2.2.2.2.1;have anO:=(ug Ba).2.2.2.2.2.2.2.2.2;have akd:w23.cell? ⟨En,10,none⟩=some (.string bg):=(ag Ba.out 10).trans rfl;have anP:=ah Ba.out 0;have anQ:=ah Ba.out 1;have anR:=ah Ba.out 2;have anS:=ah Ba.out 3;have anT:=ah Ba.out 4;have anU:=ah Ba.out 5;have anV:=ah Ba.out 6;have anW:=ah Ba.out 7;have anX:=ah Ba.out 8;have anY:=ah Ba.out 9;have ake:=ah Ba.out 10)|((with_reducible refine lS 21 rfl ?_);refine vI 25 rfl Tryz.func21 (fq.calls kj4 az aA aC _ _ bK aG bH aZ df cZ _ _ bD bg K7 _ (Kd.ng xI.out dL) mD.out (Kd.ng xB.out dL) lg.out Zq.out) fun w28 hb _=>?_;replace Ba:=jr (g:=En) hb;replace Bb:=jr (g:=Oy) hb;replace Bc:=fD.ZY (g:=akc) (o:=.cells #[.bool afb,.bool afc,.bool afd,.bool afe,.bool aff,.bool afg,.int .i64 afh,.int .i64 afi,.int .i64 afj,.int .i64 afk] 44 (0,0)) hb;replace HB:=iC hb;(try clear hb)));(try simp only[Act.put,List.setIfInBounds_toArray,List.set_cons_zero,List.set_cons_succ])
    go_cut [55] (fun v55 wc=>∃(kq:Nat) (ad8:Bool),v55 = .bool ad8/\ae (fD.j1 kq VF K7 ad8 qC qD rQ uu rR uw rT uy uz vS afb afc afd afe aff afg afh afi afj afk=some r)/\ae (kq<=kj4)/\ae (wc.heap[En]? = some (.cells #[.string az,.int .i64 aA,.int .i64 aC,(.slice jy bK.length jA),.string aG,.string bH,.int .i64 aZ,.string df,.bool cZ,(.slice jB bD.length jC),.string bg] 33 (0,0)))/\ae (wc.heap[Oy]? = some (.cells #[.bool qC,.bool qD,.bool rQ,.bool uu,.bool rR,.bool uw,.int .i64 rT,.int .i64 uy,.int .i64 uz,.int .i64 vS] 44 (0,0)))/\ae (wc.heap[akc]? = some (.cells #[.bool afb,.bool afc,.bool afd,.bool afe,.bool aff,.bool afg,.int .i64 afh,.int .i64 afi,.int .i64 afj,.int .i64 afk] 44 (0,0)))/\ae (Below w.heap.size w wc))
    case first=>
     have H:=adk;clear adk;exact uW
    case rest=>
     clear adk;try clear amY
     try clear amZ
     try clear aka
     try clear am0
     try clear am1
     try clear am2
     try clear am3
     try clear am4
     try clear am5
     try clear am6
     try clear am7
     try clear anj
     try clear ank
     try clear anl
     try clear anm
     try clear ann
     try clear ano
     try clear anp
     try clear anq
     try clear anr
     try clear ant
     try clear anF
     try clear anG
     try clear akd
     try clear anH
     try clear anI
     try clear anJ
     try clear anK
     try clear anL
     try clear anM
     try clear anN
     try clear anO
     try clear Y6
     try clear Y7
     try clear Td
     try clear Y8
     try clear Y9
     try clear Za
     try clear Zb
     try clear Zc
     try clear Zd
     try clear Ze
     try clear Zf
     try clear am8
     try clear am9
     try clear akb
     try clear ana
     try clear anb
     try clear anc
     try clear ane
     try clear anf
     try clear ang
     try clear anh
     try clear ani
     try clear anu
     try clear anv
     try clear anw
     try clear anx
     try clear anz
     try clear anA
     try clear anB
     try clear anC
     try clear anD
     try clear anE
     try clear anP
     try clear anQ
     try clear ake
     try clear anR
     try clear anS
     try clear anT
     try clear anU
     try clear anV
     try clear anW
     try clear anX
     try clear anY
     try clear Zg
     try clear Zh
     try clear Te
     try clear Zi
     try clear Zj
     try clear Zk
     try clear Zl
     try clear Zm
     try clear Zn
     try clear Zo
     try clear Zp
     obtain⟨kq,ad8,rfl,HA,aAI,Ba,Bb,Bc,HB⟩:=hcut;cases kq with
     |zero=>exact absurd HA.out (by simp[fD.j1])
     |succ aAJ=>
      have H:=HA;clear HA;simp only[fD.j1] at H;exact uW
@[reducible,instance] def fD.c:=jM.of 0 Tryz.func25 @fD.calls

end Go.Proofs.YtfhllanhldbkkaaGreatDoor.P
