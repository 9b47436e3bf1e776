import Derived.Test.YtfhllanhldbkkaaGreatDoorPx0
import Derived.Test.YtfhllanhldbkkaaGreatDoorPxspec01a
import Derived.Test.YtfhllanhldbkkaaGreatDoorPxspec07a
import Derived.Test.YtfhllanhldbkkaaGreatDoorWC
import Derived.Test.YtfhllanhldbkkaaGreatDoorPxspec05b
namespace Go.Proofs.YtfhllanhldbkkaaGreatDoor.P
set_option maxHeartbeats 8000000
set_option maxRecDepth 100000
open Go.RowKit Go.Proofs.YtfhllanhldbkkaaGreatDoorW.ax Go.Proofs.YtfhllanhldbkkaaGreatDoorW.aD Go.Proofs.YtfhllanhldbkkaaGreatDoorW.aH
attribute [local go_sem] nZ oh qI qJ mq mr om oo   -- for this text's walks alone
set_option linter.unusedVariables false
set_option linter.unusedSimpArgs false

mutual
def bG.j0 : Nat→ByteArray→Bool→Option (Bool)
 |0,_,_=>none
 |k+1,x0,x14=>if x14=true then(some false) else((fZ.f k x0 46).bind fun Ao=>(bG.l0 k Ao 0))
def bG.l0 : Nat→List ByteArray→Int→Option (Bool)
 |0,_,_=>none
 |k+1,x3,x4=>if x4<(x3.length:Int) then(if 0≤x4 then(if(cZ ByteArray.empty x3 x4).toList=([]:List UInt8) then(some false) else(bG.l1 k x3 x4 0)) else(none)) else(some true)
def bG.l1 : Nat→List ByteArray→Int→Int→Option (Bool)
 |0,_,_,_=>none
 |k+1,x3,x4,x5=>if 0≤x4 then(if x4<(x3.length:Int) then(if x5<((cZ ByteArray.empty x3 x4).size:Int) then(if 0≤x5 then(if(bt (cZ ByteArray.empty x3 x4) x5)≥97 then(if((bt (cZ ByteArray.empty x3 x4) x5)≤122) then(bG.l1 k x3 x4 (wrap64 (x5+1))) else((bS.f (bt (cZ ByteArray.empty x3 x4) x5)).bind fun aqU=>(if aqU=true then(bG.l1 k x3 x4 (wrap64 (x5+1))) else(if(bt (cZ ByteArray.empty x3 x4) x5)=45 then(bG.l1 k x3 x4 (wrap64 (x5+1))) else(some false))))) else((bS.f (bt (cZ ByteArray.empty x3 x4) x5)).bind fun aqV=>(if aqV=true then(bG.l1 k x3 x4 (wrap64 (x5+1))) else(if(bt (cZ ByteArray.empty x3 x4) x5)=45 then(bG.l1 k x3 x4 (wrap64 (x5+1))) else(some false))))) else(none)) else(bG.l0 k x3 (wrap64 (x4+1)))) else(none)) else(none)
end
def bG.f (k:Nat) (a0:ByteArray):Option (Bool):=if(a0.size:Int)=0 then(bG.j0 k a0 true) else(bG.j0 k a0 (decide ((a0.size:Int)>60)))
theorem bG.e0 {p:Prop} (h:p:=by
  have H':=ae.mk H
  clear H
  have MU:0≤(kv:Int):=bE gL
  have MV:kv<(Ao.length:Int):=bE gL
  obtain⟨Ti,e305,We⟩:=Kd.iV (Kd.bC ou.out).2.2 kv MU MV
  obtain rfl:OG=Ti:=(by injection e305)
  replace MU:=eq_true MU
  replace MV:=eq_true MV
  have Tj:0≤(kv:Int):=bE gL
  have Tk:kv<(Ao.length:Int):=bE gL
  obtain⟨YK,e306,abU⟩:=Kd.iV (Kd.bC ou.out).2.2 kv Tj Tk
  obtain rfl:OG=YK:=(by injection e306)
  replace Tj:=eq_true Tj
  replace Tk:=eq_true Tk
  have p16:0≤(uZ:Int):=bE gL
  have q16:uZ<((cZ ByteArray.empty Ao kv).size:Int):=bE gL
  have hx16:=gV (cZ ByteArray.empty Ao kv) uZ
  replace p16:=eq_true p16
  replace q16:=eq_true q16
  go_wp2_with(first|(go_at_call 77;(with_reducible refine(bS.calls (bt (cZ ByteArray.empty Ao kv) uZ) false _ A22.out).mono ?_);rintro e w' ⟨rfl,⟨nd,rfl⟩⟩)|(go_at_call 77;(with_reducible refine(bS.calls (bt (cZ ByteArray.empty Ao kv) uZ) true _ A22.out).mono ?_);rintro e w' ⟨rfl,⟨nd,rfl⟩⟩)|(go_at_call 77;(with_reducible refine(bS.calls (bt (cZ ByteArray.empty Ao kv) uZ) false _ A19.out).mono ?_);rintro e w' ⟨rfl,⟨nd,rfl⟩⟩)|(go_at_call 77;(with_reducible refine(bS.calls (bt (cZ ByteArray.empty Ao kv) uZ) true _ A19.out).mono ?_);rintro e w' ⟨rfl,⟨nd,rfl⟩⟩))
  go_roundg k3
  case measure=>have:=Bu.out;have:=Eo.out;have:=VR.out;omega
  case rel=>exact⟨(wrap64 (uZ+1)),fI,H',⟨akM⟩,⟨Ah⟩,⟨dN⟩⟩):p:=h
theorem bG.e1 {p:Prop} (h:p:=by
  obtain rfl:=cu H
  have MU:0≤(kv:Int):=bE gL
  have MV:kv<(Ao.length:Int):=bE gL
  obtain⟨Ti,e305,We⟩:=Kd.iV (Kd.bC ou.out).2.2 kv MU MV
  obtain rfl:OG=Ti:=(by injection e305)
  replace MU:=eq_true MU
  replace MV:=eq_true MV
  have Tj:0≤(kv:Int):=bE gL
  have Tk:kv<(Ao.length:Int):=bE gL
  obtain⟨YK,e306,abU⟩:=Kd.iV (Kd.bC ou.out).2.2 kv Tj Tk
  obtain rfl:OG=YK:=(by injection e306)
  replace Tj:=eq_true Tj
  replace Tk:=eq_true Tk
  have p16:0≤(uZ:Int):=bE gL
  have q16:uZ<((cZ ByteArray.empty Ao kv).size:Int):=bE gL
  have hx16:=gV (cZ ByteArray.empty Ao kv) uZ
  replace p16:=eq_true p16
  replace q16:=eq_true q16
  go_wp2_with(first|(go_at_call 77;(with_reducible refine(bS.calls (bt (cZ ByteArray.empty Ao kv) uZ) false _ A22.out).mono ?_);rintro e w' ⟨rfl,⟨nd,rfl⟩⟩)|(go_at_call 77;(with_reducible refine(bS.calls (bt (cZ ByteArray.empty Ao kv) uZ) false _ A19.out).mono ?_);rintro e w' ⟨rfl,⟨nd,rfl⟩⟩))
  go_ret
  exact⟨nG,dN⟩):p:=h
theorem bG.calls (k:Nat) (a0:ByteArray) (r:Bool) (w:World) (h:bG.f k a0=some r) :
  Calls Tryz.prog 183 #[.string a0] w fun e w'=>e = .returned (.bool r)∧Below w.heap.size w w':=by
 have HB:=ae.mk (Below.refl w.heap.size w);have H:=h;clear h;unfold bG.f at H;have xZ:=ae.mk H;clear H;go_enter Tryz.func183,Tryz.ntmps183;go_upto_region 1 with(fail);go_cut [14] (fun v14 wc=>∃(kq:Nat) (Tm:Bool),v14 = .bool Tm∧ae (bG.j0 kq a0 Tm=some r)∧ae (kq≤k)∧ae (Below w.heap.size w wc))
 case first=>
  have H:=xZ.out;clear xZ;replace H:=gI H;rcases H with⟨c3,-,-,H⟩|⟨c3,-,-,H⟩
  ·obtain⟨gM,uX⟩:=rD c3;clear c3;(first|rw[gM]|(simp only[iE,jF];rw[gM])|skip)
   have H':=ae.mk H;clear H;go_wp2;go_meet
   case rel=>exact⟨_,(true),fI,H',⟨EC⟩,⟨dN⟩⟩
  ·obtain⟨gM,uX⟩:=rO c3;(first|rw[gM]|(simp only[iE,jF];rw[gM])|skip)
   have H':=ae.mk H;clear H;go_wp2;go_meet
   case rel=>exact⟨_,(decide ((a0.size:Int)>60)),fI,H',⟨EC⟩,⟨dN⟩⟩
 case rest=>
  clear xZ;obtain⟨kq,Tm,rfl,HA,Bu,HB⟩:=hcut;cases kq with
  |zero=>exact absurd HA.out (by simp[bG.j0])
  |succ uY=>
   have H:=HA.out;clear HA;simp only[bG.j0] at H;replace H:=gB H;rcases H with⟨rfl,H⟩|⟨rfl,H⟩
   ·obtain rfl:=cu H;go_wp2;go_ret;exact⟨nG,dN⟩
   ·replace H:=gD H;obtain⟨Ao,A5,H⟩:=H;have H':=ae.mk H;clear H;go_wp2_with(first|((with_reducible refine ag (f:=181) rfl ?_);refine aG (some 16) rfl rfl Tryz.func181 aK rfl #[.string a0,.int .u8 46] rfl eu ?_;(with_reducible refine(fZ.calls uY a0 46 Ao _ A5.out).mono ?_);rintro e w6 ⟨aug,rfl,ho0,hb⟩;refine⟨_,rfl,?_⟩;have aw6:=ae.mk (Kd.iT ho0 (bY dN));replace HB:=dS hb;(try clear hb);(try clear ho0)));go_loopg [4] uY (fun kq v4 w'=>∃(kv:Int),v4 = .int .i64 kv∧ae (bG.l0 kq Ao kv=some r)∧ae (kq≤uY)∧ae (Kd.R Kd.string 9 w' w.heap.size (fun _=>True) aug Ao)∧ae (Below w.heap.size w w'))
    case atStart=>exact⟨(0),fI,H',⟨Nat.le_refl _⟩,⟨Ah⟩,⟨dN⟩⟩
    case round=>
     clear H';obtain⟨kv,rfl,HA,Eo,ou,HB⟩:=hrel;cases gk with
     |zero=>exact absurd HA.out (by simp[bG.l0])
     |succ k2=>
      have H:=HA.out;clear HA;simp only[bG.l0] at H;replace H:=gI H;rcases H with⟨-,uR,-,H⟩|⟨-,uR,-,H⟩
      ·replace H:=gN H;obtain⟨-,tO,-,H⟩:=H;replace H:=gI H;rcases H with⟨c9,-,-,H⟩|⟨c9,-,-,H⟩
       ·obtain⟨xY,Gz⟩:=rD c9;clear c9;obtain rfl:=cu H;obtain⟨aqz,ad5,acw⟩:=Kd.iA ou.out;subst acw;have YL:0≤(kv:Int):=bE gL;have YM:kv<(Ao.length:Int):=bE gL;obtain⟨OG,e304,abV⟩:=Kd.iV (Kd.bC ou.out).2.2 kv YL YM;cases e304
        replace YL:=eq_true YL;replace YM:=eq_true YM;go_wp2;go_ret;exact⟨nG,dN⟩
       ·obtain⟨xY,Gz⟩:=rO c9;have H':=ae.mk H;clear H;obtain⟨azk,auh,aui⟩:=Kd.iA ou.out;subst aui;have YL:0≤(kv:Int):=bE gL;have YM:kv<(Ao.length:Int):=bE gL;obtain⟨OG,e304,abV⟩:=Kd.iV (Kd.bC ou.out).2.2 kv YL YM;cases e304
        replace YL:=eq_true YL;replace YM:=eq_true YM;go_wp2;go_loopg [5] k2 (fun kq v5 w'=>∃(uZ:Int),v5 = .int .i64 uZ∧ae (bG.l1 kq Ao kv uZ=some r)∧ae (kq≤k2)∧ae (Kd.R Kd.string 9 w' w.heap.size (fun _=>True) (.slice (some OG) Ao.length auh) Ao)∧ae (Below w.heap.size w w'))
        case atStart=>exact⟨(0),fI,H',⟨Nat.le_refl _⟩,⟨Ah⟩,⟨dN⟩⟩
        case round=>
         clear H';try clear uR
         try clear tO
         try clear c9
         try clear xY
         try clear Gz
         try clear abV
         try clear YL
         try clear YM
         obtain⟨uZ,rfl,HA,VR,ou,HB⟩:=hrel;cases gk with
         |zero=>exact absurd HA.out (by simp[bG.l1])
         |succ k3=>
          have H:=HA.out;clear HA;simp only[bG.l1] at H;replace H:=gN H;obtain⟨-,wO,-,H⟩:=H;replace H:=gN H;obtain⟨-,zP,-,H⟩:=H;replace H:=gI H;rcases H with⟨-,Ma,-,H⟩|⟨-,Ma,-,H⟩
          ·replace H:=gN H;obtain⟨-,Ew,-,H⟩:=H;replace H:=gI H;rcases H with⟨c17,-,-,H⟩|⟨c17,-,-,H⟩
           ·have Bh:decide (97≤(bt (cZ ByteArray.empty Ao kv) uZ))=true:=aT c17;clear c17;replace H:=gI H;rcases H with⟨c18,-,-,H⟩|⟨c18,-,-,H⟩
            ·have Sy:decide ((bt (cZ ByteArray.empty Ao kv) uZ)≤122)=true:=aT c18;clear c18;have H':=ae.mk H;clear H;have MU:0≤(kv:Int):=bE gL;have MV:kv<(Ao.length:Int):=bE gL;obtain⟨Ti,e305,We⟩:=Kd.iV (Kd.bC ou.out).2.2 kv MU MV;obtain rfl:OG=Ti:=(by injection e305);replace MU:=eq_true MU;replace MV:=eq_true MV;have Tj:0≤(kv:Int):=bE gL;have Tk:kv<(Ao.length:Int):=bE gL;obtain⟨YK,e306,abU⟩:=Kd.iV (Kd.bC ou.out).2.2 kv Tj Tk;obtain rfl:OG=YK:=(by injection e306);replace Tj:=eq_true Tj;replace Tk:=eq_true Tk;have p16:0≤(uZ:Int):=bE gL;have q16:uZ<((cZ ByteArray.empty Ao kv).size:Int):=bE gL;have hx16:=gV (cZ ByteArray.empty Ao kv) uZ;replace p16:=eq_true p16;replace q16:=eq_true q16;go_wp2;go_roundg k3
             case measure=>have:=Bu.out;have:=Eo.out;have:=VR.out;omega
             case rel=>exact⟨(wrap64 (uZ+1)),fI,H',⟨akM⟩,⟨Ah⟩,⟨dN⟩⟩
            ·have Sy:decide ((bt (cZ ByteArray.empty Ao kv) uZ)≤122)=false:=aN c18;clear c18;replace H:=gD H;obtain⟨aqU,A19,H⟩:=H;replace H:=gB H;rcases H with⟨rfl,H⟩|⟨rfl,H⟩
             ·exact bG.e0
             ·replace H:=gI H;rcases H with⟨c21,-,-,H⟩|⟨c21,-,-,H⟩
              ·obtain⟨Ey,L8⟩:=rD c21;clear c21;exact bG.e0
              ·obtain⟨Ey,L8⟩:=rO c21;exact bG.e1
           ·have Bh:decide (97≤(bt (cZ ByteArray.empty Ao kv) uZ))=false:=aN c17;clear c17;replace H:=gD H;obtain⟨aqV,A22,H⟩:=H;replace H:=gB H;rcases H with⟨rfl,H⟩|⟨rfl,H⟩
            ·exact bG.e0
            ·replace H:=gI H;rcases H with⟨c24,-,-,H⟩|⟨c24,-,-,H⟩
             ·obtain⟨H6,SX⟩:=rD c24;clear c24;exact bG.e0
             ·obtain⟨H6,SX⟩:=rO c24;exact bG.e1
          ·have H':=ae.mk H;clear H;have MU:0≤(kv:Int):=bE gL;have MV:kv<(Ao.length:Int):=bE gL;obtain⟨Ti,e305,We⟩:=Kd.iV (Kd.bC ou.out).2.2 kv MU MV;obtain rfl:OG=Ti:=(by injection e305);replace MU:=eq_true MU;replace MV:=eq_true MV;go_wp2;go_roundg k3
           case measure=>have:=Bu.out;have:=Eo.out;have:=VR.out;omega
           case rel=>exact⟨(wrap64 (kv+1)),fI,H',⟨akM⟩,⟨Ah⟩,⟨dN⟩⟩
      ·obtain rfl:=cu H;obtain⟨aqm,aqn,amg⟩:=Kd.iA ou.out;subst amg;go_wp2;go_ret;exact⟨nG,dN⟩


def pg.f (k:Nat) (aA:ByteArray) (aC:Int) (aI:ByteArray) (bD:ByteArray) (aU:Bool):Option (ByteArray):=if aC=80 then(some (⟨#[]⟩:af)) else((bU.f k aC).bind fun af3=>(if 1+af3.size≤9223372036854775807 then(some ((⟨#[58]⟩:af)++af3)) else(none)))
theorem pg.e0 {p:Prop} (h:p:=by
  obtain rfl:=cu H
  go_enter Tryz.func184,Tryz.ntmps184
  go_wp2_with(first|((with_reducible refine aY (N:=1) rfl ?_);refine jX #[.string aA,.int .i64 aC,.string aI,.string bD,.bool aU] 92 ?_;intro aqW hg jm hbox hb;have af4:=ae.mk (hbox);have aw7:=jL hg;have aw8:=jL hg;replace HB:=dS hb;clear hb hbox hg;obtain⟨_,_,_,_,_⟩:=mV af4;obtain⟨_,_,_,_,_⟩:=vz af4)|((with_reducible refine ag (f:=102) rfl ?_);refine aG (some 8) rfl rfl Tryz.func102 aK rfl #[.int .i64 aC] rfl eu ?_;(with_reducible refine(bU.calls k aC af3 _ A5.out).mono ?_);rintro e ku ⟨rfl,hb⟩;refine⟨_,rfl,?_⟩;replace af4:=iG (g:=aqW) hb;replace HB:=dS hb;(try clear hb);(try clear hb2);(try clear hk);(try clear hi)))
  go_ret
  exact⟨nG,dN⟩):p:=h
theorem pg.calls (k:Nat) (aA:ByteArray) (aC:Int) (aI bD:ByteArray) (aU:Bool) (r:ByteArray) (w:World) (h:pg.f k aA aC aI bD aU=some r) :
  Calls Tryz.prog 184 #[.agg #[.string aA,.int .i64 aC,.string aI,.string bD,.bool aU]] w fun e w'=>e = .returned (.string r)∧Below w.heap.size w w':=by
 have Pp:=Tryz.underlying92;have HB:=ae.mk (Below.refl w.heap.size w);have H:=h;clear h;unfold pg.f at H;replace H:=gI H;rcases H with⟨c2,-,-,H⟩|⟨c2,-,-,H⟩
 ·obtain⟨nk,wB⟩:=rD c2;clear c2;exact pg.e0
 ·obtain⟨nk,wB⟩:=rO c2;replace H:=gD H;obtain⟨af3,A5,H⟩:=H;replace H:=gI H;rcases H with⟨c6,yK,nW,H⟩|⟨c6,-,-,H⟩
  ·try have afm:(9223372036854775807<1+af3.size)=False:=eq_false (Nat.not_lt.2 c6)
   exact pg.e0
  ·exact absurd H (by simp)

def nO.f (aA:ByteArray) (aC:Int) (aI:ByteArray) (bD:ByteArray) (aU:Bool):Option (ByteArray):=if aU=true then(if 1+bD.size≤9223372036854775807 then(some ((⟨#[63]⟩:af)++bD)) else(none)) else(some (⟨#[]⟩:af))
theorem nO.e0 {p:Prop} (h:p:=by
  obtain rfl:=cu H
  go_enter Tryz.func185,Tryz.ntmps185
  go_wp2_with(first|((with_reducible refine aY (N:=1) rfl ?_);refine jX #[.string aA,.int .i64 aC,.string aI,.string bD,.bool false] 92 ?_;intro aqX hg ku hbox hb;have YN:=ae.mk (hbox);have aqY:=jL hg;have aqZ:=jL hg;replace HB:=dS hb;clear hb hbox hg;obtain⟨_,_,_,_,_⟩:=mV YN;obtain⟨_,_,_,_,_⟩:=vz YN)|((with_reducible refine aY (N:=1) rfl ?_);refine jX #[.string aA,.int .i64 aC,.string aI,.string bD,.bool true] 92 ?_;intro aqX hg jm hbox hb;have YN:=ae.mk (hbox);have aqY:=jL hg;have aqZ:=jL hg;replace HB:=dS hb;clear hb hbox hg;obtain⟨_,_,_,_,_⟩:=mV YN;obtain⟨_,_,_,_,_⟩:=vz YN))
  go_ret
  exact⟨nG,dN⟩):p:=h
theorem nO.calls (aA:ByteArray) (aC:Int) (aI bD:ByteArray) (aU:Bool) (r:ByteArray) (w:World) (h:nO.f aA aC aI bD aU=some r) :
  Calls Tryz.prog 185 #[.agg #[.string aA,.int .i64 aC,.string aI,.string bD,.bool aU]] w fun e w'=>e = .returned (.string r)∧Below w.heap.size w w':=by
 have Pp:=Tryz.underlying92;have HB:=ae.mk (Below.refl w.heap.size w);have H:=h;clear h;unfold nO.f at H;replace H:=gB H;rcases H with⟨rfl,H⟩|⟨rfl,H⟩
 ·replace H:=gN H;obtain⟨c3,uX,gM,H⟩:=H;try have Ui:(9223372036854775807<1+bD.size)=False:=eq_false (Nat.not_lt.2 c3)
  exact nO.e0
 ·exact nO.e0

def jH.f (k:Nat) (aA:ByteArray) (aC:Int) (aI:ByteArray) (bD:ByteArray) (aU:Bool):Option (ByteArray):=if 7+aA.size≤9223372036854775807 then((pg.f k aA aC aI bD aU).bind fun QN=>(if((⟨#[104,116,116,112,58,47,47]⟩:af)++aA).size+QN.size≤9223372036854775807 then(if(((⟨#[104,116,116,112,58,47,47]⟩:af)++aA)++QN).size+aI.size≤9223372036854775807 then((nO.f aA aC aI bD aU).bind fun acM=>(if((((⟨#[104,116,116,112,58,47,47]⟩:af)++aA)++QN)++aI).size+acM.size≤9223372036854775807 then(some (((((⟨#[104,116,116,112,58,47,47]⟩:af)++aA)++QN)++aI)++acM)) else(none))) else(none)) else(none))) else(none)
def jH.T1 : Bool×List (List Nat×List Nat):=(true,[([],[]),([0],[0]),([1],[1]),([],[]),([3],[3]),([2,4],[2,4]),([],[]),([6],[6]),([5,7],[5,7]),([],[]),([9,4],[9]),([8,10],[8,10]),([11,10,0,1,2,3,4,5,6,7,8,9,10,11],[11])])
def jH.B1 : List Nat:=[0,1,3,0,8,31,0,64,255,0,536,2047,4095]
theorem jH.FC : rP .any (opsOf Tryz.f144 1)=jH.T1:=by kernel_rfl
theorem jH.yI : kD jH.T1.2 jH.B1=true:=by kernel_rfl
theorem jH.calls (k:Nat) (aA:ByteArray) (aC:Int) (aI bD:ByteArray) (aU:Bool) (r:ByteArray) (w:World) (h:jH.f k aA aC aI bD aU=some r) :
  Calls Tryz.prog 144 #[.agg #[.string aA,.int .i64 aC,.string aI,.string bD,.bool aU]] w fun e w'=>e = .returned (.string r)∧Below w.heap.size w w':=by
 have Pp:=Tryz.underlying92;have HB:=ae.mk (Below.refl w.heap.size w);have H:=h;clear h;unfold jH.f at H;replace H:=gI H;rcases H with⟨c2,wB,nk,H⟩|⟨c2,-,-,H⟩
 ·try have aeE:(9223372036854775807<7+aA.size)=False:=eq_false (Nat.not_lt.2 c2)
  replace H:=gD H;obtain⟨QN,A3,H⟩:=H;replace H:=gN H;obtain⟨c4,yH,mP,H⟩:=H;try have XE:(9223372036854775807<((⟨#[104,116,116,112,58,47,47]⟩:af)++aA).size+QN.size)=False:=eq_false (Nat.not_lt.2 c4)
  try have amj:(9223372036854775807<7+aA.size+QN.size)=False:=by have h_:=c4;simp only[ByteArray.size_append] at h_;exact eq_false (Nat.not_lt.2 h_)
  replace H:=gN H;obtain⟨c5,Al,qh,H⟩:=H;try have ah1:(9223372036854775807<(((⟨#[104,116,116,112,58,47,47]⟩:af)++aA)++QN).size+aI.size)=False:=eq_false (Nat.not_lt.2 c5)
  try have alX:(9223372036854775807<7+aA.size+QN.size+aI.size)=False:=by have h_:=c5;simp only[ByteArray.size_append] at h_;exact eq_false (Nat.not_lt.2 h_)
  replace H:=gD H;obtain⟨acM,A6,H⟩:=H;replace H:=gN H;obtain⟨c7,KS,uR,H⟩:=H;try have an3:(9223372036854775807<((((⟨#[104,116,116,112,58,47,47]⟩:af)++aA)++QN)++aI).size+acM.size)=False:=eq_false (Nat.not_lt.2 c7)
  try have asS:(9223372036854775807<7+aA.size+QN.size+aI.size+acM.size)=False:=by have h_:=c7;simp only[ByteArray.size_append] at h_;exact eq_false (Nat.not_lt.2 h_)
  obtain rfl:=cu H;go_enter Tryz.func144,Tryz.ntmps144;try go_wp2_with(((with_reducible refine aY (N:=1) rfl ?_);refine jX #[.string aA,.int .i64 aC,.string aI,.string bD,.bool aU] 92 ?_;intro Tn hg jm hbox hb;have Qg:=ae.mk (hbox);have aw9:=jL hg;replace HB:=dS hb;clear hb hbox hg))
  replace Qg:=ae.mk (bJ Qg.out);replace HB:=ae.mk (di HB.out);refine lL (n:=13) (S:=fun w'=>w'.cell? ⟨Tn,0,none⟩=some (.string aA)∧w'.cell? ⟨Tn,1,none⟩=some (.int .i64 aC)∧w'.cell? ⟨Tn,2,none⟩=some (.string aI)∧w'.cell? ⟨Tn,3,none⟩=some (.string bD)∧w'.cell? ⟨Tn,4,none⟩=some (.bool aU)) (ds:=[]) (mV Qg) (fun hHeld=>?_);refine fu jH.FC jH.yI (fun HT_ HW_=>?_);generalize jm.drew=ku at Qg HB hHeld ⊢;repeat(first|refine nU ?_ (hy:=Or.inl ⟨by rfl,EP⟩)|refine fA ?_)
  refine dn 6 (some 9) ?_;refine iC 7 (some 10) (hy:=Or.inl ⟨by rfl,EP⟩) ?_;refine iC 9 (some 12) (hy:=Or.inl ⟨by rfl,EP⟩) ?_;refine iM (fun K hK=>?_);refine dV Tryz.func184 aK rfl #[.agg #[.string aA,.int .i64 aC,.string aI,.string bD,.bool aU]] (by rfl) rfl rfl eu ?_;(with_reducible refine(pg.calls k aA aC aI bD aU QN _ A3.out).mono ?_);rintro e pU ⟨rfl,hb⟩;refine⟨_,rfl,?_⟩;replace Qg:=iG (g:=Tn) hb;replace HB:=dS hb;(try clear hb)
  refine hK.out _ _ (mV Qg) (fun hHeld=>?_);clear hK K;refine eP ?_;repeat(first|refine fA ?_)
  refine iM (fun K hK=>?_);refine dV Tryz.func185 aK rfl #[.agg #[.string aA,.int .i64 aC,.string aI,.string bD,.bool aU]] (by rfl) rfl rfl eu ?_;(with_reducible refine(nO.calls aA aC aI bD aU acM _ A6.out).mono ?_);rintro e pU ⟨rfl,hb⟩;refine⟨_,rfl,?_⟩;replace Qg:=iG (g:=Tn) hb;replace HB:=dS hb;(try clear hb)
  refine hK.out _ _ (mV Qg) (fun hHeld=>?_);clear hK K;refine eP ?_;repeat(first|refine fA ?_)
  refine mW (iR HT_.out aK) ?_;try go_wp2
  go_ret;exact⟨nG,dN⟩
 ·exact absurd H (by simp)


def bL.j0 : Nat→Bool→ByteArray→Int→ByteArray→ByteArray→Bool→Option (Bool)
 |0,_,_,_,_,_,_=>none
 |k+1,x39,abW,abX,abY,FY,abZ=>if x39=true then(some false) else(if(FY.size:Int)>200 then(some false) else(if FY.toList=([]:List UInt8) then((fV.f k FY 35).bind fun aif=>(if aif.toList=FY.toList then((jH.f k abW abX abY FY abZ).bind fun amw=>(some (decide ((amw.size:Int)≤200)))) else(some false))) else((dC.f k FY).bind fun aq0=>(if aq0=true then((fV.f k FY 35).bind fun aih=>(if aih.toList=FY.toList then((jH.f k abW abX abY FY abZ).bind fun amx=>(some (decide ((amx.size:Int)≤200)))) else(some false))) else(some false)))))
def bL.f (k:Nat) (aA:ByteArray) (aC:Int) (aI:ByteArray) (bD:ByteArray) (aU:Bool):Option (Bool):=(bG.f k aA).bind fun aq1=>(if aq1=true then(if aC<1 then(bL.j0 k true aA aC aI bD aU) else(if aC>65535 then(bL.j0 k true aA aC aI bD aU) else(if aI.toList=([]:List UInt8) then(bL.j0 k true aA aC aI bD aU) else((ay.f k aI).bind fun af5=>(if af5.toList=aI.toList then(if aU=true then(bL.j0 k false aA aC aI bD aU) else(bL.j0 k (bD.toList != ([]:List UInt8)) aA aC aI bD aU)) else(bL.j0 k true aA aC aI bD aU)))))) else(bL.j0 k true aA aC aI bD aU))
def bL.T1 : Bool×List (List Nat×List Nat):=(true,[([],[]),([0],[0]),([1],[1]),([2],[2]),([3,2],[3]),([4],[4]),([5,4],[4,5]),([6,4],[4,6]),([4,7],[4,7]),([8,4],[8]),([9],[9]),([10,9],[9,10]),([11,9],[9,11]),([9,12],[9,12]),([13,9],[13]),([14],[14]),([15,14],[14,15]),([16,14],[14,16]),([14,17],[14,17]),([18,14],[18]),([19],[19]),([20,19],[19,20]),([21,19,19],[19,21]),([19],[19]),([23,19],[19,23]),([22,24,19],[19,22,24]),([19,25],[19,25]),([26,22],[26]),([27],[27]),([28,27],[27,28]),([29,27],[27,29]),([30,27,27],[27,30]),([31],[31]),([32,31],[31,32]),([33,31],[31,33]),([31,34,27],[27,31,34]),([27,35],[27,35])])
def bL.B1 : List Nat:=[0,1,3,7,15,31,63,127,255,511,1023,2047,4095,8191,16383,32767,65535,131071,262143,524287,1048575,2097151,4194303,1048575,9437183,33554431,67108863,134217727,268435455,536870911,1073741823,2147483647,4294967295,8589934591,17179869183,34359738367,68719476735]
theorem bL.FC : rP .any (opsOf Tryz.f143 1)=bL.T1:=by kernel_rfl
theorem bL.yI : kD bL.T1.2 bL.B1=true:=by kernel_rfl
def bL.T3 : Bool×List (List Nat×List Nat):=(true,[([],[]),([0],[0]),([1],[1]),([2],[2]),([3],[3]),([4],[4]),([5,4],[4,5]),([6,4],[4,6]),([7,4,4],[4,7]),([8],[8]),([9,8],[8,9]),([10,8,8],[8,10]),([11,8],[8,11]),([8,12,4],[4,8,12]),([4,13],[4,13]),([14,11],[14]),([15],[15]),([16,15],[15,16]),([17,15,15],[15,17]),([15],[15]),([19,15],[15,19]),([18,20,15],[15,18,20]),([15,21],[15,21])])
def bL.B3 : List Nat:=[0,1,3,7,15,31,63,127,255,511,1023,2047,4095,8191,16383,32767,65535,131071,262143,65535,589823,2097151,4194303]
theorem bL.Tg : rP .any (opsOf Tryz.f143 3)=bL.T3:=by kernel_rfl
theorem bL.Lg : kD bL.T3.2 bL.B3=true:=by kernel_rfl
theorem bL.e0 {p:Prop} (h:p:=by
  have H':=ae.mk H
  clear H
  try go_wp2
  replace kC:=ae.mk (bJ kC.out)
  replace HB:=ae.mk (di HB.out)
  refine lL (n:=37) (S:=fun w'=>w'.cell? ⟨mh,0,none⟩=some (.string aA)∧w'.cell? ⟨mh,1,none⟩=some (.int .i64 aC)∧w'.cell? ⟨mh,2,none⟩=some (.string aI)∧w'.cell? ⟨mh,3,none⟩=some (.string bD)∧w'.cell? ⟨mh,4,none⟩=some (.bool aU)) (ds:=[]) (mV kC) (fun hHeld=>?_);refine fu bL.FC bL.yI (fun HT_ HW_=>?_)
  generalize w3.drew=jm at kC HB hHeld ⊢
  repeat(first|refine nU ?_ (hy:=Or.inl ⟨by rfl,EP⟩)|refine fA ?_|(refine iM (fun K hK=>?_);refine dV Tryz.func183 aK rfl #[.string aA] (by rfl) rfl rfl eu ?_;(with_reducible refine(bG.calls k aA false _ A4.out).mono ?_);rintro e Aa ⟨rfl,hb⟩;refine⟨_,rfl,?_⟩;replace kC:=iG (g:=mh) hb;replace HB:=dS hb;(try clear hb);refine hK.out _ _ (mV kC) (fun hHeld=>?_);clear hK K;refine eP ?_)|(refine iM (fun K hK=>?_);refine dV Tryz.func183 aK rfl #[.string aA] (by rfl) rfl rfl eu ?_;(with_reducible refine(bG.calls k aA true _ A4.out).mono ?_);rintro e ku ⟨rfl,hb⟩;refine⟨_,rfl,?_⟩;replace kC:=iG (g:=mh) hb;replace HB:=dS hb;(try clear hb);refine hK.out _ _ (mV kC) (fun hHeld=>?_);clear hK K;refine eP ?_))
  refine mW (iR HT_.out aK) ?_
  try go_wp2
  go_meet
  case rel=>exact⟨_,(true),fI,H',⟨EC⟩,⟨yg⟩,⟨dN⟩⟩):p:=h
theorem bL.e1 {p:Prop} (h:p:=by
  obtain rfl:=cu H
  try go_wp2
  replace kC:=ae.mk (bJ kC.out)
  replace HB:=ae.mk (di HB.out)
  refine lL (n:=23) (S:=fun w'=>w'.cell? ⟨mh,0,none⟩=some (.string aA)∧w'.cell? ⟨mh,1,none⟩=some (.int .i64 aC)∧w'.cell? ⟨mh,2,none⟩=some (.string aI)∧w'.cell? ⟨mh,3,none⟩=some (.string bD)∧w'.cell? ⟨mh,4,none⟩=some (.bool aU)) (ds:=[]) (mV kC) (fun hHeld=>?_);refine fu bL.Tg bL.Lg (fun HT_ HW_=>?_)
  generalize wc.drew=zO at kC HB hHeld ⊢
  repeat(first|refine nU ?_ (hy:=Or.inl ⟨by rfl,EP⟩)|refine fA ?_|(refine iM (fun K hK=>?_);refine dV Tryz.func100 aK rfl #[.string bD] (by rfl) rfl rfl eu ?_;(with_reducible refine(dC.calls uY bD false _ A40.out).mono ?_);rintro e w' ⟨rfl,⟨nd,rfl⟩⟩;refine⟨_,rfl,?_⟩;refine hK.out _ _ (mV kC) (fun hHeld=>?_);clear hK K;refine eP ?_))
  refine mW (iR HT_.out aK) ?_
  try go_wp2
  go_ret
  exact⟨nG,dN⟩):p:=h
theorem bL.calls (k:Nat) (aA:ByteArray) (aC:Int) (aI bD:ByteArray) (aU r:Bool) (w:World) (h:bL.f k aA aC aI bD aU=some r) :
  Calls Tryz.prog 143 #[.agg #[.string aA,.int .i64 aC,.string aI,.string bD,.bool aU]] w fun e w'=>e = .returned (.bool r)∧Below w.heap.size w w':=by
 have Pp:=Tryz.underlying92;have HB:=ae.mk (Below.refl w.heap.size w);have H:=h;clear h;unfold bL.f at H;have xZ:=ae.mk H;clear H;go_enter Tryz.func143,Tryz.ntmps143;go_upto_region 1 with(first|((with_reducible refine aY (N:=1) rfl ?_);refine jX #[.string aA,.int .i64 aC,.string aI,.string bD,.bool aU] 92 ?_;intro mh hg w3 hbox hb;have kC:=ae.mk (hbox);have axa:=jL hg;replace HB:=dS hb;clear hb hbox hg));(try simp only[Act.put,List.setIfInBounds_toArray,List.set_cons_zero,List.set_cons_succ])
 go_cut [39] (fun v39 wc=>∃(kq:Nat) (af6:Bool),v39 = .bool af6∧ae (bL.j0 kq af6 aA aC aI bD aU=some r)∧ae (kq≤k)∧ae (wc.heap[mh]? = some (.cells #[.string aA,.int .i64 aC,.string aI,.string bD,.bool aU] 92 (0,0)))∧ae (Below w.heap.size w wc))
 case first=>
  have H:=xZ.out;clear xZ;replace H:=gD H;obtain⟨aq1,A4,H⟩:=H;replace H:=gB H;rcases H with⟨rfl,H⟩|⟨rfl,H⟩
  ·replace H:=gI H;rcases H with⟨-,nW,-,H⟩|⟨-,nW,-,H⟩
   ·(first|rw[nW]|(simp only[iE,jF];rw[nW])|skip)
    exact bL.e0
   ·(first|rw[nW]|(simp only[iE,jF];rw[nW])|skip)
    replace H:=gI H;rcases H with⟨c9,-,-,H⟩|⟨c9,-,-,H⟩
    ·have xY:decide (65535<aC)=true:=aT c9;clear c9;exact bL.e0
    ·have xY:decide (65535<aC)=false:=aN c9;clear c9;replace H:=gI H;rcases H with⟨c12,-,-,H⟩|⟨c12,-,-,H⟩
     ·obtain⟨wO,KZ⟩:=rD c12;clear c12;exact bL.e0
     ·obtain⟨wO,KZ⟩:=rO c12;replace H:=gD H;obtain⟨af5,V5,H⟩:=H;replace H:=gI H;rcases H with⟨c16,-,-,H⟩|⟨c16,-,-,H⟩
      ·obtain⟨Ae,Ji⟩:=rD c16;clear c16;replace H:=gB H;rcases H with⟨rfl,H⟩|⟨rfl,H⟩
       ·have H':=ae.mk H;clear H;try go_wp2
        replace kC:=ae.mk (bJ kC.out);replace HB:=ae.mk (di HB.out);refine lL (n:=37) (S:=fun w'=>w'.cell? ⟨mh,0,none⟩=some (.string aA)∧w'.cell? ⟨mh,1,none⟩=some (.int .i64 aC)∧w'.cell? ⟨mh,2,none⟩=some (.string aI)∧w'.cell? ⟨mh,3,none⟩=some (.string bD)∧w'.cell? ⟨mh,4,none⟩=some (.bool true)) (ds:=[]) (mV kC) (fun hHeld=>?_);refine fu bL.FC bL.yI (fun HT_ HW_=>?_);generalize w3.drew=jm at kC HB hHeld ⊢;repeat(first|refine nU ?_ (hy:=Or.inl ⟨by rfl,EP⟩)|refine fA ?_)
        refine iM (fun K hK=>?_);refine dV Tryz.func183 aK rfl #[.string aA] (by rfl) rfl rfl eu ?_;(with_reducible refine(bG.calls k aA true _ A4.out).mono ?_);rintro e pU ⟨rfl,hb⟩;refine⟨_,rfl,?_⟩;replace kC:=iG (g:=mh) hb;replace HB:=dS hb;(try clear hb)
        refine hK.out _ _ (mV kC) (fun hHeld=>?_);clear hK K;refine eP ?_;repeat(first|refine nU ?_ (hy:=Or.inl ⟨by rfl,EP⟩)|refine fA ?_)
        refine dn 23 (some 26) ?_;refine iC 24 (some 27) (hy:=Or.inl ⟨by rfl,EP⟩) ?_;refine iM (fun K hK=>?_);refine dV Tryz.func142 aK rfl #[.string aI] (by rfl) rfl rfl eu ?_;(with_reducible refine(ay.calls k aI af5 _ V5.out).mono ?_);rintro e pU ⟨rfl,hb⟩;refine⟨_,rfl,?_⟩;replace kC:=iG (g:=mh) hb;replace HB:=dS hb;(try clear hb)
        refine hK.out _ _ (mV kC) (fun hHeld=>?_);clear hK K;refine eP ?_;repeat(first|refine nU ?_ (hy:=Or.inl ⟨by rfl,EP⟩)|refine fA ?_)
        refine mW (iR HT_.out aK) ?_;try go_wp2
        go_meet
        case rel=>exact⟨_,(false),fI,H',⟨EC⟩,⟨yg⟩,⟨dN⟩⟩
       ·have H':=ae.mk H;clear H;try go_wp2
        replace kC:=ae.mk (bJ kC.out);replace HB:=ae.mk (di HB.out);refine lL (n:=37) (S:=fun w'=>w'.cell? ⟨mh,0,none⟩=some (.string aA)∧w'.cell? ⟨mh,1,none⟩=some (.int .i64 aC)∧w'.cell? ⟨mh,2,none⟩=some (.string aI)∧w'.cell? ⟨mh,3,none⟩=some (.string bD)∧w'.cell? ⟨mh,4,none⟩=some (.bool false)) (ds:=[]) (mV kC) (fun hHeld=>?_);refine fu bL.FC bL.yI (fun HT_ HW_=>?_);generalize w3.drew=jm at kC HB hHeld ⊢;repeat(first|refine nU ?_ (hy:=Or.inl ⟨by rfl,EP⟩)|refine fA ?_)
        refine iM (fun K hK=>?_);refine dV Tryz.func183 aK rfl #[.string aA] (by rfl) rfl rfl eu ?_;(with_reducible refine(bG.calls k aA true _ A4.out).mono ?_);rintro e pU ⟨rfl,hb⟩;refine⟨_,rfl,?_⟩;replace kC:=iG (g:=mh) hb;replace HB:=dS hb;(try clear hb)
        refine hK.out _ _ (mV kC) (fun hHeld=>?_);clear hK K;refine eP ?_;repeat(first|refine nU ?_ (hy:=Or.inl ⟨by rfl,EP⟩)|refine fA ?_)
        refine dn 23 (some 26) ?_;refine iC 24 (some 27) (hy:=Or.inl ⟨by rfl,EP⟩) ?_;refine iM (fun K hK=>?_);refine dV Tryz.func142 aK rfl #[.string aI] (by rfl) rfl rfl eu ?_;(with_reducible refine(ay.calls k aI af5 _ V5.out).mono ?_);rintro e pU ⟨rfl,hb⟩;refine⟨_,rfl,?_⟩;replace kC:=iG (g:=mh) hb;replace HB:=dS hb;(try clear hb)
        refine hK.out _ _ (mV kC) (fun hHeld=>?_);clear hK K;refine eP ?_;repeat(first|refine nU ?_ (hy:=Or.inl ⟨by rfl,EP⟩)|refine fA ?_)
        refine mW (iR HT_.out aK) ?_;try go_wp2
        go_meet
        case rel=>exact⟨_,((bD.toList != ([]:List UInt8))),(by first|(simp;generalize bD.toList=l_;cases l_ <;> rfl)|exact fI),H',⟨EC⟩,⟨yg⟩,⟨dN⟩⟩
      ·obtain⟨Ae,Ji⟩:=rO c16;have H':=ae.mk H;clear H;try go_wp2
       replace kC:=ae.mk (bJ kC.out);replace HB:=ae.mk (di HB.out);refine lL (n:=37) (S:=fun w'=>w'.cell? ⟨mh,0,none⟩=some (.string aA)∧w'.cell? ⟨mh,1,none⟩=some (.int .i64 aC)∧w'.cell? ⟨mh,2,none⟩=some (.string aI)∧w'.cell? ⟨mh,3,none⟩=some (.string bD)∧w'.cell? ⟨mh,4,none⟩=some (.bool aU)) (ds:=[]) (mV kC) (fun hHeld=>?_);refine fu bL.FC bL.yI (fun HT_ HW_=>?_);generalize w3.drew=jm at kC HB hHeld ⊢;repeat(first|refine nU ?_ (hy:=Or.inl ⟨by rfl,EP⟩)|refine fA ?_)
       refine iM (fun K hK=>?_);refine dV Tryz.func183 aK rfl #[.string aA] (by rfl) rfl rfl eu ?_;(with_reducible refine(bG.calls k aA true _ A4.out).mono ?_);rintro e pU ⟨rfl,hb⟩;refine⟨_,rfl,?_⟩;replace kC:=iG (g:=mh) hb;replace HB:=dS hb;(try clear hb)
       refine hK.out _ _ (mV kC) (fun hHeld=>?_);clear hK K;refine eP ?_;repeat(first|refine nU ?_ (hy:=Or.inl ⟨by rfl,EP⟩)|refine fA ?_)
       refine dn 23 (some 26) ?_;refine iC 24 (some 27) (hy:=Or.inl ⟨by rfl,EP⟩) ?_;refine iM (fun K hK=>?_);refine dV Tryz.func142 aK rfl #[.string aI] (by rfl) rfl rfl eu ?_;(with_reducible refine(ay.calls k aI af5 _ V5.out).mono ?_);rintro e pU ⟨rfl,hb⟩;refine⟨_,rfl,?_⟩;replace kC:=iG (g:=mh) hb;replace HB:=dS hb;(try clear hb)
       refine hK.out _ _ (mV kC) (fun hHeld=>?_);clear hK K;refine eP ?_;repeat(first|refine fA ?_)
       refine mW (iR HT_.out aK) ?_;try go_wp2
       go_meet
       case rel=>exact⟨_,(true),fI,H',⟨EC⟩,⟨yg⟩,⟨dN⟩⟩
  ·exact bL.e0
 case rest=>
  clear xZ;obtain⟨kq,af6,rfl,HA,Bu,kC,HB⟩:=hcut;cases kq with
  |zero=>exact absurd HA.out (by simp[bL.j0])
  |succ uY=>
   have H:=HA.out;clear HA;simp only[bL.j0] at H;replace H:=gB H;rcases H with⟨rfl,H⟩|⟨rfl,H⟩
   ·obtain rfl:=cu H;go_wp2;go_ret;exact⟨nG,dN⟩
   ·replace H:=gI H;rcases H with⟨c30,-,-,H⟩|⟨c30,-,-,H⟩
    ·have YE:decide (200<(bD.size:Int))=true:=aT c30;have ab0:decide (200<bD.size)=true:=aT aa;clear c30;exact bL.e1
    ·have YE:decide (200<(bD.size:Int))=false:=aN c30;have ab0:decide (200<bD.size)=false:=aN aa;clear c30;replace H:=gI H;rcases H with⟨c32,-,-,H⟩|⟨c32,-,-,H⟩
     ·obtain⟨U6,XK⟩:=rD c32;clear c32;replace H:=gD H;obtain⟨aif,A33,H⟩:=H;replace H:=gI H;rcases H with⟨c34,-,-,H⟩|⟨c34,-,-,H⟩
      ·obtain⟨XM,XL⟩:=rD c34;clear c34;replace H:=gD H;obtain⟨amw,A35,H⟩:=H;obtain rfl:=cu H;try go_wp2
       replace kC:=ae.mk (bJ kC.out);replace HB:=ae.mk (di HB.out);refine lL (n:=23) (S:=fun w'=>w'.cell? ⟨mh,0,none⟩=some (.string aA)∧w'.cell? ⟨mh,1,none⟩=some (.int .i64 aC)∧w'.cell? ⟨mh,2,none⟩=some (.string aI)∧w'.cell? ⟨mh,3,none⟩=some (.string bD)∧w'.cell? ⟨mh,4,none⟩=some (.bool aU)) (ds:=[]) (mV kC) (fun hHeld=>?_);refine fu bL.Tg bL.Lg (fun HT_ HW_=>?_);generalize wc.drew=zO at kC HB hHeld ⊢;repeat(first|refine nU ?_ (hy:=Or.inl ⟨by rfl,EP⟩)|refine fA ?_)
       refine dn 19 (some 59) ?_;refine iC 20 (some 60) (hy:=Or.inl ⟨by rfl,EP⟩) ?_;refine iM (fun K hK=>?_);refine dV Tryz.func140 aK rfl #[.string bD,.int .u8 35] (by rfl) rfl rfl eu ?_;(with_reducible refine(fV.calls uY bD 35 aif _ A33.out).mono ?_);rintro e w' ⟨rfl,⟨nd,rfl⟩⟩;refine⟨_,rfl,?_⟩;refine hK.out _ _ (mV kC) (fun hHeld=>?_);clear hK K;refine eP ?_;repeat(first|refine fA ?_)
       refine mW (iR HT_.out aK) ?_;obtain⟨_,_,_,_,_⟩:=mV kC;obtain⟨_,_,_,_,_⟩:=vz kC;try go_wp2_with(((with_reducible refine ag (f:=144) rfl ?_);refine aG (some 64) rfl rfl Tryz.func144 aK rfl #[.agg #[.string aA,.int .i64 aC,.string aI,.string bD,.bool aU]] rfl eu ?_;(with_reducible refine(jH.calls uY aA aC aI bD aU amw _ A35.out).mono ?_);rintro e Fq ⟨rfl,hb⟩;refine⟨_,rfl,?_⟩;replace kC:=iG (g:=mh) hb;replace HB:=dS hb;(try clear hb)))
       go_ret;exact⟨nG,dN⟩
      ·obtain⟨XM,XL⟩:=rO c34;obtain rfl:=cu H;try go_wp2
       replace kC:=ae.mk (bJ kC.out);replace HB:=ae.mk (di HB.out);refine lL (n:=23) (S:=fun w'=>w'.cell? ⟨mh,0,none⟩=some (.string aA)∧w'.cell? ⟨mh,1,none⟩=some (.int .i64 aC)∧w'.cell? ⟨mh,2,none⟩=some (.string aI)∧w'.cell? ⟨mh,3,none⟩=some (.string bD)∧w'.cell? ⟨mh,4,none⟩=some (.bool aU)) (ds:=[]) (mV kC) (fun hHeld=>?_);refine fu bL.Tg bL.Lg (fun HT_ HW_=>?_);generalize wc.drew=zO at kC HB hHeld ⊢;repeat(first|refine nU ?_ (hy:=Or.inl ⟨by rfl,EP⟩)|refine fA ?_)
       refine dn 19 (some 59) ?_;refine iC 20 (some 60) (hy:=Or.inl ⟨by rfl,EP⟩) ?_;refine iM (fun K hK=>?_);refine dV Tryz.func140 aK rfl #[.string bD,.int .u8 35] (by rfl) rfl rfl eu ?_;(with_reducible refine(fV.calls uY bD 35 aif _ A33.out).mono ?_);rintro e w' ⟨rfl,⟨nd,rfl⟩⟩;refine⟨_,rfl,?_⟩;refine hK.out _ _ (mV kC) (fun hHeld=>?_);clear hK K;refine eP ?_;repeat(first|refine fA ?_)
       refine mW (iR HT_.out aK) ?_;try go_wp2
       go_ret;exact⟨nG,dN⟩
     ·obtain⟨U6,XK⟩:=rO c32;replace H:=gD H;obtain⟨aq0,A40,H⟩:=H;replace H:=gB H;rcases H with⟨rfl,H⟩|⟨rfl,H⟩
      ·replace H:=gD H;obtain⟨aih,A42,H⟩:=H;replace H:=gI H;rcases H with⟨c43,-,-,H⟩|⟨c43,-,-,H⟩
       ·obtain⟨ajV,aq2⟩:=rD c43;clear c43;replace H:=gD H;obtain⟨amx,A44,H⟩:=H;obtain rfl:=cu H;try go_wp2
        replace kC:=ae.mk (bJ kC.out);replace HB:=ae.mk (di HB.out);refine lL (n:=23) (S:=fun w'=>w'.cell? ⟨mh,0,none⟩=some (.string aA)∧w'.cell? ⟨mh,1,none⟩=some (.int .i64 aC)∧w'.cell? ⟨mh,2,none⟩=some (.string aI)∧w'.cell? ⟨mh,3,none⟩=some (.string bD)∧w'.cell? ⟨mh,4,none⟩=some (.bool aU)) (ds:=[]) (mV kC) (fun hHeld=>?_);refine fu bL.Tg bL.Lg (fun HT_ HW_=>?_);generalize wc.drew=zO at kC HB hHeld ⊢;repeat(first|refine nU ?_ (hy:=Or.inl ⟨by rfl,EP⟩)|refine fA ?_)
        refine iM (fun K hK=>?_);refine dV Tryz.func100 aK rfl #[.string bD] (by rfl) rfl rfl eu ?_;(with_reducible refine(dC.calls uY bD true _ A40.out).mono ?_);rintro e w' ⟨rfl,⟨nd,rfl⟩⟩;refine⟨_,rfl,?_⟩;refine hK.out _ _ (mV kC) (fun hHeld=>?_);clear hK K;refine eP ?_;repeat(first|refine nU ?_ (hy:=Or.inl ⟨by rfl,EP⟩)|refine fA ?_)
        refine dn 19 (some 59) ?_;refine iC 20 (some 60) (hy:=Or.inl ⟨by rfl,EP⟩) ?_;refine iM (fun K hK=>?_);refine dV Tryz.func140 aK rfl #[.string bD,.int .u8 35] (by rfl) rfl rfl eu ?_;(with_reducible refine(fV.calls uY bD 35 aih _ A42.out).mono ?_);rintro e w' ⟨rfl,⟨nd,rfl⟩⟩;refine⟨_,rfl,?_⟩;refine hK.out _ _ (mV kC) (fun hHeld=>?_);clear hK K;refine eP ?_;repeat(first|refine fA ?_)
        refine mW (iR HT_.out aK) ?_;obtain⟨_,_,_,_,_⟩:=mV kC;obtain⟨_,_,_,_,_⟩:=vz kC;try go_wp2_with(((with_reducible refine ag (f:=144) rfl ?_);refine aG (some 64) rfl rfl Tryz.func144 aK rfl #[.agg #[.string aA,.int .i64 aC,.string aI,.string bD,.bool aU]] rfl eu ?_;(with_reducible refine(jH.calls uY aA aC aI bD aU amx _ A44.out).mono ?_);rintro e Jv ⟨rfl,hb⟩;refine⟨_,rfl,?_⟩;replace kC:=iG (g:=mh) hb;replace HB:=dS hb;(try clear hb)))
        go_ret;exact⟨nG,dN⟩
       ·obtain⟨ajV,aq2⟩:=rO c43;obtain rfl:=cu H;try go_wp2
        replace kC:=ae.mk (bJ kC.out);replace HB:=ae.mk (di HB.out);refine lL (n:=23) (S:=fun w'=>w'.cell? ⟨mh,0,none⟩=some (.string aA)∧w'.cell? ⟨mh,1,none⟩=some (.int .i64 aC)∧w'.cell? ⟨mh,2,none⟩=some (.string aI)∧w'.cell? ⟨mh,3,none⟩=some (.string bD)∧w'.cell? ⟨mh,4,none⟩=some (.bool aU)) (ds:=[]) (mV kC) (fun hHeld=>?_);refine fu bL.Tg bL.Lg (fun HT_ HW_=>?_);generalize wc.drew=zO at kC HB hHeld ⊢;repeat(first|refine nU ?_ (hy:=Or.inl ⟨by rfl,EP⟩)|refine fA ?_)
        refine iM (fun K hK=>?_);refine dV Tryz.func100 aK rfl #[.string bD] (by rfl) rfl rfl eu ?_;(with_reducible refine(dC.calls uY bD true _ A40.out).mono ?_);rintro e w' ⟨rfl,⟨nd,rfl⟩⟩;refine⟨_,rfl,?_⟩;refine hK.out _ _ (mV kC) (fun hHeld=>?_);clear hK K;refine eP ?_;repeat(first|refine nU ?_ (hy:=Or.inl ⟨by rfl,EP⟩)|refine fA ?_)
        refine dn 19 (some 59) ?_;refine iC 20 (some 60) (hy:=Or.inl ⟨by rfl,EP⟩) ?_;refine iM (fun K hK=>?_);refine dV Tryz.func140 aK rfl #[.string bD,.int .u8 35] (by rfl) rfl rfl eu ?_;(with_reducible refine(fV.calls uY bD 35 aih _ A42.out).mono ?_);rintro e w' ⟨rfl,⟨nd,rfl⟩⟩;refine⟨_,rfl,?_⟩;refine hK.out _ _ (mV kC) (fun hHeld=>?_);clear hK K;refine eP ?_;repeat(first|refine fA ?_)
        refine mW (iR HT_.out aK) ?_;try go_wp2
        go_ret;exact⟨nG,dN⟩
      ·exact bL.e1


mutual
def bH.j0 : Nat→ByteArray→Bool→Option (ByteArray×Int×ByteArray×ByteArray×Bool×Bool)
 |0,_,_=>none
 |k+1,x0,x35=>if x35=true then(some ((⟨#[]⟩:af),0,(⟨#[]⟩:af),(⟨#[]⟩:af),false,false)) else(if 7≤(x0.size:Int) then((fV.f k (x0.extract 7 x0.size) 63).bind fun GM=>((fV.f k GM 47).bind fun Cs=>((fV.f k Cs 58).bind fun MW=>((lq.f MW).bind fun G8=>(if(MW.size:Int)<(Cs.size:Int) then(if 0≤(wrap64 ((MW.size:Int)+1)) then(if(wrap64 ((MW.size:Int)+1))≤(Cs.size:Int) then((dK.f k (Cs.extract ((wrap64 ((MW.size:Int)+1)):Int).toNat Cs.size)).bind fun ajW=>(if ajW.2=true then(bH.j1 k (x0.extract 7 x0.size) GM Cs G8 ajW.1 (⟨#[47]⟩:af) (⟨#[]⟩:af) false) else(some ((⟨#[]⟩:af),0,(⟨#[]⟩:af),(⟨#[]⟩:af),false,false)))) else(none)) else(none)) else(bH.j1 k (x0.extract 7 x0.size) GM Cs G8 80 (⟨#[47]⟩:af) (⟨#[]⟩:af) false)))))) else(none))
def bH.j1 : Nat→ByteArray→ByteArray→ByteArray→ByteArray→Int→ByteArray→ByteArray→Bool→Option (ByteArray×Int×ByteArray×ByteArray×Bool×Bool)
 |0,_,_,_,_,_,_,_,_=>none
 |k+1,x4,x5,x6,JG,JH,LK,OH,OI=>if(x6.size:Int)<(x5.size:Int) then(if 0≤(x6.size:Int) then(if(x6.size:Int)≤(x5.size:Int) then((ay.f k (x5.extract ((x6.size:Int):Int).toNat x5.size)).bind fun aii=>(bH.j2 k x4 x5 JG JH aii OH OI)) else(none)) else(none)) else(bH.j2 k x4 x5 JG JH LK OH OI)
def bH.j2 : Nat→ByteArray→ByteArray→ByteArray→Int→ByteArray→ByteArray→Bool→Option (ByteArray×Int×ByteArray×ByteArray×Bool×Bool)
 |0,_,_,_,_,_,_,_=>none
 |k+1,x4,x5,JG,JH,LK,OH,OI=>if(x5.size:Int)<(x4.size:Int) then(if 0≤(wrap64 ((x5.size:Int)+1)) then(if(wrap64 ((x5.size:Int)+1))≤(x4.size:Int) then((bL.f k JG JH LK (x4.extract ((wrap64 ((x5.size:Int)+1)):Int).toNat x4.size) true).bind fun aq3=>(if aq3=true then(some (JG,JH,LK,x4.extract ((wrap64 ((x5.size:Int)+1)):Int).toNat x4.size,true,true)) else(some ((⟨#[]⟩:af),0,(⟨#[]⟩:af),(⟨#[]⟩:af),false,false)))) else(none)) else(none)) else((bL.f k JG JH LK OH OI).bind fun aq4=>(if aq4=true then(some (JG,JH,LK,OH,OI,true)) else(some ((⟨#[]⟩:af),0,(⟨#[]⟩:af),(⟨#[]⟩:af),false,false))))
end
def bH.f (k:Nat) (a0:ByteArray):Option (ByteArray×Int×ByteArray×ByteArray×Bool×Bool):=if(a0.size:Int)>200 then(bH.j0 k a0 true) else(if(a0.size:Int)<8 then(bH.j0 k a0 true) else((dC.f k a0).bind fun aq5=>(if aq5=true then((fV.f k a0 35).bind fun aij=>(if aij.toList=a0.toList then(if 0≤7 then(if 7≤(a0.size:Int) then((lq.f (a0.extract 0 7)).bind fun aik=>(bH.j0 k a0 (aik.toList != ([104,116,116,112,58,47,47]:List UInt8)))) else(none)) else(none)) else(bH.j0 k a0 true))) else(bH.j0 k a0 true))))
theorem bH.e0 {p:Prop} (h:p:=by
  have H':=ae.mk H
  clear H
  go_wp2
  go_meet
  case rel=>exact⟨_,(true),fI,H',⟨EC⟩,⟨yg⟩,⟨dN⟩⟩):p:=h
theorem bH.e1 {p:Prop} (h:p:=by
  have H':=ae.mk H
  clear H
  go_wp2_with(first|(go_at_call 100;(with_reducible refine(dC.calls k a0 false _ A6.out).mono ?_);rintro e w' ⟨rfl,⟨nd,rfl⟩⟩)|(go_at_call 100;(with_reducible refine(dC.calls k a0 true _ A6.out).mono ?_);rintro e w' ⟨rfl,⟨nd,rfl⟩⟩)|(go_at_call 140;(with_reducible refine(fV.calls k a0 35 aij _ A8.out).mono ?_);rintro e w' ⟨rfl,⟨nd,rfl⟩⟩))
  go_meet
  case rel=>exact⟨_,(true),fI,H',⟨EC⟩,⟨yg⟩,⟨dN⟩⟩):p:=h
theorem bH.e2 {p:Prop} (h:p:=by
  go_wp2_with(first|((with_reducible refine ag (f:=143) rfl ?_);refine aG (some 91) rfl rfl Tryz.func143 aK rfl #[.agg #[.string G8,.int .i64 oM,.string qi,.string (⟨#[]⟩:af),.bool false]] rfl eu ?_;(with_reducible refine(bL.calls ail G8 oM qi (⟨#[]⟩:af) false false _ A61.out).mono ?_);rintro e NQ ⟨rfl,hb⟩;refine⟨_,rfl,?_⟩;replace rW:=iG (g:=Bj) hb;replace wI:=iG (g:=Mm) hb;replace HB:=dS hb;(try clear hb);(try clear hb2);(try clear hk);(try clear hi);obtain⟨_,_,_,_,_⟩:=mV rW;obtain⟨_,_,_,_,_⟩:=vz rW)|((with_reducible refine ag (f:=143) rfl ?_);refine aG (some 91) rfl rfl Tryz.func143 aK rfl #[.agg #[.string G8,.int .i64 oM,.string qi,.string (J4.extract ((Wh):Int).toNat J4.size),.bool true]] rfl (by(try simp only[List.map_toArray,List.map_cons,List.map_nil]);first|done|(simp only[Tp];rfl)|rfl|(simp only[List.length_drop,List.length_take];rfl)) ?_;(with_reducible refine(bL.calls ail G8 oM qi (J4.extract ((Wh):Int).toNat J4.size) true false _ A50.out).mono ?_);rintro e Fq ⟨rfl,hb⟩;refine⟨_,rfl,?_⟩;replace rW:=iG (g:=Bj) hb;replace wI:=iG (g:=Mm) (o:=.cells #[.string G8,.int .i64 oM,.string qi,.string (J4.extract ((Wh):Int).toNat J4.size),.bool true] 92 (0,0)) hb;replace HB:=dS hb;(try clear hb);(try clear hb2);(try clear hk);(try clear hi);obtain⟨_,_,_,_,_⟩:=mV rW;obtain⟨_,_,_,_,_⟩:=vz rW)|((with_reducible refine ag (f:=141) rfl ?_);refine aG (some 59) rfl rfl Tryz.func141 aK rfl #[.string (Cs.extract ((af7):Int).toNat Cs.size)] rfl (by(try simp only[List.map_toArray,List.map_cons,List.map_nil]);first|done|(simp only[Vj];rfl)|rfl|(simp only[List.length_drop,List.length_take];rfl)) ?_;(with_reducible refine(dK.calls uY (Cs.extract ((af7):Int).toNat Cs.size) amy false _ A30.out).mono ?_);rintro e pU ⟨rfl,hb⟩;refine⟨_,rfl,?_⟩;replace rW:=iG (g:=Bj) hb;replace wI:=iG (g:=Mm) (o:=.cells #[.string G8,.int .i64 80,.string (⟨#[47]⟩:af),.string (⟨#[]⟩:af),.bool false] 92 (0,0)) hb;replace HB:=dS hb;(try clear hb);(try clear hb2);(try clear hk);(try clear hi);have an6:=Ck.out;have an7:=Cm.out;obtain⟨_,_,_,_,_⟩:=mV rW;obtain⟨_,_,_,_,_⟩:=vz rW))
  refine VH Bj 92 #[.string (⟨#[]⟩:af),.int .i64 0,.string (⟨#[]⟩:af),.string (⟨#[]⟩:af),.bool false] Tryz.underlying92 ?_
  first|exact⟨by first|rfl|(simp[jy,jA] <;> rfl)|(simp only[← Vj];first|rfl|(simp[jy,jA] <;> rfl))|(simp[*,jy,jA] <;> rfl),dN⟩|exact⟨by first|rfl|(simp[jy,jA] <;> rfl)|(simp only[← Tp];first|rfl|(simp[jy,jA] <;> rfl))|(simp[*,jy,jA] <;> rfl),dN⟩|exact⟨nG,dN⟩):p:=h
theorem bH.calls (k:Nat) (a0 r1:ByteArray) (r2:Int) (r3 r4:ByteArray) (r5 r6:Bool) (w:World) (h:bH.f k a0=some (r1,r2,r3,r4,r5,r6)) :
  Calls Tryz.prog 95 #[.string a0] w fun e w'=>e = .returned (.tuple #[.agg #[.string r1,.int .i64 r2,.string r3,.string r4,.bool r5],.bool r6])∧Below w.heap.size w w':=by
 have Pp:=Tryz.underlying92;have HB:=ae.mk (Below.refl w.heap.size w);have H:=h;clear h;unfold bH.f at H;have xZ:=ae.mk H;clear H;go_enter Tryz.func95,Tryz.ntmps95;go_upto_region 1 with(first|((with_reducible refine aY (N:=2) rfl ?_);refine FN #[.string (⟨#[]⟩:af),.int .i64 0,.string (⟨#[]⟩:af),.string (⟨#[]⟩:af),.bool false] 92 ?_;intro Bj hg w3 hbox hb;have rW:=ae.mk (hbox);have axb:=jL hg;replace HB:=dS hb;clear hb hbox hg));(try simp only[Act.put,List.setIfInBounds_toArray,List.set_cons_zero,List.set_cons_succ])
 go_cut [35] (fun v35 wc=>∃(kq:Nat) (af8:Bool),v35 = .bool af8∧ae (bH.j0 kq a0 af8=some (r1,r2,r3,r4,r5,r6))∧ae (kq≤k)∧ae (wc.heap[Bj]? = some (.cells #[.string (⟨#[]⟩:af),.int .i64 0,.string (⟨#[]⟩:af),.string (⟨#[]⟩:af),.bool false] 92 (0,0)))∧ae (Below w.heap.size w wc))
 case first=>
  have H:=xZ.out;clear xZ;replace H:=gI H;rcases H with⟨c4,-,-,H⟩|⟨c4,-,-,H⟩
  ·have mP:decide (200<(a0.size:Int))=true:=aT c4;have yH:decide (200<a0.size)=true:=aT aa;clear c4;(first|rw[mP]|rw[yH]|(simp only[iE,jF];rw[mP])|skip)
   exact bH.e0
  ·have mP:decide (200<(a0.size:Int))=false:=aN c4;have yH:decide (200<a0.size)=false:=aN aa;clear c4;(first|rw[mP]|rw[yH]|(simp only[iE,jF];rw[mP])|skip)
   replace H:=gI H;rcases H with⟨c5,qh,-,H⟩|⟨c5,qh,-,H⟩
   ·have Al:decide (a0.size<8)=true:=aT aa;clear c5;exact bH.e0
   ·have Al:decide (a0.size<8)=false:=aN aa;clear c5;replace H:=gD H;obtain⟨aq5,A6,H⟩:=H;replace H:=gB H;rcases H with⟨rfl,H⟩|⟨rfl,H⟩
    ·replace H:=gD H;obtain⟨aij,A8,H⟩:=H;replace H:=gI H;rcases H with⟨c9,-,-,H⟩|⟨c9,-,-,H⟩
     ·obtain⟨xY,Gz⟩:=rD c9;clear c9;replace H:=gN H;obtain⟨-,L6,yS,H⟩:=H;replace H:=gN H;obtain⟨-,JO,xA,H⟩:=H;replace H:=gD H;obtain⟨aik,LU,H⟩:=H;have H':=ae.mk H;clear H;go_wp2_with(first|(go_at_call 100;(with_reducible refine(dC.calls k a0 true _ A6.out).mono ?_);rintro e w' ⟨rfl,⟨nd,rfl⟩⟩)|(go_at_call 140;(with_reducible refine(fV.calls k a0 35 aij _ A8.out).mono ?_);rintro e w' ⟨rfl,⟨nd,rfl⟩⟩)|(go_at_call 83;(with_reducible refine(lq.calls (a0.extract 0 7) aik _ LU.out).mono ?_);rintro e jm ⟨rfl,hb⟩;replace rW:=iG (g:=Bj) hb;replace HB:=dS hb;(try clear hb)));go_meet
      case rel=>exact⟨_,((aik.toList != ([104,116,116,112,58,47,47]:List UInt8))),fI,H',⟨EC⟩,⟨yg⟩,⟨dN⟩⟩
     ·obtain⟨xY,Gz⟩:=rO c9;exact bH.e1
    ·exact bH.e1
 case rest=>
  clear xZ;obtain⟨kq,af8,rfl,HA,Bu,rW,HB⟩:=hcut;cases kq with
  |zero=>exact absurd HA.out (by simp[bH.j0])
  |succ uY=>
   have H:=HA.out;clear HA;simp only[bH.j0] at H;replace H:=gB H;rcases H with⟨rfl,H⟩|⟨rfl,H⟩
   ·simp only[Option.some.injEq,Prod.mk.injEq] at H;obtain⟨rfl,rfl,rfl,rfl,rfl,rfl⟩:=H;obtain⟨_,_,_,_,_⟩:=mV rW;obtain⟨_,_,_,_,_⟩:=vz rW;go_wp2;refine VH Bj 92 #[.string (⟨#[]⟩:af),.int .i64 0,.string (⟨#[]⟩:af),.string (⟨#[]⟩:af),.bool false] Tryz.underlying92 ?_;exact⟨nG,dN⟩
   ·obtain⟨J4,ak9⟩:∃ z_:ByteArray,a0.extract 7 a0.size=z_:=⟨_,rfl⟩;rw[ak9] at H;replace H:=gI H;rcases H with⟨-,Ji,Ae,H⟩|⟨c16,-,-,H⟩
    ·replace H:=gD H;obtain⟨GM,ZN,H⟩:=H;replace H:=gD H;obtain⟨Cs,A18,H⟩:=H;replace H:=gD H;obtain⟨MW,A19,H⟩:=H;replace H:=gD H;obtain⟨G8,A20,H⟩:=H;have amz:=ae.mk H;clear H;go_upto_if 52 with(first|((with_reducible refine ag (f:=140) rfl ?_);refine aG (some 40) rfl rfl Tryz.func140 aK rfl #[.string J4,.int .u8 63] rfl eu ?_;(with_reducible refine(fV.calls uY J4 63 GM _ ZN.out).mono ?_);rintro e w' ⟨rfl,⟨nd,rfl⟩⟩;refine⟨_,rfl,?_⟩;(try(rw[ma wc];generalize hq_:World.drewN wc _=wc;have o7:ae (wc.heap[Bj]? = some (.cells #[.string (⟨#[]⟩:af),.int .i64 0,.string (⟨#[]⟩:af),.string (⟨#[]⟩:af),.bool false] 92 (0,0))):=⟨by rw[← hq_];exact(by(with_reducible repeat(first|refine dm ?_ _|refine bJ ?_|refine dD ?_ _));exact rW.out)⟩;have qG:ae (Below w.heap.size w wc):=⟨by rw[← hq_];exact dN⟩;clear rW HB hq_;have rW:=o7;have HB:=qG;clear o7 qG)))|((with_reducible refine ag (f:=140) rfl ?_);refine aG (some 42) rfl rfl Tryz.func140 aK rfl #[.string GM,.int .u8 47] rfl eu ?_;(with_reducible refine(fV.calls uY GM 47 Cs _ A18.out).mono ?_);rintro e w' ⟨rfl,⟨nd,rfl⟩⟩;refine⟨_,rfl,?_⟩;(try(rw[ma wc];generalize hq_:World.drewN wc _=wc;have o7:ae (wc.heap[Bj]? = some (.cells #[.string (⟨#[]⟩:af),.int .i64 0,.string (⟨#[]⟩:af),.string (⟨#[]⟩:af),.bool false] 92 (0,0))):=⟨by rw[← hq_];exact(by(with_reducible repeat(first|refine dm ?_ _|refine bJ ?_|refine dD ?_ _));exact rW.out)⟩;have qG:ae (Below w.heap.size w wc):=⟨by rw[← hq_];exact dN⟩;clear rW HB hq_;have rW:=o7;have HB:=qG;clear o7 qG)))|((with_reducible refine ag (f:=140) rfl ?_);refine aG (some 44) rfl rfl Tryz.func140 aK rfl #[.string Cs,.int .u8 58] rfl eu ?_;(with_reducible refine(fV.calls uY Cs 58 MW _ A19.out).mono ?_);rintro e w' ⟨rfl,⟨nd,rfl⟩⟩;refine⟨_,rfl,?_⟩;(try(rw[ma wc];generalize hq_:World.drewN wc _=wc;have o7:ae (wc.heap[Bj]? = some (.cells #[.string (⟨#[]⟩:af),.int .i64 0,.string (⟨#[]⟩:af),.string (⟨#[]⟩:af),.bool false] 92 (0,0))):=⟨by rw[← hq_];exact(by(with_reducible repeat(first|refine dm ?_ _|refine bJ ?_|refine dD ?_ _));exact rW.out)⟩;have qG:ae (Below w.heap.size w wc):=⟨by rw[← hq_];exact dN⟩;clear rW HB hq_;have rW:=o7;have HB:=qG;clear o7 qG)))|((with_reducible refine ag (f:=83) rfl ?_);refine aG (some 46) rfl rfl Tryz.func83 aK rfl #[.string MW] rfl eu ?_;(with_reducible refine(lq.calls MW G8 _ A20.out).mono ?_);rintro e w22 ⟨rfl,hb⟩;refine⟨_,rfl,?_⟩;have o7:=iG (g:=Bj) hb;have qG:=dS hb;clear rW;clear HB;have rW:=o7;have HB:=qG;clear o7 qG;(try clear hb))|((with_reducible refine aY (N:=8) rfl ?_);refine FN #[.string (⟨#[]⟩:af),.int .i64 0,.string (⟨#[]⟩:af),.string (⟨#[]⟩:af),.bool false] 92 ?_;intro Mm hg w23 hbox hb;have o7:=iG (g:=Bj) hb;have qG:=dS hb;have Bi:=ae.mk (hbox);have R8:=jL hg;have n4_:=jL hg;have n5_:=J3 (g:=Bj) hg;have n6_:=LG n5_;clear rW;clear HB;have rW:=o7;have HB:=qG;have wI:=Bi;have axc:=R8;have axd:=n4_;have Ck:=n5_;have Cm:=n6_;clear o7 qG Bi R8 n4_ n5_ n6_;clear hb hbox hg;have axe:=Cm.out;have axf:=Ck.out;obtain⟨_,_,_,_,_⟩:=mV wI;obtain⟨_,_,_,_,_⟩:=vz wI));(try simp only[Act.put,List.setIfInBounds_toArray,List.set_cons_zero,List.set_cons_succ])
     go_cut [] (fun wc=>∃(kq:Nat) (MX:ByteArray) (MZ:Int) (M0:ByteArray) (M3:ByteArray) (M4:Bool) (oM:Int),ae (bH.j1 kq J4 GM Cs G8 oM (⟨#[47]⟩:af) (⟨#[]⟩:af) false=some (r1,r2,r3,r4,r5,r6))∧ae (kq≤uY)∧ae (wc.heap[Bj]? = some (.cells #[.string MX,.int .i64 MZ,.string M0,.string M3,.bool M4] 92 (0,0)))∧ae (wc.heap[Mm]? = some (.cells #[.string G8,.int .i64 oM,.string (⟨#[47]⟩:af),.string (⟨#[]⟩:af),.bool false] 92 (0,0)))∧ae (Below w.heap.size w wc))
     case first=>
      have H:=amz.out;clear amz;replace H:=gI H;rcases H with⟨c26,K5,-,H⟩|⟨c26,K5,-,H⟩
      ·have U4:decide (MW.size<Cs.size)=true:=aT (Int.ofNat_lt.mp c26);have auj:(MW.size<Cs.size)=True:=eq_true (Int.ofNat_lt.mp c26);clear c26;(first|rw[K5]|rw[U4]|(simp only[iE,jF];rw[K5])|skip)
       obtain⟨af7,Vj⟩:∃ j_:Int,(wrap64 ((MW.size:Int)+1))=j_:=⟨_,rfl⟩;(first|rw[Vj] at H|simp only[Vj] at H ⊢)
       have auk:(IntKind.i64.wrap ((MW.size:Int)+1))=af7:=(iE _).trans Vj;replace H:=gN H;obtain⟨-,XJ,SA,H⟩:=H;replace H:=gN H;obtain⟨-,Ot,Ou,H⟩:=H;replace H:=gD H;obtain⟨⟨amy,azl⟩,A30,H⟩:=H;dsimp only at H;replace H:=gB H;rcases H with⟨rfl,H⟩|⟨rfl,H⟩
       ·have H':=ae.mk H;clear H;go_wp2_with(((with_reducible refine ag (f:=141) rfl ?_);refine aG (some 59) rfl rfl Tryz.func141 aK rfl #[.string (Cs.extract ((af7):Int).toNat Cs.size)] rfl (by(try simp only[List.map_toArray,List.map_cons,List.map_nil]);first|done|(simp only[Vj];rfl)|rfl|(simp only[List.length_drop,List.length_take];rfl)) ?_;(with_reducible refine(dK.calls uY (Cs.extract ((af7):Int).toNat Cs.size) amy true _ A30.out).mono ?_);rintro e ku ⟨rfl,hb⟩;refine⟨_,rfl,?_⟩;replace rW:=iG (g:=Bj) hb;replace wI:=iG (g:=Mm) (o:=.cells #[.string G8,.int .i64 80,.string (⟨#[47]⟩:af),.string (⟨#[]⟩:af),.bool false] 92 (0,0)) hb;replace HB:=dS hb;(try clear hb);have axg:=Cm.out;have axh:=Ck.out;obtain⟨_,_,_,_,_⟩:=mV wI;obtain⟨_,_,_,_,_⟩:=vz wI));go_meet
        case rel=>exact⟨_,((⟨#[]⟩:af)),(0),((⟨#[]⟩:af)),((⟨#[]⟩:af)),(false),(amy),H',⟨Ug⟩,⟨yg⟩,⟨yg⟩,⟨dN⟩⟩
       ·simp only[Option.some.injEq,Prod.mk.injEq] at H;obtain⟨rfl,rfl,rfl,rfl,rfl,rfl⟩:=H;exact bH.e2
      ·have U4:decide (MW.size<Cs.size)=false:=aN (fun h=>c26 (Int.ofNat_lt.mpr h));have auj:(MW.size<Cs.size)=False:=eq_false (fun h=>c26 (Int.ofNat_lt.mpr h));clear c26;(first|rw[K5]|rw[U4]|(simp only[iE,jF];rw[K5])|skip)
       have H':=ae.mk H;clear H;go_wp2;go_meet
       case rel=>exact⟨_,((⟨#[]⟩:af)),(0),((⟨#[]⟩:af)),((⟨#[]⟩:af)),(false),(80),H',⟨Ug⟩,⟨yg⟩,⟨yg⟩,⟨dN⟩⟩
     case rest=>
      clear amz;try clear c16
      try clear Ae
      try clear Ji
      obtain⟨kq,MX,MZ,M0,M3,M4,oM,HA,aq6,rW,wI,HB⟩:=hcut;cases kq with
      |zero=>exact absurd HA.out (by simp[bH.j1])
      |succ aq7=>
       have H:=HA.out;clear HA;simp only[bH.j1] at H;have amA:=ae.mk H;clear H;go_upto_if 71 with(fail);go_cut [] (fun wc=>∃(kq:Nat) (qi:ByteArray),ae (bH.j2 kq J4 GM G8 oM qi (⟨#[]⟩:af) false=some (r1,r2,r3,r4,r5,r6))∧ae (kq≤aq7)∧ae (wc.heap[Bj]? = some (.cells #[.string MX,.int .i64 MZ,.string M0,.string M3,.bool M4] 92 (0,0)))∧ae (wc.heap[Mm]? = some (.cells #[.string G8,.int .i64 oM,.string qi,.string (⟨#[]⟩:af),.bool false] 92 (0,0)))∧ae (Below w.heap.size w wc))
       case first=>
        have H:=amA.out;clear amA;replace H:=gI H;rcases H with⟨QM,JU,-,H⟩|⟨QM,JU,-,H⟩
        ·have Ml:decide (Cs.size<GM.size)=true:=aT (Int.ofNat_lt.mp QM);have aul:(Cs.size<GM.size)=True:=eq_true (Int.ofNat_lt.mp QM);clear QM;(first|rw[JU]|rw[Ml]|(simp only[iE,jF];rw[JU])|skip)
         replace H:=gN H;obtain⟨-,aq8,aq9,H⟩:=H;replace H:=gN H;obtain⟨-,ara,ajE,H⟩:=H;replace H:=gD H;obtain⟨aii,A42,H⟩:=H;have H':=ae.mk H;clear H;go_wp2_with(((with_reducible refine ag (f:=142) rfl ?_);refine aG (some 76) rfl rfl Tryz.func142 aK rfl #[.string (GM.extract ((Cs.size:Int):Int).toNat GM.size)] rfl eu ?_;(with_reducible refine(ay.calls aq7 (GM.extract ((Cs.size:Int):Int).toNat GM.size) aii _ A42.out).mono ?_);rintro e Aa ⟨rfl,hb⟩;refine⟨_,rfl,?_⟩;replace rW:=iG (g:=Bj) hb;replace wI:=iG (g:=Mm) hb;replace HB:=dS hb;(try clear hb);have axi:=Cm.out;have axj:=Ck.out;obtain⟨_,_,_,_,_⟩:=mV wI;obtain⟨_,_,_,_,_⟩:=vz wI));go_meet
         case rel=>exact⟨_,(aii),H',⟨by have:=Bu.out;have:=aq6.out;first|omega|exact Nat.le_refl _⟩,⟨yg⟩,⟨yg⟩,⟨dN⟩⟩
        ·have Ml:decide (Cs.size<GM.size)=false:=aN (fun h=>QM (Int.ofNat_lt.mpr h));have aul:(Cs.size<GM.size)=False:=eq_false (fun h=>QM (Int.ofNat_lt.mpr h));clear QM;(first|rw[JU]|rw[Ml]|(simp only[iE,jF];rw[JU])|skip)
         have H':=ae.mk H;clear H;go_wp2;go_meet
         case rel=>exact⟨_,((⟨#[47]⟩:af)),H',⟨by have:=Bu.out;have:=aq6.out;first|omega|exact Nat.le_refl _⟩,⟨yg⟩,⟨yg⟩,⟨dN⟩⟩
       case rest=>
        clear amA;try clear c16
        try clear Ae
        try clear Ji
        obtain⟨kq,qi,HA,azm,rW,wI,HB⟩:=hcut;cases kq with
        |zero=>exact absurd HA.out (by simp[bH.j2])
        |succ ail=>
         have H:=HA.out;clear HA;simp only[bH.j2] at H;replace H:=gI H;rcases H with⟨c46,ajG,-,H⟩|⟨c46,ajG,-,H⟩
         ·have arb:decide (GM.size<J4.size)=true:=aT (Int.ofNat_lt.mp c46);have aum:(GM.size<J4.size)=True:=eq_true (Int.ofNat_lt.mp c46);clear c46;obtain⟨Wh,Tp⟩:∃ j_:Int,(wrap64 ((GM.size:Int)+1))=j_:=⟨_,rfl⟩;(first|rw[Tp] at H|simp only[Tp] at H ⊢)
          have aun:(IntKind.i64.wrap ((GM.size:Int)+1))=Wh:=(iE _).trans Tp;replace H:=gN H;obtain⟨-,arc,ard,H⟩:=H;replace H:=gN H;obtain⟨-,axk,arf,H⟩:=H;replace H:=gD H;obtain⟨aq3,A50,H⟩:=H;replace H:=gB H;rcases H with⟨rfl,H⟩|⟨rfl,H⟩
          ·simp only[Option.some.injEq,Prod.mk.injEq] at H;obtain⟨rfl,rfl,rfl,rfl,rfl,rfl⟩:=H;have axl:=Cm.out;have axm:=Ck.out;obtain⟨_,_,_,_,_⟩:=mV wI;obtain⟨_,_,_,_,_⟩:=vz wI;go_wp2_with(((with_reducible refine ag (f:=143) rfl ?_);refine aG (some 91) rfl rfl Tryz.func143 aK rfl #[.agg #[.string G8,.int .i64 oM,.string qi,.string (J4.extract ((Wh):Int).toNat J4.size),.bool true]] rfl (by(try simp only[List.map_toArray,List.map_cons,List.map_nil]);first|done|(simp only[Tp];rfl)|rfl|(simp only[List.length_drop,List.length_take];rfl)) ?_;(with_reducible refine(bL.calls ail G8 oM qi (J4.extract ((Wh):Int).toNat J4.size) true true _ A50.out).mono ?_);rintro e zO ⟨rfl,hb⟩;refine⟨_,rfl,?_⟩;replace rW:=iG (g:=Bj) hb;replace wI:=iG (g:=Mm) (o:=.cells #[.string G8,.int .i64 oM,.string qi,.string (J4.extract ((Wh):Int).toNat J4.size),.bool true] 92 (0,0)) hb;replace HB:=dS hb;(try clear hb);obtain⟨_,_,_⟩:=VG wI;have arh:zO.cell? ⟨Mm,3,none⟩=some (.string (J4.extract ((Wh):Int).toNat J4.size)):=(ai wI.out 3).trans rfl;have ari:=WI wI;obtain⟨_,_,_,_,_⟩:=vz wI;obtain⟨_,_,_,_,_⟩:=mV rW;obtain⟨_,_,_,_,_⟩:=vz rW));refine VH Bj 92 #[.string G8,.int .i64 oM,.string qi,.string (J4.extract ((Wh):Int).toNat J4.size),.bool true] Tryz.underlying92 ?_;exact⟨by first|rfl|(simp[jy,jA] <;> rfl)|(simp only[← Tp];first|rfl|(simp[jy,jA] <;> rfl))|(simp[*,jy,jA] <;> rfl),dN⟩
          ·simp only[Option.some.injEq,Prod.mk.injEq] at H;obtain⟨rfl,rfl,rfl,rfl,rfl,rfl⟩:=H;have axn:=Cm.out;have axo:=Ck.out;obtain⟨_,_,_,_,_⟩:=mV wI;obtain⟨_,_,_,_,_⟩:=vz wI;exact bH.e2
         ·have arb:decide (GM.size<J4.size)=false:=aN (fun h=>c46 (Int.ofNat_lt.mpr h));have aum:(GM.size<J4.size)=False:=eq_false (fun h=>c46 (Int.ofNat_lt.mpr h));clear c46;replace H:=gD H;obtain⟨aq4,A61,H⟩:=H;replace H:=gB H;rcases H with⟨rfl,H⟩|⟨rfl,H⟩
          ·simp only[Option.some.injEq,Prod.mk.injEq] at H;obtain⟨rfl,rfl,rfl,rfl,rfl,rfl⟩:=H;have axp:=Cm.out;have axq:=Ck.out;obtain⟨_,_,_,_,_⟩:=mV wI;obtain⟨_,_,_,_,_⟩:=vz wI;go_wp2_with(((with_reducible refine ag (f:=143) rfl ?_);refine aG (some 91) rfl rfl Tryz.func143 aK rfl #[.agg #[.string G8,.int .i64 oM,.string qi,.string (⟨#[]⟩:af),.bool false]] rfl eu ?_;(with_reducible refine(bL.calls ail G8 oM qi (⟨#[]⟩:af) false true _ A61.out).mono ?_);rintro e Jv ⟨rfl,hb⟩;refine⟨_,rfl,?_⟩;replace rW:=iG (g:=Bj) hb;replace wI:=iG (g:=Mm) hb;replace HB:=dS hb;(try clear hb);obtain⟨_,_,_,_,_⟩:=mV wI;obtain⟨_,_,_,_,_⟩:=vz wI;obtain⟨_,_,_,_,_⟩:=mV rW;obtain⟨_,_,_,_,_⟩:=vz rW));refine VH Bj 92 #[.string G8,.int .i64 oM,.string qi,.string (⟨#[]⟩:af),.bool false] Tryz.underlying92 ?_;exact⟨nG,dN⟩
          ·simp only[Option.some.injEq,Prod.mk.injEq] at H;obtain⟨rfl,rfl,rfl,rfl,rfl,rfl⟩:=H;have axr:=Cm.out;have axs:=Ck.out;obtain⟨_,_,_,_,_⟩:=mV wI;obtain⟨_,_,_,_,_⟩:=vz wI;exact bH.e2
    ·exact absurd H (by simp)

end Go.Proofs.YtfhllanhldbkkaaGreatDoor.P
