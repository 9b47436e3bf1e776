import Derived.Test.YtfhllanhldbkkaaGreatDoorPx0
import Derived.Test.YtfhllanhldbkkaaGreatDoorPximpl01a
import Derived.Test.YtfhllanhldbkkaaGreatDoorPximpl05b
import Derived.Test.YtfhllanhldbkkaaGreatDoorPximpl06d
import Derived.Test.YtfhllanhldbkkaaGreatDoorPximpl07c
import Derived.Test.YtfhllanhldbkkaaGreatDoorPxliba
import Derived.Test.YtfhllanhldbkkaaGreatDoorWC
import Derived.Test.YtfhllanhldbkkaaGreatDoorPximpl02i
namespace Go.Proofs.YtfhllanhldbkkaaGreatDoor.P
set_option maxHeartbeats 8000000
set_option maxRecDepth 100000
open Go.RowKit Go.Proofs.YtfhllanhldbkkaaGreatDoorW.ax Go.Proofs.YtfhllanhldbkkaaGreatDoorW.aD Go.Proofs.YtfhllanhldbkkaaGreatDoorW.aH
attribute [local go_sem] nZ oh qI qJ mq mr om oo   -- for this text's walks alone
set_option linter.unusedVariables false
set_option linter.unusedSimpArgs false

mutual
def bn.j0 : Nat→ByteArray→Bool→Option (ByteArray×Int×ByteArray×ByteArray×Bool×Bool)
 |0,_,_=>none
 |k+1,x0,x34=>if x34=true then(some ((⟨#[]⟩:af),0,(⟨#[]⟩:af),(⟨#[]⟩:af),false,false)) else(if 7≤(x0.size:Int) then((strings_IndexAny.f (x0.extract 7 x0.size) (⟨#[47,63]⟩:af)).bind fun aea=>(if aea<0 then(bn.j1 k (x0.extract 7 x0.size) ((x0.extract 7 x0.size).size:Int)) else(bn.j1 k (x0.extract 7 x0.size) aea))) else(none))
def bn.j1 : Nat→ByteArray→Int→Option (ByteArray×Int×ByteArray×ByteArray×Bool×Bool)
 |0,_,_=>none
 |k+1,x4,x5=>if 0≤x5 then(if x5≤(x4.size:Int) then((strings_Cut.f (x4.extract 0 (x5:Int).toNat) (⟨#[58]⟩:af)).bind fun aeb=>((pJ.f (x4.extract (x5:Int).toNat x4.size)).bind fun UT=>((mI.f aeb.1).bind fun KV=>(if aeb.2.2=true then((nP.f aeb.2.1).bind fun ai1=>(if ai1.2=true then(bn.j2 k KV ai1.1 UT.2.2.1 UT.2.2.2.1 UT.2.2.2.2) else(some ((⟨#[]⟩:af),0,(⟨#[]⟩:af),(⟨#[]⟩:af),false,false)))) else(bn.j2 k KV 80 UT.2.2.1 UT.2.2.2.1 UT.2.2.2.2))))) else(none)) else(none)
def bn.j2 : Nat→ByteArray→Int→ByteArray→ByteArray→Bool→Option (ByteArray×Int×ByteArray×ByteArray×Bool×Bool)
 |0,_,_,_,_,_=>none
 |k+1,NZ,N7,QR,N8,N9=>if QR.toList=([]:List UInt8) then(bn.j3 k NZ N7 (⟨#[47]⟩:af) N8 N9) else(bn.j3 k NZ N7 QR N8 N9)
def bn.j3 : Nat→ByteArray→Int→ByteArray→ByteArray→Bool→Option (ByteArray×Int×ByteArray×ByteArray×Bool×Bool)
 |0,_,_,_,_,_=>none
 |k+1,NZ,N7,QR,N8,N9=>(bF.f k QR).bind fun QJ=>((eG.f k NZ N7 QJ N8 N9).bind fun an8=>(if an8=true then(some (NZ,N7,QJ,N8,N9,true)) else(some ((⟨#[]⟩:af),0,(⟨#[]⟩:af),(⟨#[]⟩:af),false,false))))
end
def bn.f (k:Nat) (a0:ByteArray):Option (ByteArray×Int×ByteArray×ByteArray×Bool×Bool):=if(a0.size:Int)>200 then(bn.j0 k a0 true) else((bq.f k a0).bind fun an9=>(if an9=true then((strings_Contains.f a0 (⟨#[35]⟩:af)).bind fun aoa=>(if aoa=true then(bn.j0 k a0 true) else(if(a0.size:Int)<7 then(bn.j0 k a0 true) else(if 0≤7 then(if 7≤(a0.size:Int) then((mI.f (a0.extract 0 7)).bind fun ahF=>(bn.j0 k a0 (ahF.toList != ([104,116,116,112,58,47,47]:List UInt8)))) else(none)) else(none))))) else(bn.j0 k a0 true)))
theorem bn.e0 {p:Prop} (h:p:=by
  have H':=ae.mk H
  clear H
  go_wp2_with(first|(go_at_call 107;(with_reducible refine(bq.calls k a0  false _ A5.out).mono ?_);rintro e w' ⟨rfl,⟨nd,rfl⟩⟩)|(go_at_call 107;(with_reducible refine(bq.calls k a0  true _ A5.out).mono ?_);rintro e w' ⟨rfl,⟨nd,rfl⟩⟩)|(go_at_call 148;(with_reducible refine(strings_Contains.calls a0 (⟨#[35]⟩:af) false _ A7.out ?hT).mono ?_);(case hT=>exact gJ HT);rintro e w' ⟨rfl,⟨nd,rfl⟩⟩)|(go_at_call 148;(with_reducible refine(strings_Contains.calls a0 (⟨#[35]⟩:af) true _ A7.out ?hT).mono ?_);(case hT=>exact gJ HT);rintro e w' ⟨rfl,⟨nd,rfl⟩⟩))
  go_meet
  case rel=>exact⟨_,(true),fI,H',⟨EC⟩,⟨yg⟩,⟨dN⟩⟩):p:=h
theorem bn.e1 {p:Prop} (h:p:=by
  go_wp2_with(first|((with_reducible refine ag (f:=152) rfl ?_);refine aG (some 77) rfl rfl Tryz.func152 aK rfl #[.string BB] rfl eu ?_;(with_reducible refine(bF.calls ahG BB QJ _ A50.out).mono ?_);rintro e Aa ⟨rfl,hb⟩;refine⟨_,rfl,?_⟩;replace uS:=iG (g:=Ci) hb;replace uT:=iG (g:=Oa) hb;replace HB:=dS hb;(try clear hb);(try clear hb2);(try clear hk);(try clear hi);obtain⟨_,_,_,_,_⟩:=mV uT;obtain⟨_,_,_,_,_⟩:=vz uT)|((with_reducible refine ag (f:=153) rfl ?_);refine aG (some 80) rfl rfl Tryz.func153 aK rfl #[.agg #[.string KV,.int .i64 tu,.string QJ,.string MF,.bool MG]] rfl eu ?_;(with_reducible refine(eG.calls ahG KV tu QJ MF MG false _ A51.out ?hT).mono ?_);(case hT=>exact gJ HT);rintro e Fq ⟨rfl,hb⟩;refine⟨_,rfl,?_⟩;replace uS:=iG (g:=Ci) hb;replace uT:=iG (g:=Oa) (o:=.cells #[.string KV,.int .i64 tu,.string QJ,.string MF,.bool MG] 92 (0,0)) hb;replace HB:=dS hb;(try clear hb);(try clear hb2);(try clear hk);(try clear hi);obtain⟨_,_,_,_,_⟩:=mV uS;obtain⟨_,_,_,_,_⟩:=vz uS)|((with_reducible refine ag (f:=151) rfl ?_);refine aG (some 63) rfl rfl Tryz.func151 aK rfl #[.string aec] rfl eu ?_;(with_reducible refine(nP.calls aec ak8 false _ A36.out ?hT).mono ?_);(case hT=>exact gJ HT);rintro e pU ⟨rfl,hb⟩;refine⟨_,rfl,?_⟩;replace uS:=iG (g:=Ci) hb;replace uT:=iG (g:=Oa) (o:=.cells #[.string KV,.int .i64 80,.string Po,.string MF,.bool MG] 92 (0,0)) hb;replace HB:=dS hb;(try clear hb);(try clear hb2);(try clear hk);(try clear hi);have avD:=EG.out;have avE:=EH.out;obtain⟨_,_,_,_,_⟩:=mV uS;obtain⟨_,_,_,_,_⟩:=vz uS))
  refine VH Ci 92 #[.string (⟨#[]⟩:af),.int .i64 0,.string (⟨#[]⟩:af),.string (⟨#[]⟩:af),.bool false] Tryz.underlying92 ?_
  exact⟨nG,dN⟩):p:=h
theorem bn.calls (k:Nat) (a0 r1:ByteArray) (r2:Int) (r3 r4:ByteArray) (r5 r6:Bool) (w:World) (h:bn.f k a0=some (r1,r2,r3,r4,r5,r6)) (HT0:pY w) :
  Calls Tryz.prog 104 #[.string a0] w fun e w'=>e = .returned (.tuple #[.agg #[.string r1,.int .i64 r2,.string r3,.string r4,.bool r5],.bool r6])∧Below w.heap.size w w':=by
 have HT:=ae.mk HT0;clear HT0;have Pp:=Tryz.underlying92;have HB:=ae.mk (Below.refl w.heap.size w);have H:=h;clear h;unfold bn.f at H;have xZ:=ae.mk H;clear H;go_enter Tryz.func104,Tryz.ntmps104;go_upto_region 1 with(first|((with_reducible refine aY (N:=2) rfl ?_);refine FN #[.string (⟨#[]⟩:af),.int .i64 0,.string (⟨#[]⟩:af),.string (⟨#[]⟩:af),.bool false] 92 ?_;intro Ci hg w3 hbox hb;have uS:=ae.mk (hbox);have avF:=jL hg;replace HB:=dS hb;clear hb hbox hg));(try simp only[Act.put,List.setIfInBounds_toArray,List.set_cons_zero,List.set_cons_succ])
 go_cut [34] (fun v34 wc=>∃(kq:Nat) (aed:Bool),v34 = .bool aed∧ae (bn.j0 kq a0 aed=some (r1,r2,r3,r4,r5,r6))∧ae (kq≤k)∧ae (wc.heap[Ci]? = some (.cells #[.string (⟨#[]⟩:af),.int .i64 0,.string (⟨#[]⟩:af),.string (⟨#[]⟩:af),.bool false] 92 (0,0)))∧ae (Below w.heap.size w wc))
 case first=>
  have H:=xZ.out;clear xZ;replace H:=gI H;rcases H with⟨c4,-,-,H⟩|⟨c4,-,-,H⟩
  ·have mP:decide (200<(a0.size:Int))=true:=aT c4;have yH:decide (200<a0.size)=true:=aT aa;clear c4;(first|rw[mP]|(simp only[iE,jF];rw[mP])|skip)
   have H':=ae.mk H;clear H;go_wp2;go_meet
   case rel=>exact⟨_,(true),fI,H',⟨EC⟩,⟨yg⟩,⟨dN⟩⟩
  ·have mP:decide (200<(a0.size:Int))=false:=aN c4;have yH:decide (200<a0.size)=false:=aN aa;clear c4;(first|rw[mP]|(simp only[iE,jF];rw[mP])|skip)
   replace H:=gD H;obtain⟨an9,A5,H⟩:=H;replace H:=gB H;rcases H with⟨rfl,H⟩|⟨rfl,H⟩
   ·replace H:=gD H;obtain⟨aoa,A7,H⟩:=H;replace H:=gB H;rcases H with⟨rfl,H⟩|⟨rfl,H⟩
    ·exact bn.e0
    ·replace H:=gI H;rcases H with⟨c9,xY,-,H⟩|⟨c9,xY,-,H⟩
     ·have Gz:decide (a0.size<7)=true:=aT aa;clear c9;exact bn.e0
     ·have Gz:decide (a0.size<7)=false:=aN aa;clear c9;replace H:=gN H;obtain⟨-,L6,yS,H⟩:=H;replace H:=gN H;obtain⟨-,JO,xA,H⟩:=H;replace H:=gD H;obtain⟨ahF,LU,H⟩:=H;have H':=ae.mk H;clear H;go_wp2_with(first|(go_at_call 107;(with_reducible refine(bq.calls k a0  true _ A5.out).mono ?_);rintro e w' ⟨rfl,⟨nd,rfl⟩⟩)|(go_at_call 148;(with_reducible refine(strings_Contains.calls a0 (⟨#[35]⟩:af) false _ A7.out ?hT).mono ?_);(case hT=>exact gJ HT);rintro e w' ⟨rfl,⟨nd,rfl⟩⟩)|(go_at_call 89;(with_reducible refine(mI.calls (a0.extract 0 7) ahF _ LU.out).mono ?_);rintro e jm ⟨rfl,hb⟩;replace uS:=iG (g:=Ci) hb;replace HB:=dS hb;(try clear hb)));go_meet
      case rel=>exact⟨_,((ahF.toList != ([104,116,116,112,58,47,47]:List UInt8))),fI,H',⟨EC⟩,⟨yg⟩,⟨dN⟩⟩
   ·exact bn.e0
 case rest=>
  clear xZ;obtain⟨kq,aed,rfl,HA,Bu,uS,HB⟩:=hcut;cases kq with
  |zero=>exact absurd HA.out (by simp[bn.j0])
  |succ uY=>
   have H:=HA.out;clear HA;simp only[bn.j0] at H;replace H:=gB H;rcases H with⟨rfl,H⟩|⟨rfl,H⟩
   ·simp only[Option.some.injEq,Prod.mk.injEq] at H;obtain⟨rfl,rfl,rfl,rfl,rfl,rfl⟩:=H;obtain⟨_,_,_,_,_⟩:=mV uS;obtain⟨_,_,_,_,_⟩:=vz uS;go_wp2;refine VH Ci 92 #[.string (⟨#[]⟩:af),.int .i64 0,.string (⟨#[]⟩:af),.string (⟨#[]⟩:af),.bool false] Tryz.underlying92 ?_;exact⟨nG,dN⟩
   ·obtain⟨J4,ak9⟩:∃ z_:ByteArray,a0.extract 7 a0.size=z_:=⟨_,rfl⟩;rw[ak9] at H;replace H:=gI H;rcases H with⟨-,Ji,Ae,H⟩|⟨c16,-,-,H⟩
    ·replace H:=gD H;obtain⟨aea,ZN,H⟩:=H;have ala:=ae.mk H;clear H;go_upto_if 41 with(first|((with_reducible refine ag (f:=149) rfl ?_);refine aG (some 39) rfl rfl Tryz.func149 aK rfl #[.string J4,.string (⟨#[47,63]⟩:af)] rfl eu ?_;(with_reducible refine(strings_IndexAny.calls J4 (⟨#[47,63]⟩:af) aea _ ZN.out).mono ?_);rintro e w19 ⟨rfl,hb⟩;refine⟨_,rfl,?_⟩;have o7:=iG (g:=Ci) hb;have qG:=dS hb;clear uS;clear HB;have uS:=o7;have HB:=qG;clear o7 qG;(try clear hb)));(try simp only[Act.put,List.setIfInBounds_toArray,List.set_cons_zero,List.set_cons_succ])
     go_cut [5] (fun v5 wc=>∃(kq:Nat) (Ob:Int),v5 = .int .i64 Ob∧ae (bn.j1 kq J4 Ob=some (r1,r2,r3,r4,r5,r6))∧ae (kq≤uY)∧ae (wc.heap[Ci]? = some (.cells #[.string (⟨#[]⟩:af),.int .i64 0,.string (⟨#[]⟩:af),.string (⟨#[]⟩:af),.bool false] 92 (0,0)))∧ae (Below w.heap.size w wc))
     case first=>
      have H:=ala.out;clear ala;replace H:=gI H;rcases H with⟨-,Ex,-,H⟩|⟨-,Ex,-,H⟩
      ·(first|rw[Ex]|(simp only[iE,jF];rw[Ex])|skip)
       have H':=ae.mk H;clear H;go_wp2;go_meet
       case rel=>exact⟨_,((J4.size:Int)),fI,H',⟨Ug⟩,⟨yg⟩,⟨dN⟩⟩
      ·(first|rw[Ex]|(simp only[iE,jF];rw[Ex])|skip)
       have H':=ae.mk H;clear H;go_wp2;go_meet
       case rel=>exact⟨_,(aea),fI,H',⟨Ug⟩,⟨yg⟩,⟨dN⟩⟩
     case rest=>
      clear ala;try clear c16
      try clear Ae
      try clear Ji
      obtain⟨kq,Ob,rfl,HA,ahH,uS,HB⟩:=hcut;cases kq with
      |zero=>exact absurd HA.out (by simp[bn.j1])
      |succ asT=>
       have H:=HA.out;clear HA;simp only[bn.j1] at H;replace H:=gN H;obtain⟨-,L8,Ey,H⟩:=H;replace H:=gN H;obtain⟨-,UU,UW,H⟩:=H;replace H:=gD H;obtain⟨⟨alb,aec,asU⟩,A23,H⟩:=H;dsimp only at H;have H6:=eq_true (bE gL:0≤Ob);have Fs:=eq_true (bE gL:Ob≤(J4.size:Int));replace H:=gD H;obtain⟨⟨aob,aoc,Po,MF,MG⟩,A26,H⟩:=H;dsimp only at H;replace H:=gD H;obtain⟨KV,A27,H⟩:=H;have alc:=ae.mk H;clear H;go_upto_if 60 with(first|((with_reducible refine ag (f:=86) rfl ?_);refine aG (some 48) rfl rfl Tryz.func86 aK rfl #[.string (J4.extract 0 (Ob:Int).toNat),.string (⟨#[58]⟩:af)] rfl eu ?_;(with_reducible refine(strings_Cut.calls (J4.extract 0 (Ob:Int).toNat) (⟨#[58]⟩:af) alb aec asU _ A23.out ?hT).mono ?_);(case hT=>exact gJ HT);rintro e w' ⟨rfl,⟨nd,rfl⟩⟩;refine⟨_,rfl,?_⟩;(try(rw[ma wc];generalize hq_:World.drewN wc _=wc;have o7:ae (wc.heap[Ci]? = some (.cells #[.string (⟨#[]⟩:af),.int .i64 0,.string (⟨#[]⟩:af),.string (⟨#[]⟩:af),.bool false] 92 (0,0))):=⟨by rw[← hq_];exact(by(with_reducible repeat(first|refine dm ?_ _|refine bJ ?_|refine dD ?_ _));exact uS.out)⟩;have qG:ae (Below w.heap.size w wc):=⟨by rw[← hq_];exact dN⟩;clear uS HB hq_;have uS:=o7;have HB:=qG;clear o7 qG)))|((with_reducible refine ag (f:=150) rfl ?_);refine aG (some 55) rfl rfl Tryz.func150 aK rfl #[.string (J4.extract (Ob:Int).toNat J4.size)] rfl eu ?_;(with_reducible refine(pJ.calls (J4.extract (Ob:Int).toNat J4.size) aob aoc Po MF MG _ A26.out ?hT).mono ?_);(case hT=>exact gJ HT);rintro e w29 ⟨rfl,hb⟩;refine⟨_,rfl,?_⟩;have o7:=iG (g:=Ci) hb;have qG:=dS hb;clear uS;clear HB;have uS:=o7;have HB:=qG;clear o7 qG;(try clear hb))|((with_reducible refine aY (N:=9) rfl ?_);refine FN #[.string (⟨#[]⟩:af),.int .i64 0,.string (⟨#[]⟩:af),.string (⟨#[]⟩:af),.bool false] 92 ?_;intro Oa hg w30 hbox hb;have o7:=iG (g:=Ci) hb;have qG:=dS hb;have Bi:=ae.mk (hbox);have R8:=jL hg;have n4_:=jL hg;have n5_:=J3 (g:=Ci) hg;have n6_:=LG n5_;clear uS;clear HB;have uS:=o7;have HB:=qG;have uT:=Bi;have avG:=R8;have avH:=n4_;have EG:=n5_;have EH:=n6_;clear o7 qG Bi R8 n4_ n5_ n6_;clear hb hbox hg;have avI:=EH.out;have avJ:=EG.out;obtain⟨_,_,_,_,_⟩:=mV uT;obtain⟨_,_,_,_,_⟩:=vz uT)|((with_reducible refine ag (f:=89) rfl ?_);refine aG (some 57) rfl rfl Tryz.func89 aK rfl #[.string alb] rfl eu ?_;(with_reducible refine(mI.calls alb KV _ A27.out).mono ?_);rintro e w33 ⟨rfl,hb⟩;refine⟨_,rfl,?_⟩;have o7:=iG (g:=Ci) hb;have qG:=iG (g:=Oa) (o:=.cells #[.string aob,.int .i64 aoc,.string Po,.string MF,.bool MG] 92 (0,0)) hb;have Bi:=dS hb;clear uS;clear uT;clear HB;have uS:=o7;have uT:=qG;have HB:=Bi;clear o7 qG Bi;(try clear hb);obtain⟨_,_,_,_,_⟩:=mV uT;obtain⟨_,_,_,_,_⟩:=vz uT));(try simp only[Act.put,List.setIfInBounds_toArray,List.set_cons_zero,List.set_cons_succ])
       go_cut [] (fun wc=>∃(kq:Nat) (MH:ByteArray) (MI:Int) (MJ:ByteArray) (MK:ByteArray) (ML:Bool) (tu:Int),ae (bn.j2 kq KV tu Po MF MG=some (r1,r2,r3,r4,r5,r6))∧ae (kq≤asT)∧ae (wc.heap[Ci]? = some (.cells #[.string MH,.int .i64 MI,.string MJ,.string MK,.bool ML] 92 (0,0)))∧ae (wc.heap[Oa]? = some (.cells #[.string KV,.int .i64 tu,.string Po,.string MF,.bool MG] 92 (0,0)))∧ae (Below w.heap.size w wc))
       case first=>
        have H:=alc.out;clear alc;replace H:=gB H;rcases H with⟨rfl,H⟩|⟨rfl,H⟩
        ·replace H:=gD H;obtain⟨⟨ak8,ayJ⟩,A36,H⟩:=H;dsimp only at H;replace H:=gB H;rcases H with⟨rfl,H⟩|⟨rfl,H⟩
         ·have H':=ae.mk H;clear H;go_wp2_with(((with_reducible refine ag (f:=151) rfl ?_);refine aG (some 63) rfl rfl Tryz.func151 aK rfl #[.string aec] rfl eu ?_;(with_reducible refine(nP.calls aec ak8 true _ A36.out ?hT).mono ?_);(case hT=>exact gJ HT);rintro e ku ⟨rfl,hb⟩;refine⟨_,rfl,?_⟩;replace uS:=iG (g:=Ci) hb;replace uT:=iG (g:=Oa) (o:=.cells #[.string KV,.int .i64 80,.string Po,.string MF,.bool MG] 92 (0,0)) hb;replace HB:=dS hb;(try clear hb);have avK:=EH.out;have avL:=EG.out;obtain⟨_,_,_,_,_⟩:=mV uT;obtain⟨_,_,_,_,_⟩:=vz uT));go_meet
          case rel=>exact⟨_,((⟨#[]⟩:af)),(0),((⟨#[]⟩:af)),((⟨#[]⟩:af)),(false),(ak8),H',⟨by have:=Bu.out;have:=ahH.out;first|omega|exact Nat.le_refl _⟩,⟨yg⟩,⟨yg⟩,⟨dN⟩⟩
         ·simp only[Option.some.injEq,Prod.mk.injEq] at H;obtain⟨rfl,rfl,rfl,rfl,rfl,rfl⟩:=H;exact bn.e1
        ·have H':=ae.mk H;clear H;go_wp2;go_meet
         case rel=>exact⟨_,((⟨#[]⟩:af)),(0),((⟨#[]⟩:af)),((⟨#[]⟩:af)),(false),(80),H',⟨by have:=Bu.out;have:=ahH.out;first|omega|exact Nat.le_refl _⟩,⟨yg⟩,⟨yg⟩,⟨dN⟩⟩
       case rest=>
        clear alc;try clear c16
        try clear Ae
        try clear Ji
        try clear Ey
        try clear L8
        try clear UW
        try clear UU
        try clear H6
        try clear Fs
        obtain⟨kq,MH,MI,MJ,MK,ML,tu,HA,aod,uS,uT,HB⟩:=hcut;cases kq with
        |zero=>exact absurd HA.out (by simp[bn.j2])
        |succ asV=>
         have H:=HA.out;clear HA;simp only[bn.j2] at H;have ald:=ae.mk H;clear H;have an1:=EH.out;have an2:=EG.out;obtain⟨_,_,_,_,_⟩:=mV uT;obtain⟨_,_,_,_,_⟩:=vz uT;go_upto_if 73 with(fail);go_cut [] (fun wc=>∃(kq:Nat) (BB:ByteArray),ae (bn.j3 kq KV tu BB MF MG=some (r1,r2,r3,r4,r5,r6))∧ae (kq≤asV)∧ae (wc.heap[Ci]? = some (.cells #[.string MH,.int .i64 MI,.string MJ,.string MK,.bool ML] 92 (0,0)))∧ae (wc.heap[Oa]? = some (.cells #[.string KV,.int .i64 tu,.string BB,.string MF,.bool MG] 92 (0,0)))∧ae (Below w.heap.size w wc))
         case first=>
          have H:=ald.out;clear ald;replace H:=gI H;rcases H with⟨Zp,-,-,H⟩|⟨Zp,-,-,H⟩
          ·have H7:(Po.toList==([]:List UInt8))=true:=beq_iff_eq.mpr Zp;have aee:Po.toList.isEmpty=true:=List.isEmpty_iff.mpr Zp;have aa8:(Po.toList != ([]:List UInt8))=false:=bne_eq_false_iff_eq.mpr Zp;clear Zp;(first|rw[H7]|rw[aee]|(simp only[iE,jF];rw[H7])|skip)
           have H':=ae.mk H;clear H;have avM:=EH.out;have avN:=EG.out;obtain⟨_,_,_,_,_⟩:=mV uT;obtain⟨_,_,_,_,_⟩:=vz uT;go_wp2;go_meet
           case rel=>exact⟨_,((⟨#[47]⟩:af)),H',⟨by have:=Bu.out;have:=ahH.out;have:=aod.out;first|omega|exact Nat.le_refl _⟩,⟨yg⟩,⟨yg⟩,⟨dN⟩⟩
          ·have H7:(Po.toList==([]:List UInt8))=false:=beq_eq_false_iff_ne.mpr Zp;have aee:Po.toList.isEmpty=false:=Bool.eq_false_iff.mpr (fun h_=>Zp (List.isEmpty_iff.mp h_));have aa8:(Po.toList != ([]:List UInt8))=true:=bne_iff_ne.mpr Zp;(first|rw[H7]|rw[aee]|(simp only[iE,jF];rw[H7])|skip)
           have H':=ae.mk H;clear H;go_wp2;go_meet
           case rel=>exact⟨_,(Po),H',⟨by have:=Bu.out;have:=ahH.out;have:=aod.out;first|omega|exact Nat.le_refl _⟩,⟨yg⟩,⟨yg⟩,⟨dN⟩⟩
         case rest=>
          clear ald;try clear c16
          try clear Ae
          try clear Ji
          try clear Ey
          try clear L8
          try clear UW
          try clear UU
          try clear H6
          try clear Fs
          obtain⟨kq,BB,HA,ayK,uS,uT,HB⟩:=hcut;cases kq with
          |zero=>exact absurd HA.out (by simp[bn.j3])
          |succ ahG=>
           have H:=HA.out;clear HA;simp only[bn.j3] at H;replace H:=gD H;obtain⟨QJ,A50,H⟩:=H;replace H:=gD H;obtain⟨an8,A51,H⟩:=H;replace H:=gB H;rcases H with⟨rfl,H⟩|⟨rfl,H⟩
           ·simp only[Option.some.injEq,Prod.mk.injEq] at H;obtain⟨rfl,rfl,rfl,rfl,rfl,rfl⟩:=H;have avO:=EH.out;have avP:=EG.out;obtain⟨_,_,_,_,_⟩:=mV uT;obtain⟨_,_,_,_,_⟩:=vz uT;go_wp2_with(first|((with_reducible refine ag (f:=152) rfl ?_);refine aG (some 77) rfl rfl Tryz.func152 aK rfl #[.string BB] rfl eu ?_;(with_reducible refine(bF.calls ahG BB QJ _ A50.out).mono ?_);rintro e Aa ⟨rfl,hb⟩;refine⟨_,rfl,?_⟩;replace uS:=iG (g:=Ci) hb;replace uT:=iG (g:=Oa) hb;replace HB:=dS hb;(try clear hb);obtain⟨_,_,_,_,_⟩:=mV uT;obtain⟨_,_,_,_,_⟩:=vz uT)|((with_reducible refine ag (f:=153) rfl ?_);refine aG (some 80) rfl rfl Tryz.func153 aK rfl #[.agg #[.string KV,.int .i64 tu,.string QJ,.string MF,.bool MG]] rfl eu ?_;(with_reducible refine(eG.calls ahG KV tu QJ MF MG true _ A51.out ?hT).mono ?_);(case hT=>exact gJ HT);rintro e zO ⟨rfl,hb⟩;refine⟨_,rfl,?_⟩;replace uS:=iG (g:=Ci) hb;replace uT:=iG (g:=Oa) (o:=.cells #[.string KV,.int .i64 tu,.string QJ,.string MF,.bool MG] 92 (0,0)) hb;replace HB:=dS hb;(try clear hb);obtain⟨_,_,_,_,_⟩:=mV uT;obtain⟨_,_,_,_,_⟩:=vz uT;obtain⟨_,_,_,_,_⟩:=mV uS;obtain⟨_,_,_,_,_⟩:=vz uS));refine VH Ci 92 #[.string KV,.int .i64 tu,.string QJ,.string MF,.bool MG] Tryz.underlying92 ?_;exact⟨nG,dN⟩
           ·simp only[Option.some.injEq,Prod.mk.injEq] at H;obtain⟨rfl,rfl,rfl,rfl,rfl,rfl⟩:=H;have avQ:=EH.out;have avR:=EG.out;obtain⟨_,_,_,_,_⟩:=mV uT;obtain⟨_,_,_,_,_⟩:=vz uT;exact bn.e1
    ·exact absurd H (by simp)


def qg.f (k:Nat) (a0:ByteArray):Option (ByteArray×Bool):=(bn.f k a0).bind fun UX=>(if UX.2.2.2.2.2=true then((iX.f UX.1 UX.2.1 UX.2.2.1 UX.2.2.2.1 UX.2.2.2.2.1).bind fun ale=>(some (ale,true))) else(some ((⟨#[]⟩:af),false)))
theorem qg.e0 {p:Prop} (h:p:=by
  go_enter Tryz.func64,Tryz.ntmps64
  go_wp2_with(first|((with_reducible refine ag (f:=104) rfl ?_);refine aG (some 8) rfl rfl Tryz.func104 aK rfl #[.string a0] rfl eu ?_;(with_reducible refine(bn.calls k a0 aef aeg aeh aei aej false _ A2.out ?hT).mono ?_);(case hT=>exact gJ HT);rintro e Aa ⟨rfl,hb⟩;refine⟨_,rfl,?_⟩;replace HB:=dS hb;(try clear hb);(try clear hb2);(try clear hk);(try clear hi))|((with_reducible refine ag (f:=104) rfl ?_);refine aG (some 8) rfl rfl Tryz.func104 aK rfl #[.string a0] rfl eu ?_;(with_reducible refine(bn.calls k a0 aef aeg aeh aei aej true _ A2.out ?hT).mono ?_);(case hT=>exact gJ HT);rintro e jm ⟨rfl,hb⟩;refine⟨_,rfl,?_⟩;replace HB:=dS hb;(try clear hb);(try clear hb2);(try clear hk);(try clear hi))|((with_reducible refine aY (N:=4) rfl ?_);refine jX #[.string (⟨#[]⟩:af),.int .i64 0,.string (⟨#[]⟩:af),.string (⟨#[]⟩:af),.bool false] 92 ?_;intro aoe hg ku hbox hb;have aek:=ae.mk (hbox);have avS:=jL hg;have avT:=jL hg;replace HB:=dS hb;clear hb hbox hg;obtain⟨_,_,_,_,_⟩:=mV aek;obtain⟨_,_,_,_,_⟩:=vz aek)|((with_reducible refine ag (f:=105) rfl ?_);refine aG (some 14) rfl rfl Tryz.func105 aK rfl #[.agg #[.string aef,.int .i64 aeg,.string aeh,.string aei,.bool aej]] rfl eu ?_;(with_reducible refine(iX.calls aef aeg aeh aei aej ale _ A4.out ?hT).mono ?_);(case hT=>exact gJ HT);rintro e pU ⟨rfl,hb⟩;refine⟨_,rfl,?_⟩;replace aek:=iG (g:=aoe) (o:=.cells #[.string aef,.int .i64 aeg,.string aeh,.string aei,.bool aej] 92 (0,0)) hb;replace HB:=dS hb;(try clear hb);(try clear hb2);(try clear hk);(try clear hi)))
  go_ret2
  exact⟨nG,dN⟩):p:=h
theorem qg.calls (k:Nat) (a0 r1:ByteArray) (r2:Bool) (w:World) (h:qg.f k a0=some (r1,r2)) (HT0:pY w) :
  Calls Tryz.prog 64 #[.string a0] w fun e w'=>e = .returned (.tuple #[.string r1,.bool r2])∧Below w.heap.size w w':=by
 have HT:=ae.mk HT0;clear HT0;have Pp:=Tryz.underlying92;have HB:=ae.mk (Below.refl w.heap.size w);have H:=h;clear h;unfold qg.f at H;replace H:=gD H;obtain⟨⟨aef,aeg,aeh,aei,aej,ayL⟩,A2,H⟩:=H;dsimp only at H;replace H:=gB H;rcases H with⟨rfl,H⟩|⟨rfl,H⟩
 ·replace H:=gD H;obtain⟨ale,A4,H⟩:=H;simp only[Option.some.injEq,Prod.mk.injEq] at H;obtain⟨rfl,rfl⟩:=H;exact qg.e0
 ·simp only[Option.some.injEq,Prod.mk.injEq] at H;obtain⟨rfl,rfl⟩:=H;exact qg.e0

def jJ.f (k:Nat) (a0:ByteArray):Option (Bool):=(qg.f k a0).bind fun ai2=>(if ai2.2=true then(some (ai2.1.toList==a0.toList)) else(some false))
theorem jJ.e0 {p:Prop} (h:p:=by
  obtain rfl:=cu H
  go_enter Tryz.func36,Tryz.ntmps36
  go_wp2_with(first|((with_reducible refine ag (f:=64) rfl ?_);refine aG (some 7) rfl rfl Tryz.func64 aK rfl #[.string a0] rfl eu ?_;(with_reducible refine(qg.calls k a0 aof false _ A2.out ?hT).mono ?_);(case hT=>exact gJ HT);rintro e ku ⟨rfl,hb⟩;refine⟨_,rfl,?_⟩;replace HB:=dS hb;(try clear hb);(try clear hb2);(try clear hk);(try clear hi))|((with_reducible refine ag (f:=64) rfl ?_);refine aG (some 7) rfl rfl Tryz.func64 aK rfl #[.string a0] rfl eu ?_;(with_reducible refine(qg.calls k a0 aof true _ A2.out ?hT).mono ?_);(case hT=>exact gJ HT);rintro e jm ⟨rfl,hb⟩;refine⟨_,rfl,?_⟩;replace HB:=dS hb;(try clear hb);(try clear hb2);(try clear hk);(try clear hi)))
  go_ret
  exact⟨nG,dN⟩):p:=h
theorem jJ.calls (k:Nat) (a0:ByteArray) (r:Bool) (w:World) (h:jJ.f k a0=some r) (HT0:pY w) :
  Calls Tryz.prog 36 #[.string a0] w fun e w'=>e = .returned (.bool r)∧Below w.heap.size w w':=by
 have HT:=ae.mk HT0;clear HT0;have HB:=ae.mk (Below.refl w.heap.size w);have H:=h;clear h;unfold jJ.f at H;replace H:=gD H;obtain⟨⟨aof,ayM⟩,A2,H⟩:=H;dsimp only at H;replace H:=gB H;rcases H with⟨rfl,H⟩|⟨rfl,H⟩
 ·exact jJ.e0
 ·exact jJ.e0


mutual
def iL.j0 : Nat→ByteArray→Bool→Option (Int×Bool)
 |0,_,_=>none
 |k+1,x0,x12=>if x12=true then(some (0,false)) else(iL.l0 k x0 0 0)
def iL.l0 : Nat→ByteArray→Int→Int→Option (Int×Bool)
 |0,_,_,_=>none
 |k+1,x0,x4,x5=>if x5<(x0.size:Int) then(if 0≤x5 then(iL.l0 k x0 (mn 2147483648 (wrap64 ((wrap64 (10*x4))+(((bt x0 x5)-48)%256)))) (wrap64 (x5+1))) else(none)) else(some (x4,true))
end
def iL.f (k:Nat) (a0:ByteArray):Option (Int×Bool):=if a0.toList=([]:List UInt8) then(iL.j0 k a0 true) else((eH.f k a0).bind fun aa9=>(iL.j0 k a0 (!aa9)))
theorem iL.calls (k:Nat) (a0:ByteArray) (r1:Int) (r2:Bool) (w:World) (h:iL.f k a0=some (r1,r2)) :
  Calls Tryz.prog 121 #[.string a0] w fun e w'=>e = .returned (.tuple #[.int .i64 r1,.bool r2])∧Below w.heap.size w w':=by
 have HB:=ae.mk (Below.refl w.heap.size w);have H:=h;clear h;unfold iL.f at H;have xZ:=ae.mk H;clear H;go_enter Tryz.func121,Tryz.ntmps121;go_upto_region 1 with(fail);go_cut [12] (fun v12 wc=>∃(kq:Nat) (R9:Bool),v12 = .bool R9∧ae (iL.j0 kq a0 R9=some (r1,r2))∧ae (kq≤k)∧ae (Below w.heap.size w wc))
 case first=>
  have H:=xZ.out;clear xZ;replace H:=gI H;rcases H with⟨c3,-,-,H⟩|⟨c3,-,-,H⟩
  ·have gM:(a0.toList==([]:List UInt8))=true:=beq_iff_eq.mpr c3;have ZO:a0.toList.isEmpty=true:=List.isEmpty_iff.mpr c3;have uX:(a0.toList != ([]:List UInt8))=false:=bne_eq_false_iff_eq.mpr c3;clear c3;(first|rw[gM]|rw[ZO]|(simp only[iE,jF];rw[gM])|skip)
   have H':=ae.mk H;clear H;go_wp2;go_meet
   case rel=>exact⟨_,(true),fI,H',⟨EC⟩,⟨dN⟩⟩
  ·have gM:(a0.toList==([]:List UInt8))=false:=beq_eq_false_iff_ne.mpr c3;have ZO:a0.toList.isEmpty=false:=Bool.eq_false_iff.mpr (fun h_=>c3 (List.isEmpty_iff.mp h_));have uX:(a0.toList != ([]:List UInt8))=true:=bne_iff_ne.mpr c3;(first|rw[gM]|rw[ZO]|(simp only[iE,jF];rw[gM])|skip)
   replace H:=gD H;obtain⟨aa9,A4,H⟩:=H;have H':=ae.mk H;clear H;go_wp2_with((go_at_call 107;(with_reducible refine(eH.calls k a0  aa9 _ A4.out).mono ?_);rintro e w' ⟨rfl,⟨nd,rfl⟩⟩));go_meet
   case rel=>exact⟨_,(!aa9),fI,H',⟨EC⟩,⟨dN⟩⟩
 case rest=>
  clear xZ;obtain⟨kq,R9,rfl,HA,Bu,HB⟩:=hcut;cases kq with
  |zero=>exact absurd HA.out (by simp[iL.j0])
  |succ uY=>
   have H:=HA.out;clear HA;simp only[iL.j0] at H;replace H:=gB H;rcases H with⟨rfl,H⟩|⟨rfl,H⟩
   ·simp only[Option.some.injEq,Prod.mk.injEq] at H;obtain⟨rfl,rfl⟩:=H;go_wp2;go_ret2;exact⟨nG,dN⟩
   ·have H':=ae.mk H;clear H;go_wp2;go_loopg [4,5] uY (fun kq v4 v5 w'=>∃(kv:Int) (kV:Int),v4 = .int .i64 kv∧v5 = .int .i64 kV∧ae (iL.l0 kq a0 kv kV=some (r1,r2))∧ae (kq≤uY)∧ae (Below w.heap.size w w'))
    case atStart=>exact⟨(0),(0),fI,fI,H',⟨Nat.le_refl _⟩,⟨dN⟩⟩
    case round=>
     clear H';obtain⟨kv,kV,rfl,rfl,HA,Eo,HB⟩:=hrel;cases gk with
     |zero=>exact absurd HA.out (by simp[iL.l0])
     |succ k2=>
      have H:=HA.out;clear HA;simp only[iL.l0] at H;replace H:=gI H;rcases H with⟨-,nW,-,H⟩|⟨-,nW,-,H⟩
      ·replace H:=gN H;obtain⟨-,uR,-,H⟩:=H;obtain⟨ji9,Un⟩:∃ j_:Int,(mn 2147483648 (wrap64 ((wrap64 (10*kv))+(((bt a0 kV)-48)%256))))=j_:=⟨_,rfl⟩;(first|rw[Un] at H|simp only[Un] at H ⊢)
       have avU:(if(wrap64 ((wrap64 (10*kv))+(((bt a0 kV)-48)%256)))<2147483648 then(wrap64 ((wrap64 (10*kv))+(((bt a0 kV)-48)%256))) else 2147483648)=ji9:=Un;have H':=ae.mk H;clear H;have p8:0≤(kV:Int):=bE gL;have q8:kV<(a0.size:Int):=bE gL;have hx8:=gV a0 kV;replace p8:=eq_true p8;replace q8:=eq_true q8;go_wp2;go_roundg k2
       case measure=>have:=Bu.out;have:=Eo.out;omega
       case rel=>exact⟨(ji9),(wrap64 (kV+1)),(by first|rfl|(simp;done)|(simp only[← Un] <;> (first|rfl|simp))|(simp[*];done)),fI,H',⟨QE⟩,⟨dN⟩⟩
      ·simp only[Option.some.injEq,Prod.mk.injEq] at H;obtain⟨rfl,rfl⟩:=H;go_wp2;go_ret2;exact⟨nG,dN⟩

def pX.f (k:Nat) (a0:ByteArray) (a1:Int):Option (Int):=(iL.f k a0).bind fun ael=>(if ael.2=true then(some ael.1) else(some a1))
theorem pX.e0 {p:Prop} (h:p:=by
  obtain rfl:=cu H
  go_enter Tryz.func79,Tryz.ntmps79
  go_wp2_with(first|((with_reducible refine ag (f:=121) rfl ?_);refine aG (some 9) rfl rfl Tryz.func121 aK rfl #[.string a0] rfl eu ?_;(with_reducible refine(iL.calls k a0 ai3 false _ A3.out).mono ?_);rintro e ku ⟨rfl,hb⟩;refine⟨_,rfl,?_⟩;replace HB:=dS hb;(try clear hb);(try clear hb2);(try clear hk);(try clear hi))|((with_reducible refine ag (f:=121) rfl ?_);refine aG (some 9) rfl rfl Tryz.func121 aK rfl #[.string a0] rfl eu ?_;(with_reducible refine(iL.calls k a0 ai3 true _ A3.out).mono ?_);rintro e jm ⟨rfl,hb⟩;refine⟨_,rfl,?_⟩;replace HB:=dS hb;(try clear hb);(try clear hb2);(try clear hk);(try clear hi)))
  go_ret
  exact⟨nG,dN⟩):p:=h
theorem pX.calls (k:Nat) (a0:ByteArray) (a1 r:Int) (w:World) (h:pX.f k a0 a1=some r) :
  Calls Tryz.prog 79 #[.string a0,.int .i64 a1] w fun e w'=>e = .returned (.int .i64 r)∧Below w.heap.size w w':=by
 have HB:=ae.mk (Below.refl w.heap.size w);have H:=h;clear h;unfold pX.f at H;replace H:=gD H;obtain⟨⟨ai3,avV⟩,A3,H⟩:=H;dsimp only at H;replace H:=gB H;rcases H with⟨rfl,H⟩|⟨rfl,H⟩
 ·exact pX.e0
 ·exact pX.e0



def iq.f (k:Nat) (aA:ByteArray) (aC:Int) (aI:Int) (dh:List (nV)) (aU:ByteArray) (bZ:ByteArray) (bK:Int) (eB:ByteArray) (dZ:Bool) (cz:List (nV)) (bR:ByteArray):Option (Bool):=(jJ.f k aA).bind fun aog=>(if aog=true then((iy.f aC).bind fun aoh=>(if aoh=true then((iy.f aI).bind fun aoi=>(if aoi=true then(if aC≤aI then((eX.f k dh).bind fun aoj=>(if aoj=true then((bI.f k aU bZ bK eB dZ cz bR).bind fun aok=>(if aok=true then(if aU.toList=([]:List UInt8) then(some (!dZ)) else(some false)) else(some false))) else(some false))) else(some false)) else(some false))) else(some false))) else(some false))
theorem iq.e0 {p:Prop} (h:p:=by
  obtain rfl:=cu H
  go_enter Tryz.func13,Tryz.ntmps13
  go_wp2_with(first|((with_reducible refine aY (N:=1) rfl ?_);refine jX #[.string aA,.int .i64 aC,.int .i64 aI,.slice ji dh.length jk,.string aU,.string bZ,.int .i64 bK,.string eB,.bool dZ,.slice iZ cz.length ja,.string bR] 33 ?_;intro UY hg jm hbox hb;have H8:=ae.mk (hbox);have avW:=jL hg;have avX:=jL hg;replace HB:=dS hb;clear hb hbox hg;obtain⟨_,_,_,_,_,_,_,_,_,_,_⟩:=jo H8;obtain⟨_,_,_,_,_,_,_,_,_,_,_⟩:=kz H8)|((with_reducible refine ag (f:=36) rfl ?_);refine aG (some 5) rfl rfl Tryz.func36 aK rfl #[.string aA] rfl eu ?_;(with_reducible refine(jJ.calls k aA false _ A2.out ?hT).mono ?_);(case hT=>exact gJ HT);rintro e Jv ⟨rfl,hb⟩;refine⟨_,rfl,?_⟩;replace H8:=iG (g:=UY) hb;replace HB:=dS hb;(try clear hb);(try clear hb2);(try clear hk);(try clear hi))|((with_reducible refine ag (f:=36) rfl ?_);refine aG (some 5) rfl rfl Tryz.func36 aK rfl #[.string aA] rfl eu ?_;(with_reducible refine(jJ.calls k aA true _ A2.out ?hT).mono ?_);(case hT=>exact gJ HT);rintro e ku ⟨rfl,hb⟩;refine⟨_,rfl,?_⟩;replace H8:=iG (g:=UY) hb;replace HB:=dS hb;(try clear hb);(try clear hb2);(try clear hk);(try clear hi);obtain⟨_,_,_,_,_,_,_,_,_,_,_⟩:=jo H8;obtain⟨_,_,_,_,_,_,_,_,_,_,_⟩:=kz H8)|(go_at_call 37;(with_reducible refine(iy.calls aC false _ A4.out).mono ?_);rintro e w' ⟨rfl,⟨nd,rfl⟩⟩)|(go_at_call 37;(with_reducible refine(iy.calls aC true _ A4.out).mono ?_);rintro e w' ⟨rfl,⟨nd,rfl⟩⟩)|(go_at_call 37;(with_reducible refine(iy.calls aI false _ A6.out).mono ?_);rintro e w' ⟨rfl,⟨nd,rfl⟩⟩)|(go_at_call 37;(with_reducible refine(iy.calls aI true _ A6.out).mono ?_);rintro e w' ⟨rfl,⟨nd,rfl⟩⟩)|(go_at_call 38;(with_reducible refine(eX.calls k _ _ dh false _ ?bM ?bN A9.out).mono ?_);(case bM=>repeat(first|exact(Kd.bO lZ.out dN)|(with_reducible refine Kd.aZ ?_ _)|(with_reducible refine Kd.bf ?_ _)|(with_reducible refine Kd.bP ?_)));(case bN=>exact l5.out);rintro e Fq ⟨rfl,hb⟩;replace H8:=iG (g:=UY) hb;replace HB:=dS hb;(try clear hb);(try clear hb2);(try clear hk);(try clear hi))|(go_at_call 38;(with_reducible refine(eX.calls k _ _ dh true _ ?bM ?bN A9.out).mono ?_);(case bM=>repeat(first|exact(Kd.bO lZ.out dN)|(with_reducible refine Kd.aZ ?_ _)|(with_reducible refine Kd.bf ?_ _)|(with_reducible refine Kd.bP ?_)));(case bN=>exact l5.out);rintro e pU ⟨rfl,hb⟩;replace H8:=iG (g:=UY) hb;replace HB:=dS hb;(try clear hb);(try clear hb2);(try clear hk);(try clear hi);obtain⟨_,_,_,_,_,_,_,_,_,_,_⟩:=jo H8;obtain⟨_,_,_,_,_,_,_,_,_,_,_⟩:=kz H8)|(go_at_call 39;(with_reducible refine(bI.calls k aU bZ bK eB dZ _ _ cz bR false _ ?bM ?bN UG.out ?hT).mono ?_);(case hT=>exact gJ HT);(case bM=>repeat(first|exact(Kd.bO kQ.out HB.out)|(with_reducible refine Kd.aZ ?_ _)|(with_reducible refine Kd.bf ?_ _)|(with_reducible refine Kd.bP ?_)));(case bN=>exact kR.out);rintro e zO ⟨rfl,hb⟩;replace H8:=iG (g:=UY) hb;replace HB:=dS hb;(try clear hb);(try clear hb2);(try clear hk);(try clear hi))|(go_at_call 39;(with_reducible refine(bI.calls k aU bZ bK eB dZ _ _ cz bR true _ ?bM ?bN UG.out ?hT).mono ?_);(case hT=>exact gJ HT);(case bM=>repeat(first|exact(Kd.bO kQ.out HB.out)|(with_reducible refine Kd.aZ ?_ _)|(with_reducible refine Kd.bf ?_ _)|(with_reducible refine Kd.bP ?_)));(case bN=>exact kR.out);rintro e Aa ⟨rfl,hb⟩;replace H8:=iG (g:=UY) hb;replace HB:=dS hb;(try clear hb);(try clear hb2);(try clear hk);(try clear hi);obtain⟨_,_,_,_,_,_,_,_,_,_,_⟩:=jo H8;obtain⟨_,_,_,_,_,_,_,_,_,_,_⟩:=kz H8))
  go_ret
  exact⟨nG,dN⟩):p:=h
theorem iq.calls (k:Nat) (aA:ByteArray) (aC aI:Int) (ji:Option Addr) (jk:Nat) (dh:List (nV)) (aU bZ:ByteArray) (bK:Int) (eB:ByteArray) (dZ:Bool) (iZ:Option Addr) (ja:Nat) (cz:List (nV)) (bR:ByteArray) (r:Bool) (w:World) (oI:Kd.C Ct w ji dh.length dh) (oJ:dh.length≤jk) (oK:Kd.C Ct w iZ cz.length cz) (oL:cz.length≤ja) (h:iq.f k aA aC aI dh aU bZ bK eB dZ cz bR=some r) (HT0:pY w) :
  Calls Tryz.prog 13 #[.agg #[.string aA,.int .i64 aC,.int .i64 aI,.slice ji dh.length jk,.string aU,.string bZ,.int .i64 bK,.string eB,.bool dZ,.slice iZ cz.length ja,.string bR]] w fun e w'=>e = .returned (.bool r)∧Below w.heap.size w w':=by
 have HT:=ae.mk HT0;clear HT0;have NM:=Tryz.underlying33;have Uh:=Tryz.underlying31;have lZ:=ae.mk oI;have l5:=ae.mk oJ;clear oI oJ;have kQ:=ae.mk oK;have kR:=ae.mk oL;clear oK oL;have HB:=ae.mk (Below.refl w.heap.size w);have H:=h;clear h;unfold iq.f at H;replace H:=gD H;obtain⟨aog,A2,H⟩:=H;replace H:=gB H;rcases H with⟨rfl,H⟩|⟨rfl,H⟩
 ·replace H:=gD H;obtain⟨aoh,A4,H⟩:=H;replace H:=gB H;rcases H with⟨rfl,H⟩|⟨rfl,H⟩
  ·replace H:=gD H;obtain⟨aoi,A6,H⟩:=H;replace H:=gB H;rcases H with⟨rfl,H⟩|⟨rfl,H⟩
   ·replace H:=gI H;rcases H with⟨-,tO,-,H⟩|⟨-,tO,-,H⟩
    ·replace H:=gD H;obtain⟨aoj,A9,H⟩:=H;replace H:=gB H;rcases H with⟨rfl,H⟩|⟨rfl,H⟩
     ·replace H:=gD H;obtain⟨aok,UG,H⟩:=H;replace H:=gB H;rcases H with⟨rfl,H⟩|⟨rfl,H⟩
      ·replace H:=gI H;rcases H with⟨c13,-,-,H⟩|⟨c13,-,-,H⟩
       ·obtain⟨zP,H9⟩:=rD c13;clear c13;exact iq.e0
       ·obtain⟨zP,H9⟩:=rO c13;exact iq.e0
      ·exact iq.e0
     ·exact iq.e0
    ·exact iq.e0
   ·exact iq.e0
  ·exact iq.e0
 ·exact iq.e0


def rH.f (k:Nat) (l0:List (nV)) (a1:ByteArray):Option (Int×Bool):=(xz.f k l0 a1).bind fun alf=>((av.f k alf.1).bind fun aem=>(some (aem.1,aem.2)))
theorem rH.calls (k:Nat) (A0:Option Addr) (c0:Nat) (l0:List (nV)) (a1:ByteArray) (r1:Int) (r2:Bool) (w:World) (hr0:Kd.C Ct w A0 l0.length l0) (hc0:l0.length≤c0) (h:rH.f k l0 a1=some (r1,r2)) (HT0:pY w) :
  Calls Tryz.prog 52 #[.slice A0 l0.length c0,.string a1] w fun e w'=>e = .returned (.tuple #[.int .i64 r1,.bool r2])∧Below w.heap.size w w':=by
 have HT:=ae.mk HT0;clear HT0;have Gx:=ae.mk hr0;have O7:=ae.mk hc0;clear hr0 hc0;have HB:=ae.mk (Below.refl w.heap.size w);have H:=h;clear h;unfold rH.f at H;replace H:=gD H;obtain⟨⟨aen,aol⟩,A3,H⟩:=H;dsimp only at H;replace H:=gD H;obtain⟨⟨aom,aon⟩,A4,H⟩:=H;dsimp only at H;simp only[Option.some.injEq,Prod.mk.injEq] at H;obtain⟨rfl,rfl⟩:=H;go_enter Tryz.func52,Tryz.ntmps52;go_wp2_with(first|((with_reducible refine ag (f:=78) rfl ?_);refine aG (some 11) rfl rfl Tryz.func78 aK rfl #[.slice A0 l0.length c0,.string a1] rfl eu ?_;(with_reducible refine(xz.calls k _ _ l0 a1 aen aol _ ?bM ?bN A3.out).mono ?_);(case bM=>repeat(first|exact Gx.out|(with_reducible refine Kd.aZ ?_ _)|(with_reducible refine Kd.bf ?_ _)|(with_reducible refine Kd.bP ?_)));(case bN=>exact O7.out);rintro e w5 ⟨rfl,hb⟩;refine⟨_,rfl,?_⟩;replace HB:=dS hb;(try clear hb))|((with_reducible refine ag (f:=91) rfl ?_);refine aG (some 15) rfl rfl Tryz.func91 aK rfl #[.string aen] rfl eu ?_;(with_reducible refine(av.calls k aen aom aon _ A4.out ?hT).mono ?_);(case hT=>exact gJ HT);rintro e w6 ⟨rfl,hb⟩;refine⟨_,rfl,?_⟩;replace HB:=dS hb;(try clear hb)));go_ret2;exact⟨nG,dN⟩

def jN.f (k:Nat) (aA:ByteArray) (aC:Int) (aI:Int) (dh:List (nV)) (aU:ByteArray) (bZ:ByteArray) (bK:Int) (eB:ByteArray) (dZ:Bool) (cz:List (nV)) (bR:ByteArray):Option (Int):=(rH.f k cz (⟨#[100,97,116,101]⟩:af)).bind fun aeo=>(if aeo.2=true then(some aeo.1) else(some aI))
theorem jN.e0 {p:Prop} (h:p:=by
  obtain rfl:=cu H
  go_enter Tryz.func43,Tryz.ntmps43
  go_wp2_with(first|((with_reducible refine aY (N:=1) rfl ?_);refine jX #[.string aA,.int .i64 aC,.int .i64 aI,.slice ji dh.length jk,.string aU,.string bZ,.int .i64 bK,.string eB,.bool dZ,.slice iZ cz.length ja,.string bR] 33 ?_;intro aep hg jm hbox hb;have Pq:=ae.mk (hbox);have asW:=jL hg;have asX:=jL hg;replace HB:=dS hb;clear hb hbox hg;obtain⟨_,_,_,_,_,_,_,_,_,_,_⟩:=jo Pq;obtain⟨_,_,_,_,_,_,_,_,_,_,_⟩:=kz Pq)|((with_reducible refine ag (f:=52) rfl ?_);refine aG (some 9) rfl rfl Tryz.func52 aK rfl #[.slice iZ cz.length ja,.string (⟨#[100,97,116,101]⟩:af)] rfl eu ?_;(with_reducible refine(rH.calls k _ _ cz (⟨#[100,97,116,101]⟩:af) ai4 false _ ?bM ?bN A2.out ?hT).mono ?_);(case hT=>exact gJ HT);(case bM=>repeat(first|exact(Kd.bO kQ.out HB.out)|(with_reducible refine Kd.aZ ?_ _)|(with_reducible refine Kd.bf ?_ _)|(with_reducible refine Kd.bP ?_)));(case bN=>exact kR.out);rintro e pU ⟨rfl,hb⟩;refine⟨_,rfl,?_⟩;replace Pq:=iG (g:=aep) hb;replace HB:=dS hb;(try clear hb);(try clear hb2);(try clear hk);(try clear hi);obtain⟨_,_,_,_,_,_,_,_,_,_,_⟩:=jo Pq;obtain⟨_,_,_,_,_,_,_,_,_,_,_⟩:=kz Pq)|((with_reducible refine ag (f:=52) rfl ?_);refine aG (some 9) rfl rfl Tryz.func52 aK rfl #[.slice iZ cz.length ja,.string (⟨#[100,97,116,101]⟩:af)] rfl eu ?_;(with_reducible refine(rH.calls k _ _ cz (⟨#[100,97,116,101]⟩:af) ai4 true _ ?bM ?bN A2.out ?hT).mono ?_);(case hT=>exact gJ HT);(case bM=>repeat(first|exact(Kd.bO kQ.out HB.out)|(with_reducible refine Kd.aZ ?_ _)|(with_reducible refine Kd.bf ?_ _)|(with_reducible refine Kd.bP ?_)));(case bN=>exact kR.out);rintro e ku ⟨rfl,hb⟩;refine⟨_,rfl,?_⟩;replace Pq:=iG (g:=aep) hb;replace HB:=dS hb;(try clear hb);(try clear hb2);(try clear hk);(try clear hi)))
  go_ret
  exact⟨nG,dN⟩):p:=h
theorem jN.calls (k:Nat) (aA:ByteArray) (aC aI:Int) (ji:Option Addr) (jk:Nat) (dh:List (nV)) (aU bZ:ByteArray) (bK:Int) (eB:ByteArray) (dZ:Bool) (iZ:Option Addr) (ja:Nat) (cz:List (nV)) (bR:ByteArray) (r:Int) (w:World) (oI:Kd.C Ct w ji dh.length dh) (oJ:dh.length≤jk) (oK:Kd.C Ct w iZ cz.length cz) (oL:cz.length≤ja) (h:jN.f k aA aC aI dh aU bZ bK eB dZ cz bR=some r) (HT0:pY w) :
  Calls Tryz.prog 43 #[.agg #[.string aA,.int .i64 aC,.int .i64 aI,.slice ji dh.length jk,.string aU,.string bZ,.int .i64 bK,.string eB,.bool dZ,.slice iZ cz.length ja,.string bR]] w fun e w'=>e = .returned (.int .i64 r)∧Below w.heap.size w w':=by
 have HT:=ae.mk HT0;clear HT0;have NM:=Tryz.underlying33;have lZ:=ae.mk oI;have l5:=ae.mk oJ;clear oI oJ;have kQ:=ae.mk oK;have kR:=ae.mk oL;clear oK oL;have HB:=ae.mk (Below.refl w.heap.size w);have H:=h;clear h;unfold jN.f at H;replace H:=gD H;obtain⟨⟨ai4,avY⟩,A2,H⟩:=H;dsimp only at H;replace H:=gB H;rcases H with⟨rfl,H⟩|⟨rfl,H⟩
 ·exact jN.e0
 ·exact jN.e0

def uu.f (k:Nat) (aA:ByteArray) (aC:Int) (aI:Int) (dh:List (nV)) (aU:ByteArray) (bZ:ByteArray) (bK:Int) (eB:ByteArray) (dZ:Bool) (cz:List (nV)) (bR:ByteArray):Option (Int):=(iq.f k aA aC aI dh aU bZ bK eB dZ cz bR).bind fun ai5=>(if ai5=true then((jN.f k aA aC aI dh aU bZ bK eB dZ cz bR).bind fun aeq=>(some aeq)) else(some (-1)))
theorem uu.e0 {p:Prop} (h:p:=by
  obtain rfl:=cu H
  go_enter Tryz.func16,Tryz.ntmps16
  go_wp2_with(first|((with_reducible refine aY (N:=1) rfl ?_);refine jX #[.string aA,.int .i64 aC,.int .i64 aI,.slice ji dh.length jk,.string aU,.string bZ,.int .i64 bK,.string eB,.bool dZ,.slice iZ cz.length ja,.string bR] 33 ?_;intro ZP hg jm hbox hb;have MM:=ae.mk (hbox);have asY:=jL hg;have asZ:=jL hg;replace HB:=dS hb;clear hb hbox hg;obtain⟨_,_,_,_,_,_,_,_,_,_,_⟩:=jo MM;obtain⟨_,_,_,_,_,_,_,_,_,_,_⟩:=kz MM)|((with_reducible refine ag (f:=13) rfl ?_);refine aG (some 4) rfl rfl Tryz.func13 aK rfl #[.agg #[.string aA,.int .i64 aC,.int .i64 aI,.slice ji dh.length jk,.string aU,.string bZ,.int .i64 bK,.string eB,.bool dZ,.slice iZ cz.length ja,.string bR]] rfl eu ?_;(with_reducible refine(iq.calls k aA aC aI _ _ dh aU bZ bK eB dZ _ _ cz bR false _ ?bM ?bN ?ib ?ic A2.out ?hT).mono ?_);(case hT=>exact gJ HT);(case bM=>repeat(first|exact(Kd.bO lZ.out HB.out)|(with_reducible refine Kd.aZ ?_ _)|(with_reducible refine Kd.bf ?_ _)|(with_reducible refine Kd.bP ?_)));(case bN=>exact l5.out);(case ib=>repeat(first|exact(Kd.bO kQ.out HB.out)|(with_reducible refine Kd.aZ ?_ _)|(with_reducible refine Kd.bf ?_ _)|(with_reducible refine Kd.bP ?_)));(case ic=>exact kR.out);rintro e Aa ⟨rfl,hb⟩;refine⟨_,rfl,?_⟩;replace MM:=iG (g:=ZP) hb;replace HB:=dS hb;(try clear hb);(try clear hb2);(try clear hk);(try clear hi))|((with_reducible refine ag (f:=13) rfl ?_);refine aG (some 4) rfl rfl Tryz.func13 aK rfl #[.agg #[.string aA,.int .i64 aC,.int .i64 aI,.slice ji dh.length jk,.string aU,.string bZ,.int .i64 bK,.string eB,.bool dZ,.slice iZ cz.length ja,.string bR]] rfl eu ?_;(with_reducible refine(iq.calls k aA aC aI _ _ dh aU bZ bK eB dZ _ _ cz bR true _ ?bM ?bN ?ib ?ic A2.out ?hT).mono ?_);(case hT=>exact gJ HT);(case bM=>repeat(first|exact(Kd.bO lZ.out HB.out)|(with_reducible refine Kd.aZ ?_ _)|(with_reducible refine Kd.bf ?_ _)|(with_reducible refine Kd.bP ?_)));(case bN=>exact l5.out);(case ib=>repeat(first|exact(Kd.bO kQ.out HB.out)|(with_reducible refine Kd.aZ ?_ _)|(with_reducible refine Kd.bf ?_ _)|(with_reducible refine Kd.bP ?_)));(case ic=>exact kR.out);rintro e ku ⟨rfl,hb⟩;refine⟨_,rfl,?_⟩;replace MM:=iG (g:=ZP) hb;replace HB:=dS hb;(try clear hb);(try clear hb2);(try clear hk);(try clear hi);obtain⟨_,_,_,_,_,_,_,_,_,_,_⟩:=jo MM;obtain⟨_,_,_,_,_,_,_,_,_,_,_⟩:=kz MM)|((with_reducible refine ag (f:=43) rfl ?_);refine aG (some 7) rfl rfl Tryz.func43 aK rfl #[.agg #[.string aA,.int .i64 aC,.int .i64 aI,.slice ji dh.length jk,.string aU,.string bZ,.int .i64 bK,.string eB,.bool dZ,.slice iZ cz.length ja,.string bR]] rfl eu ?_;(with_reducible refine(jN.calls k aA aC aI _ _ dh aU bZ bK eB dZ _ _ cz bR aeq _ ?bM ?bN ?ib ?ic A4.out ?hT).mono ?_);(case hT=>exact gJ HT);(case bM=>repeat(first|exact(Kd.bO lZ.out HB.out)|(with_reducible refine Kd.aZ ?_ _)|(with_reducible refine Kd.bf ?_ _)|(with_reducible refine Kd.bP ?_)));(case bN=>exact l5.out);(case ib=>repeat(first|exact(Kd.bO kQ.out HB.out)|(with_reducible refine Kd.aZ ?_ _)|(with_reducible refine Kd.bf ?_ _)|(with_reducible refine Kd.bP ?_)));(case ic=>exact kR.out);rintro e pU ⟨rfl,hb⟩;refine⟨_,rfl,?_⟩;replace MM:=iG (g:=ZP) hb;replace HB:=dS hb;(try clear hb);(try clear hb2);(try clear hk);(try clear hi)))
  go_ret
  exact⟨nG,dN⟩):p:=h
theorem uu.calls (k:Nat) (aA:ByteArray) (aC aI:Int) (ji:Option Addr) (jk:Nat) (dh:List (nV)) (aU bZ:ByteArray) (bK:Int) (eB:ByteArray) (dZ:Bool) (iZ:Option Addr) (ja:Nat) (cz:List (nV)) (bR:ByteArray) (r:Int) (w:World) (oI:Kd.C Ct w ji dh.length dh) (oJ:dh.length≤jk) (oK:Kd.C Ct w iZ cz.length cz) (oL:cz.length≤ja) (h:uu.f k aA aC aI dh aU bZ bK eB dZ cz bR=some r) (HT0:pY w) :
  Calls Tryz.prog 16 #[.agg #[.string aA,.int .i64 aC,.int .i64 aI,.slice ji dh.length jk,.string aU,.string bZ,.int .i64 bK,.string eB,.bool dZ,.slice iZ cz.length ja,.string bR]] w fun e w'=>e = .returned (.int .i64 r)∧Below w.heap.size w w':=by
 have HT:=ae.mk HT0;clear HT0;have NM:=Tryz.underlying33;have lZ:=ae.mk oI;have l5:=ae.mk oJ;clear oI oJ;have kQ:=ae.mk oK;have kR:=ae.mk oL;clear oK oL;have HB:=ae.mk (Below.refl w.heap.size w);have H:=h;clear h;unfold uu.f at H;replace H:=gD H;obtain⟨ai5,A2,H⟩:=H;replace H:=gB H;rcases H with⟨rfl,H⟩|⟨rfl,H⟩
 ·replace H:=gD H;obtain⟨aeq,A4,H⟩:=H;exact uu.e0
 ·exact uu.e0


def fF.f (k:Nat) (aA:ByteArray) (aC:Int) (aI:Int) (dh:List (nV)) (aU:ByteArray) (bZ:ByteArray) (bK:Int) (eB:ByteArray) (dZ:Bool) (cz:List (nV)) (bR:ByteArray):Option (Int):=(xz.f k cz (⟨#[97,103,101]⟩:af)).bind fun alg=>((jN.f k aA aC aI dh aU bZ bK eB dZ cz bR).bind fun UZ=>((pX.f k alg.1 0).bind fun U0=>(some (mx (mx (wrap64 (aI-UZ)) 0) (wrap64 ((wrap64 (U0+aI))-aC))))))
def fF.T2 : Bool×List (List Nat×List Nat):=(true,[([],[]),([0],[0]),([],[]),([2],[2]),([1,3],[1,3]),([],[]),([5,3],[5]),([],[]),([7],[7]),([6,8],[6,8]),([],[]),([10],[10]),([9,11],[9,11]),([4,12],[4,12]),([13,6,0,1,2,3,4,5,6,7,8,9,10,11,12,13],[13])])
def fF.B2 : List Nat:=[0,1,0,4,15,0,44,0,128,492,0,1024,4076,8191,16383]
theorem fF.ahI : rP .any (opsOf Tryz.f47 2)=fF.T2:=by kernel_rfl
theorem fF.aba : kD fF.T2.2 fF.B2=true:=by kernel_rfl
theorem fF.calls (k:Nat) (aA:ByteArray) (aC aI:Int) (ji:Option Addr) (jk:Nat) (dh:List (nV)) (aU bZ:ByteArray) (bK:Int) (eB:ByteArray) (dZ:Bool) (iZ:Option Addr) (ja:Nat) (cz:List (nV)) (bR:ByteArray) (r:Int) (w:World) (oI:Kd.C Ct w ji dh.length dh) (oJ:dh.length≤jk) (oK:Kd.C Ct w iZ cz.length cz) (oL:cz.length≤ja) (h:fF.f k aA aC aI dh aU bZ bK eB dZ cz bR=some r) (HT0:pY w) :
  Calls Tryz.prog 47 #[.agg #[.string aA,.int .i64 aC,.int .i64 aI,.slice ji dh.length jk,.string aU,.string bZ,.int .i64 bK,.string eB,.bool dZ,.slice iZ cz.length ja,.string bR]] w fun e w'=>e = .returned (.int .i64 r)∧Below w.heap.size w w':=by
 have HT:=ae.mk HT0;clear HT0;have NM:=Tryz.underlying33;have lZ:=ae.mk oI;have l5:=ae.mk oJ;clear oI oJ;have kQ:=ae.mk oK;have kR:=ae.mk oL;clear oK oL;have HB:=ae.mk (Below.refl w.heap.size w);have H:=h;clear h;unfold fF.f at H;replace H:=gD H;obtain⟨⟨aer,aoo⟩,A2,H⟩:=H;dsimp only at H;replace H:=gD H;obtain⟨UZ,A3,H⟩:=H;replace H:=gD H;obtain⟨U0,A4,H⟩:=H;obtain⟨ji5,Xn⟩:∃ j_:Int,(mx (wrap64 (aI-UZ)) 0)=j_:=⟨_,rfl⟩;(first|rw[Xn] at H|simp only[Xn] at H ⊢)
 (try rw[Xn] at A2)
 (try rw[Xn] at A3)
 (try rw[Xn] at A4)
 (try(have avZ:0≤ji5:=by(rw[← Xn];unfold mx;(repeat' split) <;> omega)))
 (try(have av0:0≤ji5:=by omega))
 have av1:(if(wrap64 (aI-UZ))<0 then 0 else(wrap64 (aI-UZ)))=ji5:=Xn;obtain⟨ji6,ZQ⟩:∃ j_:Int,(mx (ji5) (wrap64 ((wrap64 (U0+aI))-aC)))=j_:=⟨_,rfl⟩;(first|rw[ZQ] at H|simp only[ZQ] at H ⊢)
 (try rw[ZQ] at A2)
 (try rw[ZQ] at A3)
 (try rw[ZQ] at A4)
 have av2:(if(ji5)<(wrap64 ((wrap64 (U0+aI))-aC)) then(wrap64 ((wrap64 (U0+aI))-aC)) else(ji5))=ji6:=ZQ;obtain rfl:=cu H;go_enter Tryz.func47,Tryz.ntmps47;try go_wp2_with(first|((with_reducible refine aY (N:=1) rfl ?_);refine jX #[.string aA,.int .i64 aC,.int .i64 aI,.slice ji dh.length jk,.string aU,.string bZ,.int .i64 bK,.string eB,.bool dZ,.slice iZ cz.length ja,.string bR] 33 ?_;intro Ea hg jm hbox hb;have GA:=ae.mk (hbox);have as0:=jL hg;replace HB:=dS hb;clear hb hbox hg;obtain⟨_,_,_,_,_,_,_,_,_,_,_⟩:=jo GA;obtain⟨_,_,_,_,_,_,_,_,_,_,_⟩:=kz GA)|((with_reducible refine ag (f:=78) rfl ?_);refine aG (some 9) rfl rfl Tryz.func78 aK rfl #[.slice iZ cz.length ja,.string (⟨#[97,103,101]⟩:af)] rfl eu ?_;(with_reducible refine(xz.calls k _ _ cz (⟨#[97,103,101]⟩:af) aer aoo _ ?bM ?bN A2.out).mono ?_);(case bM=>repeat(first|exact(Kd.bO kQ.out HB.out)|(with_reducible refine Kd.aZ ?_ _)|(with_reducible refine Kd.bf ?_ _)|(with_reducible refine Kd.bP ?_)));(case bN=>exact kR.out);rintro e ku ⟨rfl,hb⟩;refine⟨_,rfl,?_⟩;replace GA:=iG (g:=Ea) hb;replace HB:=dS hb;(try clear hb)))
 replace GA:=ae.mk (bJ GA.out);replace HB:=ae.mk (di HB.out);refine lL (n:=15) (S:=fun w'=>w'.cell? ⟨Ea,0,none⟩=some (.string aA)∧w'.cell? ⟨Ea,1,none⟩=some (.int .i64 aC)∧w'.cell? ⟨Ea,2,none⟩=some (.int .i64 aI)∧w'.cell? ⟨Ea,3,none⟩=some (.slice ji dh.length jk)∧w'.cell? ⟨Ea,4,none⟩=some (.string aU)∧w'.cell? ⟨Ea,5,none⟩=some (.string bZ)∧w'.cell? ⟨Ea,6,none⟩=some (.int .i64 bK)∧w'.cell? ⟨Ea,7,none⟩=some (.string eB)∧w'.cell? ⟨Ea,8,none⟩=some (.bool dZ)∧w'.cell? ⟨Ea,9,none⟩=some (.slice iZ cz.length ja)∧w'.cell? ⟨Ea,10,none⟩=some (.string bR)) (ds:=[]) (jo GA) (fun hHeld=>?_);refine fu fF.ahI fF.aba (fun HT_ HW_=>?_);generalize ku.drew=pU at GA HB hHeld ⊢;repeat(first|refine nU ?_ (hy:=Or.inl ⟨by rfl,Uf⟩)|refine fA ?_)
 refine dn 5 (some 17) ?_;refine dn 7 (some 19) ?_;refine iC 8 (some 20) (hy:=Or.inl ⟨by rfl,Uf⟩) ?_;refine dn 10 (some 22) ?_;refine iC 11 (some 23) (hy:=Or.inl ⟨by rfl,Uf⟩) ?_;refine iM (fun K hK=>?_);refine dV Tryz.func43 aK rfl #[.agg #[.string aA,.int .i64 aC,.int .i64 aI,.slice ji dh.length jk,.string aU,.string bZ,.int .i64 bK,.string eB,.bool dZ,.slice iZ cz.length ja,.string bR]] (by rfl) rfl rfl eu ?_;with_reducible refine(jN.calls k aA aC aI _ _ dh aU bZ bK eB dZ _ _ cz bR UZ _ ?bM ?bN ?ib ?ic A3.out ?hT).mono ?_
 case hT=>exact gJ HT
 (case bM=>repeat(first|exact(Kd.bO lZ.out HB.out)|(with_reducible refine Kd.aZ ?_ _)|(with_reducible refine Kd.bf ?_ _)|(with_reducible refine Kd.bP ?_)))
 (case bN=>exact l5.out)
 (case ib=>repeat(first|exact(Kd.bO kQ.out HB.out)|(with_reducible refine Kd.aZ ?_ _)|(with_reducible refine Kd.bf ?_ _)|(with_reducible refine Kd.bP ?_)))
 (case ic=>exact kR.out)
 rintro e Aa ⟨rfl,hb⟩;refine⟨_,rfl,?_⟩;replace GA:=iG (g:=Ea) hb;replace HB:=dS hb;(try clear hb)
 (try clear hb2)
 (try clear hk)
 (try clear hi)
 refine hK.out _ _ (jo GA) (fun hHeld=>?_);clear hK K;refine eP ?_;repeat(first|refine fA ?_)
 refine iM (fun K hK=>?_);refine dV Tryz.func79 aK rfl #[.string aer,.int .i64 0] (by rfl) rfl rfl eu ?_;(with_reducible refine(pX.calls k aer 0 U0 _ A4.out).mono ?_);rintro e Aa ⟨rfl,hb⟩;refine⟨_,rfl,?_⟩;replace GA:=iG (g:=Ea) hb;replace HB:=dS hb;(try clear hb)
 (try clear hb2)
 (try clear hk)
 (try clear hi)
 refine hK.out _ _ (jo GA) (fun hHeld=>?_);clear hK K;refine eP ?_;repeat(first|refine fA ?_)
 refine mW (iR HT_.out aK) ?_;try go_wp2
 go_ret;exact⟨by first|rfl|(simp[jy,jA] <;> rfl)|(simp only[← Xn,← ZQ];first|rfl|(simp[jy,jA] <;> rfl))|(simp[*,jy,jA] <;> rfl),dN⟩

def qH.f (k:Nat) (aA:ByteArray) (aC:Int) (aI:Int) (dh:List (nV)) (aU:ByteArray) (bZ:ByteArray) (bK:Int) (eB:ByteArray) (dZ:Bool) (cz:List (nV)) (bR:ByteArray):Option (Int):=(iq.f k aA aC aI dh aU bZ bK eB dZ cz bR).bind fun ai6=>(if ai6=true then((fF.f k aA aC aI dh aU bZ bK eB dZ cz bR).bind fun aes=>(some aes)) else(some (-1)))
theorem qH.e0 {p:Prop} (h:p:=by
  obtain rfl:=cu H
  go_enter Tryz.func18,Tryz.ntmps18
  go_wp2_with(first|((with_reducible refine aY (N:=1) rfl ?_);refine jX #[.string aA,.int .i64 aC,.int .i64 aI,.slice ji dh.length jk,.string aU,.string bZ,.int .i64 bK,.string eB,.bool dZ,.slice iZ cz.length ja,.string bR] 33 ?_;intro ZR hg jm hbox hb;have MN:=ae.mk (hbox);have as1:=jL hg;have as2:=jL hg;replace HB:=dS hb;clear hb hbox hg;obtain⟨_,_,_,_,_,_,_,_,_,_,_⟩:=jo MN;obtain⟨_,_,_,_,_,_,_,_,_,_,_⟩:=kz MN)|((with_reducible refine ag (f:=13) rfl ?_);refine aG (some 4) rfl rfl Tryz.func13 aK rfl #[.agg #[.string aA,.int .i64 aC,.int .i64 aI,.slice ji dh.length jk,.string aU,.string bZ,.int .i64 bK,.string eB,.bool dZ,.slice iZ cz.length ja,.string bR]] rfl eu ?_;(with_reducible refine(iq.calls k aA aC aI _ _ dh aU bZ bK eB dZ _ _ cz bR false _ ?bM ?bN ?ib ?ic A2.out ?hT).mono ?_);(case hT=>exact gJ HT);(case bM=>repeat(first|exact(Kd.bO lZ.out HB.out)|(with_reducible refine Kd.aZ ?_ _)|(with_reducible refine Kd.bf ?_ _)|(with_reducible refine Kd.bP ?_)));(case bN=>exact l5.out);(case ib=>repeat(first|exact(Kd.bO kQ.out HB.out)|(with_reducible refine Kd.aZ ?_ _)|(with_reducible refine Kd.bf ?_ _)|(with_reducible refine Kd.bP ?_)));(case ic=>exact kR.out);rintro e Aa ⟨rfl,hb⟩;refine⟨_,rfl,?_⟩;replace MN:=iG (g:=ZR) hb;replace HB:=dS hb;(try clear hb);(try clear hb2);(try clear hk);(try clear hi))|((with_reducible refine ag (f:=13) rfl ?_);refine aG (some 4) rfl rfl Tryz.func13 aK rfl #[.agg #[.string aA,.int .i64 aC,.int .i64 aI,.slice ji dh.length jk,.string aU,.string bZ,.int .i64 bK,.string eB,.bool dZ,.slice iZ cz.length ja,.string bR]] rfl eu ?_;(with_reducible refine(iq.calls k aA aC aI _ _ dh aU bZ bK eB dZ _ _ cz bR true _ ?bM ?bN ?ib ?ic A2.out ?hT).mono ?_);(case hT=>exact gJ HT);(case bM=>repeat(first|exact(Kd.bO lZ.out HB.out)|(with_reducible refine Kd.aZ ?_ _)|(with_reducible refine Kd.bf ?_ _)|(with_reducible refine Kd.bP ?_)));(case bN=>exact l5.out);(case ib=>repeat(first|exact(Kd.bO kQ.out HB.out)|(with_reducible refine Kd.aZ ?_ _)|(with_reducible refine Kd.bf ?_ _)|(with_reducible refine Kd.bP ?_)));(case ic=>exact kR.out);rintro e ku ⟨rfl,hb⟩;refine⟨_,rfl,?_⟩;replace MN:=iG (g:=ZR) hb;replace HB:=dS hb;(try clear hb);(try clear hb2);(try clear hk);(try clear hi);obtain⟨_,_,_,_,_,_,_,_,_,_,_⟩:=jo MN;obtain⟨_,_,_,_,_,_,_,_,_,_,_⟩:=kz MN)|((with_reducible refine ag (f:=47) rfl ?_);refine aG (some 7) rfl rfl Tryz.func47 aK rfl #[.agg #[.string aA,.int .i64 aC,.int .i64 aI,.slice ji dh.length jk,.string aU,.string bZ,.int .i64 bK,.string eB,.bool dZ,.slice iZ cz.length ja,.string bR]] rfl eu ?_;(with_reducible refine(fF.calls k aA aC aI _ _ dh aU bZ bK eB dZ _ _ cz bR aes _ ?bM ?bN ?ib ?ic A4.out ?hT).mono ?_);(case hT=>exact gJ HT);(case bM=>repeat(first|exact(Kd.bO lZ.out HB.out)|(with_reducible refine Kd.aZ ?_ _)|(with_reducible refine Kd.bf ?_ _)|(with_reducible refine Kd.bP ?_)));(case bN=>exact l5.out);(case ib=>repeat(first|exact(Kd.bO kQ.out HB.out)|(with_reducible refine Kd.aZ ?_ _)|(with_reducible refine Kd.bf ?_ _)|(with_reducible refine Kd.bP ?_)));(case ic=>exact kR.out);rintro e pU ⟨rfl,hb⟩;refine⟨_,rfl,?_⟩;replace MN:=iG (g:=ZR) hb;replace HB:=dS hb;(try clear hb);(try clear hb2);(try clear hk);(try clear hi)))
  go_ret
  exact⟨nG,dN⟩):p:=h
theorem qH.calls (k:Nat) (aA:ByteArray) (aC aI:Int) (ji:Option Addr) (jk:Nat) (dh:List (nV)) (aU bZ:ByteArray) (bK:Int) (eB:ByteArray) (dZ:Bool) (iZ:Option Addr) (ja:Nat) (cz:List (nV)) (bR:ByteArray) (r:Int) (w:World) (oI:Kd.C Ct w ji dh.length dh) (oJ:dh.length≤jk) (oK:Kd.C Ct w iZ cz.length cz) (oL:cz.length≤ja) (h:qH.f k aA aC aI dh aU bZ bK eB dZ cz bR=some r) (HT0:pY w) :
  Calls Tryz.prog 18 #[.agg #[.string aA,.int .i64 aC,.int .i64 aI,.slice ji dh.length jk,.string aU,.string bZ,.int .i64 bK,.string eB,.bool dZ,.slice iZ cz.length ja,.string bR]] w fun e w'=>e = .returned (.int .i64 r)∧Below w.heap.size w w':=by
 have HT:=ae.mk HT0;clear HT0;have NM:=Tryz.underlying33;have lZ:=ae.mk oI;have l5:=ae.mk oJ;clear oI oJ;have kQ:=ae.mk oK;have kR:=ae.mk oL;clear oK oL;have HB:=ae.mk (Below.refl w.heap.size w);have H:=h;clear h;unfold qH.f at H;replace H:=gD H;obtain⟨ai6,A2,H⟩:=H;replace H:=gB H;rcases H with⟨rfl,H⟩|⟨rfl,H⟩
 ·replace H:=gD H;obtain⟨aes,A4,H⟩:=H;exact qH.e0
 ·exact qH.e0

end Go.Proofs.YtfhllanhldbkkaaGreatDoor.P
