import Derived.Test.YtfhllanhldbkkaaGreatDoorPx0
import Derived.Test.YtfhllanhldbkkaaGreatDoorPxspec01a
import Derived.Test.YtfhllanhldbkkaaGreatDoorWC
import Derived.Test.YtfhllanhldbkkaaGreatDoorPxspec05b
namespace Go.Proofs.YtfhllanhldbkkaaGreatDoor.P
set_option maxHeartbeats 8000000
set_option maxRecDepth 100000
open Go.RowKit Go.Proofs.YtfhllanhldbkkaaGreatDoorW.ax Go.Proofs.YtfhllanhldbkkaaGreatDoorW.aD Go.Proofs.YtfhllanhldbkkaaGreatDoorW.aH
attribute [local go_sem] nZ oh qI qJ mq mr om oo   -- for this text's walks alone
set_option linter.unusedVariables false
set_option linter.unusedSimpArgs false

def iP.f (k:Nat) (a0:Int):Option (Bool):=(jf.f a0).bind fun t227=>(if t227≥97 then(if t227≤122 then(some true) else((bS.f a0).bind fun t228=>(if t228=true then(some true) else((jb.f k (⟨#[45,46,95,126]⟩:af) a0).bind fun t229=>(some t229))))) else((bS.f a0).bind fun t230=>(if t230=true then(some true) else((jb.f k (⟨#[45,46,95,126]⟩:af) a0).bind fun t231=>(some t231)))))
theorem iP.mono : ∀ a0 k,EN (iP.f k a0) (iP.f (k+1) a0):=by
 intro a0 k
 unfold iP.f
 repeat' first|(with_reducible first|exact jb.mono ..|exact EN.refl ..|exact EN.none ..|refine EN.ite ?_ ?_|refine EN.bind ?_ (fun _=>?_))
theorem iP.e0 {p:Prop} (h:p:=by
  obtain rfl:=cu H
  go_enter Tryz.func212,Tryz.ntmps212
  go_wp2_with(first|((with_reducible refine ag (f:=125) rfl ?_);refine aG (some 5) rfl rfl Tryz.func125 aK rfl #[.int .u8 a0] rfl eu ?_;(with_reducible refine(jf.calls a0 t227 _ A2.out).mono ?_);rintro e w' ⟨rfl,⟨nd,rfl⟩⟩;refine⟨_,rfl,?_⟩)|(go_at_call 77;(with_reducible refine(bS.calls a0 false _ A8.out).mono ?_);rintro e w' ⟨rfl,⟨nd,rfl⟩⟩)|(go_at_call 186;(with_reducible refine(jb.calls k (⟨#[45,46,95,126]⟩:af) a0 t231 _ PS.out).mono ?_);rintro e w' ⟨rfl,⟨nd,rfl⟩⟩)|(go_at_call 77;(with_reducible refine(bS.calls a0 true _ A8.out).mono ?_);rintro e w' ⟨rfl,⟨nd,rfl⟩⟩)|(go_at_call 77;(with_reducible refine(bS.calls a0 false _ A5.out).mono ?_);rintro e w' ⟨rfl,⟨nd,rfl⟩⟩)|(go_at_call 186;(with_reducible refine(jb.calls k (⟨#[45,46,95,126]⟩:af) a0 t229 _ A7.out).mono ?_);rintro e w' ⟨rfl,⟨nd,rfl⟩⟩)|(go_at_call 77;(with_reducible refine(bS.calls a0 true _ A5.out).mono ?_);rintro e w' ⟨rfl,⟨nd,rfl⟩⟩))
  go_ret
  exact⟨fI,lG⟩):p:=h
theorem iP.calls (k:Nat) (a0:Int) (r:Bool) (w:World) (h:iP.f k a0=some r) :
  Calls Tryz.prog 212 #[.int .u8 a0] w fun e w'=>e = .returned (.bool r)∧ed w w':=by
 have H:=h;clear h;unfold iP.f at H;replace H:=gD H;obtain⟨t227,A2,H⟩:=H;replace H:=gI H;rcases H with⟨c3,-,-,H⟩|⟨c3,-,-,H⟩
 ·have gM:decide (97≤t227)=true:=aT c3;clear c3;replace H:=gI H;rcases H with⟨-,mP,-,H⟩|⟨-,mP,-,H⟩
  ·exact iP.e0
  ·replace H:=gD H;obtain⟨t228,A5,H⟩:=H;replace H:=gB H;rcases H with⟨rfl,H⟩|⟨rfl,H⟩
   ·exact iP.e0
   ·replace H:=gD H;obtain⟨t229,A7,H⟩:=H;exact iP.e0
 ·have gM:decide (97≤t227)=false:=aN c3;clear c3;replace H:=gD H;obtain⟨t230,A8,H⟩:=H;replace H:=gB H;rcases H with⟨rfl,H⟩|⟨rfl,H⟩
  ·exact iP.e0
  ·replace H:=gD H;obtain⟨t231,PS,H⟩:=H;exact iP.e0

def oW.f (a0:Int):Option (Int):=if a0≥97 then(if a0≤122 then(some ((a0-32)%256)) else(some a0)) else(some a0)
theorem oW.calls (a0 r:Int) (w:World) (h:oW.f a0=some r) :
  Calls Tryz.prog 213 #[.int .u8 a0] w fun e w'=>e = .returned (.int .u8 r)∧ed w w':=by
 have H:=h;clear h;unfold oW.f at H;replace H:=gI H;rcases H with⟨c2,-,-,H⟩|⟨c2,-,-,H⟩
 ·have nk:decide (97≤a0)=true:=aT c2;clear c2;replace H:=gI H;rcases H with⟨-,gM,-,H⟩|⟨-,gM,-,H⟩
  ·obtain rfl:=cu H;go_enter Tryz.func213,Tryz.ntmps213;go_wp2;go_ret;exact⟨fI,lG⟩
  ·obtain rfl:=cu H;go_enter Tryz.func213,Tryz.ntmps213;go_wp2;go_ret;exact⟨fI,lG⟩
 ·have nk:decide (97≤a0)=false:=aN c2;clear c2;obtain rfl:=cu H;go_enter Tryz.func213,Tryz.ntmps213;go_wp2;go_ret;exact⟨fI,lG⟩


mutual
def bu.l0 : Nat→ByteArray→List Int→Int→Option (ByteArray)
 |0,_,_,_=>none
 |k+1,x0,x3,x4=>if x4<(x0.size:Int) then(if 0≤x4 then(if(bt x0 x4)=37 then(bu.j1 k x0 x3 x4 (decide ((wrap64 (x4+2))≥(x0.size:Int)))) else(bu.j1 k x0 x3 x4 true)) else(none)) else(some (strOfNums x3))
def bu.j1 : Nat→ByteArray→List Int→Int→Bool→Option (ByteArray)
 |0,_,_,_,_=>none
 |k+1,x0,x3,x4,x23=>if x23=true then(if 0≤x4 then(if x4<(x0.size:Int) then(if x3.length<140737488355328 then(bu.l0 k x0 (x3 ++ [bt x0 x4]) (wrap64 (x4+1))) else(none)) else(none)) else(none)) else(if 0≤(wrap64 (x4+1)) then(if(wrap64 (x4+1))≤(wrap64 (x4+3)) then(if(wrap64 (x4+3))≤(x0.size:Int) then((dG.f k (x0.extract ((wrap64 (x4+1)):Int).toNat ((wrap64 (x4+3)):Int).toNat)).bind fun agf=>(if agf.2=true then((iP.f k ((agf.1)%256)).bind fun t246=>(if t246=true then(if x3.length<140737488355328 then(bu.l0 k x0 (x3 ++ [(agf.1)%256]) (wrap64 ((wrap64 (x4+2))+1))) else(none)) else(if(wrap64 (x4+1))<(x0.size:Int) then((oW.f (bt x0 (wrap64 (x4+1)))).bind fun YR=>(if 0≤(wrap64 (x4+2)) then(if(wrap64 (x4+2))<(x0.size:Int) then((oW.f (bt x0 (wrap64 (x4+2)))).bind fun YS=>((some (([37,YR,YS]:List Int):List Int)).bind fun YT=>(if x3.length+YT.length<140737488355328 then(bu.l0 k x0 (x3++YT) (wrap64 ((wrap64 (x4+2))+1))) else(none)))) else(none)) else(none))) else(none)))) else(if 0≤x4 then(if x4<(x0.size:Int) then(if x3.length<140737488355328 then(bu.l0 k x0 (x3 ++ [bt x0 x4]) (wrap64 (x4+1))) else(none)) else(none)) else(none)))) else(none)) else(none)) else(none))
end
def bu.f (k:Nat) (a0:ByteArray):Option (ByteArray):=bu.l0 k a0 ([]:List Int) 0
def bu.T8 : Bool×List (List Nat×List Nat):=(true,[([],[]),([],[]),([],[]),([2],[2]),([1,3],[1,3]),([4],[4]),([],[]),([],[]),([7],[7]),([6,8],[6,8]),([9,5],[9]),([5,10],[5,10]),([0,11,10],[0,11]),([12,12,0,1,2,3,4,5,6,7,8,9,10,11,12],[0,12])])
def bu.B8 : List Nat:=[0,0,0,4,14,30,0,0,128,448,1022,2046,4095,8191]
theorem bu.aus : rP .any (opsOf Tryz.f182 8)=bu.T8:=by kernel_rfl
theorem bu.ars : kD bu.T8.2 bu.B8=true:=by kernel_rfl
theorem bu.calls (k:Nat) (a0 r:ByteArray) (w:World) (h:bu.f k a0=some r) :
  Calls Tryz.prog 182 #[.string a0] w fun e w'=>e = .returned (.string r)∧Below w.heap.size w w':=by
 have HB:=ae.mk (Below.refl w.heap.size w);have H:=h;clear h;unfold bu.f at H;have H':=ae.mk H;clear H;go_enter Tryz.func182,Tryz.ntmps182;go_wp2;go_loopg [3,4] k (fun kq v3 v4 w'=>∃(fU:List Int) (fT:Int),v4 = .int .i64 fT∧ae (bu.l0 kq a0 fU fT=some r)∧ae (kq≤k)∧ae (Kd.R (Kd.int .u8) 5 w' w.heap.size (fun _=>True) v3 fU)∧ae (Below w.heap.size w w'))
 case atStart=>exact⟨(([]:List Int)),(0),fI,H',⟨Nat.le_refl _⟩,⟨Ud⟩,⟨dN⟩⟩
 case round=>
  clear H';obtain⟨fU,fT,rfl,HA,qj,ou,HB⟩:=hrel;cases gk with
  |zero=>exact absurd HA.out (by simp[bu.l0])
  |succ k1=>
   have H:=HA.out;clear HA;simp only[bu.l0] at H;replace H:=gI H;rcases H with⟨-,nk,-,H⟩|⟨-,nk,-,H⟩
   ·have ZT:=ae.mk H;clear H;go_upto_region 5 with(fail);go_cut [23] (fun v23 wc=>∃(kq:Nat) (Ez:Bool),v23 = .bool Ez∧ae (bu.j1 kq a0 fU fT Ez=some r)∧ae (kq≤k1)∧ae (Kd.R (Kd.int .u8) 5 wc w.heap.size (fun _=>True) u3 fU)∧ae (Below w.heap.size w wc))
    case first=>
     have H:=ZT.out;clear ZT;replace H:=gN H;obtain⟨-,mP,-,H⟩:=H;(first|rw[mP]|(simp only[iE,jF];rw[mP])|skip)
     replace H:=gI H;rcases H with⟨c6,-,-,H⟩|⟨c6,-,-,H⟩
     ·obtain⟨nW,yK⟩:=rD c6;clear c6;have H':=ae.mk H;clear H;have p5:0≤(fT:Int):=bE gL;have q5:fT<(a0.size:Int):=bE gL;have hx5:=gV a0 fT;replace p5:=eq_true p5;replace q5:=eq_true q5;go_wp2;go_meet
      case rel=>exact⟨_,(decide ((wrap64 (fT+2))≥(a0.size:Int))),fI,H',⟨VP⟩,⟨Ah⟩,⟨dN⟩⟩
     ·obtain⟨nW,yK⟩:=rO c6;have H':=ae.mk H;clear H;have p5:0≤(fT:Int):=bE gL;have q5:fT<(a0.size:Int):=bE gL;have hx5:=gV a0 fT;replace p5:=eq_true p5;replace q5:=eq_true q5;go_wp2;go_meet
      case rel=>exact⟨_,(true),fI,H',⟨VP⟩,⟨Ah⟩,⟨dN⟩⟩
    case rest=>
     clear ZT;try clear nk
     obtain⟨kq,Ez,rfl,HA,HJ2,ou,HB⟩:=hcut;cases kq with
     |zero=>exact absurd HA.out (by simp[bu.j1])
     |succ MO=>
      have H:=HA.out;clear HA;simp only[bu.j1] at H;replace H:=gB H;rcases H with⟨rfl,H⟩|⟨rfl,H⟩
      ·replace H:=gN H;obtain⟨-,tO,-,H⟩:=H;replace H:=gN H;obtain⟨-,xY,-,H⟩:=H;replace H:=gN H;obtain⟨c11,-,-,H⟩:=H;have Xr:=ae.mk c11;clear c11;obtain⟨art,YU⟩:∃ y_:List Int,y_=(fU ++ [bt a0 fT]):=⟨_,rfl⟩;replace H:(bu.l0 MO a0 art (wrap64 (fT+1)))=some r:=by first|(rw[YU];with_reducible exact H)|(have rq:=(aj _ _).symm.trans H;rw[YU];with_reducible exact rq)|(have rq:=(aj _ _).symm.trans H;with_reducible exact rq)|with_reducible exact H|(rw[YU];exact H)|exact H
       have aru:=ae.mk YU;clear YU;have H':=ae.mk H;clear H;have p10:0≤(fT:Int):=bE gL;have q10:fT<(a0.size:Int):=bE gL;have aup:=gV a0 fT;replace p10:=eq_true p10;replace q10:=eq_true q10;go_wp2_with(((with_reducible refine lJ (b:=.append) (xs:=#[.tmp 24,.tmp 28]) rfl ?_);(try(refine uz (by rfl) ?_;dsimp only));at_builtin;refine Kd.rZ (Kd.int .u8) (w0:=w) w.heap.size rfl (.tmp 24) (.tmp 28) 100 5 (.int .u8 0) 1 rfl Tryz.underlying100 info5 rfl ak aa u3 fU (bt a0 fT) [.int .u8 (bt a0 fT)] (fun _=>True) (fun _=>False) rfl rfl ?aP (fun _ hk=>hk.elim) ?aF ?aO ?aB ?aS ?aL ?_;(case aP=>exact rfl);(case aB=>exact dN);(case aF=>exact(fun _ _=>trivial));(case aO=>exact UC);(case aS=>exact(bY dN));(case aL=>have:=Xr.out;omega);intro azp jm ho hb hg hat;rw[← aru.out] at ho;have PZ:=ae.mk (hb);have P5:=ae.mk (ho);clear HB;clear ou;have HB:=PZ;have axv:=P5;clear PZ P5;clear ho hb hg hat));go_roundg MO
       case measure=>have:=qj.out;have:=HJ2.out;omega
       case rel=>exact⟨(art),(wrap64 (fT+1)),fI,H',⟨ZE⟩,⟨Ah⟩,⟨dN⟩⟩
      ·obtain⟨OJ,WL⟩:∃ j_:Int,(wrap64 (fT+1))=j_:=⟨_,rfl⟩;(first|rw[WL] at H|simp only[WL] at H ⊢)
       have aut:(IntKind.i64.wrap (fT+1))=OJ:=(iE _).trans WL;replace H:=gN H;obtain⟨-,U2,Ma,H⟩:=H;replace H:=gN H;obtain⟨c15,LZ,Ew,H⟩:=H;replace H:=gN H;obtain⟨c16,Ji,Ae,H⟩:=H;replace H:=gD H;obtain⟨⟨t244,t245⟩,ZN,H⟩:=H;dsimp only at H;replace H:=gB H;rcases H with⟨rfl,H⟩|⟨rfl,H⟩
       ·replace H:=gD H;obtain⟨t246,A19,H⟩:=H;replace H:=gB H;rcases H with⟨rfl,H⟩|⟨rfl,H⟩
        ·replace H:=gN H;obtain⟨c21,-,-,H⟩:=H;have arv:=ae.mk c21;clear c21;obtain⟨arw,YV⟩:∃ y_:List Int,y_=(fU ++ [(t244)%256]):=⟨_,rfl⟩;replace H:(bu.l0 MO a0 arw (wrap64 ((wrap64 (fT+2))+1)))=some r:=by first|(rw[YV];with_reducible exact H)|(have rq:=(aj _ _).symm.trans H;rw[YV];with_reducible exact rq)|(have rq:=(aj _ _).symm.trans H;with_reducible exact rq)|with_reducible exact H|(rw[YV];exact H)|exact H
         have arx:=ae.mk YV;clear YV;have H':=ae.mk H;clear H;go_wp2_with(first|((with_reducible refine ag (f:=211) rfl ?_);refine aG (some 37) rfl rfl Tryz.func211 aK rfl #[.string (a0.extract ((OJ):Int).toNat ((wrap64 (fT+3)):Int).toNat)] rfl ahw ?_;(with_reducible refine(dG.calls MO (a0.extract ((OJ):Int).toNat ((wrap64 (fT+3)):Int).toNat) t244 true _ ZN.out).mono ?_);rintro e w' ⟨rfl,⟨nd,rfl⟩⟩;refine⟨_,rfl,?_⟩)|((with_reducible refine ag (f:=212) rfl ?_);refine aG (some 65) rfl rfl Tryz.func212 aK rfl #[.int .u8 ((t244)%256)] rfl eu ?_;(with_reducible refine(iP.calls MO ((t244)%256) true _ A19.out).mono ?_);rintro e w' ⟨rfl,⟨nd,rfl⟩⟩;refine⟨_,rfl,?_⟩)|((with_reducible refine lJ (b:=.append) (xs:=#[.tmp 66,.tmp 69]) rfl ?_);(try(refine uz (by rfl) ?_;dsimp only));at_builtin;refine Kd.rZ (Kd.int .u8) (w0:=w) w.heap.size rfl (.tmp 66) (.tmp 69) 100 5 (.int .u8 0) 1 rfl Tryz.underlying100 info5 rfl ak aa u3 fU ((t244)%256) [.int .u8 ((t244)%256)] (fun _=>True) (fun _=>False) rfl rfl ?aP (fun _ hk=>hk.elim) ?aF ?aO ?aB ?aS ?aL ?_;(case aP=>exact rfl);(case aB=>exact dN);(case aF=>exact(fun _ _=>trivial));(case aO=>exact UC);(case aS=>exact(bY dN));(case aL=>have:=arv.out;omega);intro azq ku ho hb hg hat;rw[← arx.out] at ho;have KW:=ae.mk (hb);have KX:=ae.mk (ho);clear HB;clear ou;have HB:=KW;have axw:=KX;clear KW KX;clear ho hb hg hat));go_roundg MO
         case measure=>have:=qj.out;have:=HJ2.out;omega
         case rel=>exact⟨(arw),(wrap64 ((wrap64 (fT+2))+1)),fI,H',⟨ZE⟩,⟨Ah⟩,⟨dN⟩⟩
        ·replace H:=gN H;obtain⟨-,SE,-,H⟩:=H;replace H:=gD H;obtain⟨YR,A25,H⟩:=H;obtain⟨Wj,Qh⟩:∃ j_:Int,(wrap64 (fT+2))=j_:=⟨_,rfl⟩;(first|rw[Qh] at H|simp only[Qh] at H ⊢)
         (try rw[Qh] at ZN)
         (try rw[Qh] at A19)
         (try rw[Qh] at A25)
         have auu:(IntKind.i64.wrap (fT+2))=Wj:=(iE _).trans Qh;replace H:=gN H;obtain⟨-,Oq,-,H⟩:=H;replace H:=gN H;obtain⟨-,SA,-,H⟩:=H;replace H:=gD H;obtain⟨YS,A30,H⟩:=H;obtain⟨YT,YW⟩:∃ y_:List Int,y_=(([37,YR,YS]:List Int)):=⟨_,rfl⟩;replace H:(if fU.length+YT.length<140737488355328 then(bu.l0 MO a0 (fU++YT) (wrap64 ((Wj)+1))) else(none))=some r:=by first|(rw[YW];with_reducible exact H)|(have rq:=(aj _ _).symm.trans H;rw[YW];with_reducible exact rq)|(have rq:=(aj _ _).symm.trans H;with_reducible exact rq)|with_reducible exact H|(rw[YW];exact H)|exact H
         have aj2:=ae.mk YW;clear YW;replace H:=gN H;obtain⟨c31,-,-,H⟩:=H;have ary:=ae.mk c31;clear c31;obtain⟨arz,YX⟩:∃ y_:List Int,y_=(fU++YT):=⟨_,rfl⟩;replace H:(bu.l0 MO a0 arz (wrap64 ((Wj)+1)))=some r:=by first|(rw[YX];with_reducible exact H)|(have rq:=(aj _ _).symm.trans H;rw[YX];with_reducible exact rq)|(have rq:=(aj _ _).symm.trans H;with_reducible exact rq)|with_reducible exact H|(rw[YX];exact H)|exact H
         have arA:=ae.mk YX;clear YX;have H':=ae.mk H;clear H;try go_wp2_with(first|((with_reducible refine ag (f:=211) rfl ?_);refine aG (some 37) rfl rfl Tryz.func211 aK rfl #[.string (a0.extract ((OJ):Int).toNat ((wrap64 (fT+3)):Int).toNat)] rfl ahw ?_;(with_reducible refine(dG.calls MO (a0.extract ((OJ):Int).toNat ((wrap64 (fT+3)):Int).toNat) t244 true _ ZN.out).mono ?_);rintro e w' ⟨rfl,⟨nd,rfl⟩⟩;refine⟨_,rfl,?_⟩)|((with_reducible refine ag (f:=212) rfl ?_);refine aG (some 65) rfl rfl Tryz.func212 aK rfl #[.int .u8 ((t244)%256)] rfl eu ?_;(with_reducible refine(iP.calls MO ((t244)%256) false _ A19.out).mono ?_);rintro e w' ⟨rfl,⟨nd,rfl⟩⟩;refine⟨_,rfl,?_⟩))
         (try(rw[ma wc];generalize hq_:World.drewN wc _=wc;have Ag:ae (Kd.R (Kd.int .u8) 5 wc w.heap.size (fun _=>True) u3 fU):=⟨by rw[← hq_];exact UC⟩;have zR:ae (Below w.heap.size w wc):=⟨by rw[← hq_];exact dN⟩;clear ou HB hq_;have ou:=Ag;have HB:=zR;clear Ag zR))
         replace ou:=ae.mk (Kd.ek ou.out);replace HB:=ae.mk (di HB.out);have p24:0≤((OJ):Int):=bE gL;have q24:(OJ)<(a0.size:Int):=bE gL;have hx24:=gV a0 (OJ);replace p24:=eq_true p24;replace q24:=eq_true q24;have p29:0≤((Wj):Int):=bE gL;have q29:(Wj)<(a0.size:Int):=bE gL;have hx29:=gV a0 (Wj);replace p29:=eq_true p29;replace q29:=eq_true q29;refine lL (n:=14) (S:=fun w'=>True) (ds:=[]) trivial (fun hHeld=>?_);refine fu bu.aus bu.ars (fun HT_ HW_=>?_);generalize wc.drew=Aa at ou HB hHeld ⊢;repeat(first|refine nU ?_ (hy:=Or.inl ⟨by rfl,by intro w' _;go_simp;with_reducible rfl⟩)|refine fA ?_)
         refine dn 6 (some 46) ?_;refine dn 7 (some 47) ?_;refine dn 8 (some 48) ?_;refine iC 9 (some 49) (hy:=Or.inl ⟨by rfl,by intro w' _;go_simp;with_reducible rfl⟩) ?_;refine iM (fun K hK=>?_);refine dV Tryz.func213 aK rfl #[.int .u8 (bt a0 (OJ))] (by rfl) rfl rfl ahw ?_;(with_reducible refine(oW.calls (bt a0 (OJ)) YR _ A25.out).mono ?_);rintro e w' ⟨rfl,⟨nd,rfl⟩⟩;refine⟨_,rfl,?_⟩;refine hK.out _ _ trivial (fun hHeld=>?_);clear hK K;refine eP ?_;refine iM (fun K hK=>?_);refine dV Tryz.func213 aK rfl #[.int .u8 (bt a0 (Wj))] (by rfl) rfl rfl (by(try simp only[List.map_toArray,List.map_cons,List.map_nil]);first|done|(simp only[Qh];rfl)|rfl|(simp only[List.length_drop,List.length_take];rfl)) ?_;(with_reducible refine(oW.calls (bt a0 (Wj)) YS _ A30.out).mono ?_);rintro e w' ⟨rfl,⟨nd,rfl⟩⟩;refine⟨_,rfl,?_⟩;refine hK.out _ _ trivial (fun hHeld=>?_);clear hK K;refine eP ?_;refine IL (i:=11) (N:=some 51) #[true,true,true,true,true,true,true,true,true,true,true,true,false,false] rfl rfl (Cw HT_.out aK) ak (fun K hK=>?_);refine Kd.Js (Kd.int .u8) _ 5 ?hg (N:=51) ?hd (xs:=([37,YR,YS]:List Int)) (inner:=[.int .u8 37,.int .u8 YR,.int .u8 YS]) (ok:=fun _=>True) (okp:=fun _=>True) ?hr ?hp (fun _ hk=>hk) trivial (Below.refl _ _) (Nat.le_refl _) (by simp) ?_;(case hd=>rfl);(case hg=>rfl);(case hr=>first|(go_simp;done)|(go_simp;rfl));(case hp=>exact(jK.one (show Kd.M (Kd.int .u8) _ _ _ 37 [.int .u8 37] from rfl) (jK.one (show Kd.M (Kd.int .u8) _ _ _ YR [.int .u8 YR] from rfl) (jK.one (show Kd.M (Kd.int .u8) _ _ _ YS [.int .u8 YS] from rfl) (jK.none _ _)))));intro azr zO acQ hb hg_ hnew_;clear hg_ hnew_;(first|rw[← aj2.out] at acQ|(simp only[Int.reduceToNat] at acQ;rw[← aj2.out] at acQ))
         have Vm:=ae.mk (Kd.iT (Kd.mg acQ (Kd.sQ UC)) (bY dN));replace ou:=ae.mk (Kd.IJ UC (Kd.mf acQ) hb);replace HB:=dS hb;clear hb acQ;obtain⟨ah2,ah3,aaB⟩:=Kd.iA Vm.out;(first|subst aaB|(injection aaB with Jf Pk Jg;have Pm:=Jf.symm;have Pn:=Jg.symm;clear Jf Pk Jg;subst Pm;subst Pn))
         refine hK.out _ _ trivial (fun hHeld=>?_);clear hK K;refine Cx (some 51) ?_;refine IL (i:=12) (N:=some 52) #[true,true,true,true,true,true,true,true,true,true,true,true,true,false] rfl rfl (Cw HT_.out aK) ak (fun K hK=>?_);refine Kd.F5 (Kd.int .u8) (w0:=w) w.heap.size (by rfl) (.tmp 40) (.tmp 51) 100 5 (.int .u8 0) 1 rfl Tryz.underlying100 info5 rfl ak aa u3 fU YT _ _ _ (fun k_=>some k_≠(.slice ah2 YT.length ah3:Value).ownBlock) (fun _=>False) rfl rfl ?aO ?aR (fun _ _ h=>h) (fun _ h=>h.elim) ?aF ?aB ?aS ?aL ?_;(case aR=>repeat(first|exact(Kd.bC Vm.out).2.2|(with_reducible refine Kd.aZ ?_ _)|(with_reducible refine Kd.bf ?_ _)|(with_reducible refine Kd.bP ?_)))
         (case aB=>exact dN)
         (case aF=>exact(fun k_ hk=>Kd.fresh' (Kd.sQ (by(with_reducible repeat(first|apply Kd.dW|apply Kd.dU|apply Kd.ek));exact Vm.out)) k_ hk))
         (case aO=>exact(by(with_reducible repeat(first|apply Kd.dW|apply Kd.dU|apply Kd.ek));exact Kd.lF ou.out (fun _ hk=>hk.2)))
         (case aS=>exact(bY dN))
         (case aL=>have:=ary.out;omega)
         intro azs Fq ho hb hg hat;rw[← arA.out] at ho;have Ag:=ae.mk (Kd.EO (ok:=(fun _=>True)) (by(with_reducible repeat(first|apply Kd.dW|apply Kd.dU|apply Kd.ek));exact Vm.out) hg hat);have zR:=ae.mk (hb);have aj3:=ae.mk (ho);clear Vm;clear HB;clear ou;have Vm:=Ag;have HB:=zR;have arB:=aj3;clear Ag zR aj3;clear ho hb hg hat;refine hK.out _ _ trivial (fun hHeld=>?_);clear hK K;refine Cx (some 52) ?_;repeat(first|refine fA ?_)
         refine mW (iR HT_.out aK) ?_;try go_wp2
         go_roundg MO
         case measure=>have:=qj.out;have:=HJ2.out;omega
         case rel=>exact⟨(arz),(wrap64 ((Wj)+1)),(by first|rfl|(simp;done)|(simp only[← Qh] <;> (first|rfl|simp))|(simp[*];done)),H',⟨ZE⟩,⟨by(with_reducible repeat(first|apply Kd.dW|apply Kd.dU|apply Kd.ek));exact Kd.lF arB.out (fun _ hk=>trivial)⟩,⟨dN⟩⟩
       ·replace H:=gN H;obtain⟨-,arC,-,H⟩:=H;replace H:=gN H;obtain⟨-,axx,-,H⟩:=H;replace H:=gN H;obtain⟨c40,-,-,H⟩:=H;have Yt:=ae.mk c40;clear c40;obtain⟨arD,YY⟩:∃ y_:List Int,y_=(fU ++ [bt a0 fT]):=⟨_,rfl⟩;replace H:(bu.l0 MO a0 arD OJ)=some r:=by first|(rw[YY];with_reducible exact H)|(have rq:=(aj _ _).symm.trans H;rw[YY];with_reducible exact rq)|(have rq:=(aj _ _).symm.trans H;with_reducible exact rq)|with_reducible exact H|(rw[YY];exact H)|exact H
        have arE:=ae.mk YY;clear YY;have H':=ae.mk H;clear H;go_wp2_with(first|((with_reducible refine ag (f:=211) rfl ?_);refine aG (some 37) rfl rfl Tryz.func211 aK rfl #[.string (a0.extract ((OJ):Int).toNat ((wrap64 (fT+3)):Int).toNat)] rfl ahw ?_;(with_reducible refine(dG.calls MO (a0.extract ((OJ):Int).toNat ((wrap64 (fT+3)):Int).toNat) t244 false _ ZN.out).mono ?_);rintro e w' ⟨rfl,⟨nd,rfl⟩⟩;refine⟨_,rfl,?_⟩;have p39:0≤(fT:Int):=bE gL;have q39:fT<(a0.size:Int):=bE gL;have hx39:=gV a0 fT;replace p39:=eq_true p39;replace q39:=eq_true q39)|((with_reducible refine lJ (b:=.append) (xs:=#[.tmp 56,.tmp 60]) rfl ?_);(try(refine uz (by rfl) ?_;dsimp only));at_builtin;refine Kd.rZ (Kd.int .u8) (w0:=w) w.heap.size rfl (.tmp 56) (.tmp 60) 100 5 (.int .u8 0) 1 rfl Tryz.underlying100 info5 rfl ak aa u3 fU (bt a0 fT) [.int .u8 (bt a0 fT)] (fun _=>True) (fun _=>False) rfl rfl ?aP (fun _ hk=>hk.elim) ?aF ?aO ?aB ?aS ?aL ?_;(case aP=>exact rfl);(case aB=>exact dN);(case aF=>exact(fun _ _=>trivial));(case aO=>exact UC);(case aS=>exact(bY dN));(case aL=>have:=Yt.out;omega);intro azt NQ ho hb hg hat;rw[← arE.out] at ho;have aj4:=ae.mk (hb);have aj5:=ae.mk (ho);clear HB;clear ou;have HB:=aj4;have axy:=aj5;clear aj4 aj5;clear ho hb hg hat));go_roundg MO
        case measure=>have:=qj.out;have:=HJ2.out;omega
        case rel=>exact⟨(arD),(OJ),(by first|rfl|(simp;done)|(simp only[← WL] <;> (first|rfl|simp))|(simp[*];done)),H',⟨ZE⟩,⟨Ah⟩,⟨dN⟩⟩
   ·obtain rfl:=cu H;have axz:=EA (P:=Tryz.prog) Tryz.underlying100 Tryz.underlying5 Tryz.underlying9 (Kd.II ou.out);go_wp2;go_ret;exact⟨nG,dN⟩


def fZ.l0 : Nat→ByteArray→Int→List ByteArray→Int→Int→Option (List ByteArray)
 |0,_,_,_,_,_=>none
 |k+1,x0,x1,x5,x6,x7=>if x7≤(x0.size:Int) then(if x7=(x0.size:Int) then(if 0≤x6 then(if x6≤x7 then(if x5.length<8796093022208 then(fZ.l0 k x0 x1 (x5 ++ [x0.extract (x6:Int).toNat (x7:Int).toNat]) (wrap64 (x7+1)) (wrap64 (x7+1))) else(none)) else(none)) else(none)) else(if 0≤x7 then(if x7<(x0.size:Int) then(if(bt x0 x7)=x1 then(if 0≤x6 then(if x6≤x7 then(if x5.length<8796093022208 then(fZ.l0 k x0 x1 (x5 ++ [x0.extract (x6:Int).toNat (x7:Int).toNat]) (wrap64 (x7+1)) (wrap64 (x7+1))) else(none)) else(none)) else(none)) else(fZ.l0 k x0 x1 x5 x6 (wrap64 (x7+1)))) else(none)) else(none))) else(some x5)
def fZ.f (k:Nat) (a0:ByteArray) (a1:Int):Option (List ByteArray):=fZ.l0 k a0 a1 ([]:List ByteArray) 0 0
theorem fZ.calls (k:Nat) (a0:ByteArray) (a1:Int) (r:List ByteArray) (w:World) (h:fZ.f k a0 a1=some r) :
  Calls Tryz.prog 181 #[.string a0,.int .u8 a1] w fun e w'=>∃ PV:Value,e = .returned (PV)∧Kd.R Kd.string 9 w' w.heap.size (fun _=>True) PV r∧Below w.heap.size w w':=by
 have HB:=ae.mk (Below.refl w.heap.size w);have H:=h;clear h;unfold fZ.f at H;have H':=ae.mk H;clear H;go_enter Tryz.func181,Tryz.ntmps181;go_wp2;go_loopg [5,6,7] k (fun kq v5 v6 v7 w'=>∃(dJ:List ByteArray) (Ap:Int) (xD:Int),v6 = .int .i64 Ap∧v7 = .int .i64 xD∧ae (fZ.l0 kq a0 a1 dJ Ap xD=some r)∧ae (kq≤k)∧ae (Kd.R Kd.string 9 w' w.heap.size (fun _=>True) v5 dJ)∧ae (Below w.heap.size w w'))
 case atStart=>exact⟨(([]:List ByteArray)),(0),(0),fI,fI,H',⟨Nat.le_refl _⟩,⟨Ud⟩,⟨dN⟩⟩
 case round=>
  clear H';obtain⟨dJ,Ap,xD,rfl,rfl,HA,qj,yX,HB⟩:=hrel;cases gk with
  |zero=>exact absurd HA.out (by simp[fZ.l0])
  |succ k1=>
   have H:=HA.out;clear HA;simp only[fZ.l0] at H;replace H:=gI H;rcases H with⟨-,gM,-,H⟩|⟨-,gM,-,H⟩
   ·replace H:=gI H;rcases H with⟨c4,-,-,H⟩|⟨c4,-,-,H⟩
    ·obtain⟨mP,yH⟩:=rD c4;clear c4;replace H:=gN H;obtain⟨-,Al,qh,H⟩:=H;replace H:=gN H;obtain⟨-,yK,nW,H⟩:=H;have uR:=eq_true (bE gL:xD≤(a0.size:Int));replace H:=gN H;obtain⟨c8,-,-,H⟩:=H;have auv:=ae.mk c8;clear c8;obtain⟨arF,YZ⟩:∃ y_:List ByteArray,y_=(dJ ++ [a0.extract (Ap:Int).toNat (xD:Int).toNat]):=⟨_,rfl⟩;replace H:(fZ.l0 k1 a0 a1 arF (wrap64 (xD+1)) (wrap64 (xD+1)))=some r:=by first|(rw[YZ];with_reducible exact H)|(have rq:=(aj _ _).symm.trans H;rw[YZ];with_reducible exact rq)|(have rq:=(aj _ _).symm.trans H;with_reducible exact rq)|with_reducible exact H|(rw[YZ];exact H)|exact H
     have arG:=ae.mk YZ;clear YZ;have H':=ae.mk H;clear H;go_wp2_with(first|((with_reducible refine lJ (b:=.append) (xs:=#[.tmp 25,.tmp 30]) rfl ?_);at_builtin;refine Kd.rZ Kd.string (w0:=w) w.heap.size rfl (.tmp 25) (.tmp 30) 76 9 (.string ⟨#[]⟩) 16 rfl Tryz.underlying76 J6 rfl ak aa u5 dJ (a0.extract (Ap:Int).toNat (xD:Int).toNat) [.string (a0.extract (Ap:Int).toNat (xD:Int).toNat)] (fun _=>True) (fun _=>False) rfl rfl ?aP (fun _ hk=>hk.elim) ?aF ?aO ?aB ?aS ?aL ?_;(case aP=>exact rfl);(case aB=>exact dN);(case aF=>exact(fun _ _=>trivial));(case aO=>exact Ue);(case aS=>exact(bY dN));(case aL=>have:=auv.out;omega);intro azu w9 ho hb hg hat;rw[← arG.out] at ho;have o7:=ae.mk (hb);have qG:=ae.mk (ho);clear HB;clear yX;have HB:=o7;have axA:=qG;clear o7 qG;clear ho hb hg hat));go_roundg k1
     case measure=>have:=qj.out;omega
     case rel=>exact⟨(arF),(wrap64 (xD+1)),(wrap64 (xD+1)),fI,fI,H',⟨by have:=qj.out;omega⟩,⟨Ah⟩,⟨dN⟩⟩
    ·obtain⟨mP,yH⟩:=rO c4;replace H:=gN H;obtain⟨-,yS,-,H⟩:=H;replace H:=gN H;obtain⟨-,xA,-,H⟩:=H;replace H:=gI H;rcases H with⟨c13,-,-,H⟩|⟨c13,-,-,H⟩
     ·obtain⟨zP,H9⟩:=rD c13;clear c13;replace H:=gN H;obtain⟨-,U2,Ma,H⟩:=H;replace H:=gN H;obtain⟨-,LZ,Ew,H⟩:=H;have Ae:=eq_true (bE gL:xD≤(a0.size:Int));replace H:=gN H;obtain⟨c17,-,-,H⟩:=H;have aet:=ae.mk c17;clear c17;obtain⟨arH,Y0⟩:∃ y_:List ByteArray,y_=(dJ ++ [a0.extract (Ap:Int).toNat (xD:Int).toNat]):=⟨_,rfl⟩;replace H:(fZ.l0 k1 a0 a1 arH (wrap64 (xD+1)) (wrap64 (xD+1)))=some r:=by first|(rw[Y0];with_reducible exact H)|(have rq:=(aj _ _).symm.trans H;rw[Y0];with_reducible exact rq)|(have rq:=(aj _ _).symm.trans H;with_reducible exact rq)|with_reducible exact H|(rw[Y0];exact H)|exact H
      have arI:=ae.mk Y0;clear Y0;have H':=ae.mk H;clear H;have Vk:0≤(xD:Int):=bE gL;have Vl:xD<(a0.size:Int):=bE gL;have acP:=gV a0 xD;replace Vk:=eq_true Vk;replace Vl:=eq_true Vl;go_wp2_with(first|((with_reducible refine lJ (b:=.append) (xs:=#[.tmp 25,.tmp 30]) rfl ?_);at_builtin;refine Kd.rZ Kd.string (w0:=w) w.heap.size rfl (.tmp 25) (.tmp 30) 76 9 (.string ⟨#[]⟩) 16 rfl Tryz.underlying76 J6 rfl ak aa u5 dJ (a0.extract (Ap:Int).toNat (xD:Int).toNat) [.string (a0.extract (Ap:Int).toNat (xD:Int).toNat)] (fun _=>True) (fun _=>False) rfl rfl ?aP (fun _ hk=>hk.elim) ?aF ?aO ?aB ?aS ?aL ?_;(case aP=>exact rfl);(case aB=>exact dN);(case aF=>exact(fun _ _=>trivial));(case aO=>exact Ue);(case aS=>exact(bY dN));(case aL=>have:=aet.out;omega);intro azv w18 ho hb hg hat;rw[← arI.out] at ho;have o7:=ae.mk (hb);have qG:=ae.mk (ho);clear HB;clear yX;have HB:=o7;have axB:=qG;clear o7 qG;clear ho hb hg hat));go_roundg k1
      case measure=>have:=qj.out;omega
      case rel=>exact⟨(arH),(wrap64 (xD+1)),(wrap64 (xD+1)),fI,fI,H',⟨by have:=qj.out;omega⟩,⟨Ah⟩,⟨dN⟩⟩
     ·obtain⟨zP,H9⟩:=rO c13;have H':=ae.mk H;clear H;have Vk:0≤(xD:Int):=bE gL;have Vl:xD<(a0.size:Int):=bE gL;have acP:=gV a0 xD;replace Vk:=eq_true Vk;replace Vl:=eq_true Vl;go_wp2;go_roundg k1
      case measure=>have:=qj.out;omega
      case rel=>exact⟨(dJ),(Ap),(wrap64 (xD+1)),fI,fI,H',⟨by have:=qj.out;omega⟩,⟨Ah⟩,⟨dN⟩⟩
   ·obtain rfl:=cu H;go_wp2;go_ret;exact⟨_,nG,Ah,dN⟩

theorem obE {A:Option Addr} {n c m d:Nat}:(Value.slice A n c).ownBlock=(Value.slice A m d).ownBlock:=by cases A <;> rfl
theorem Yo {α:Type} {d:Kd α} {e:Nat} {w:World} {base n m c c2:Nat} {A:Option Addr} {v:Value} {xs:List α} (h:d.R e w base (fun k=>some k≠(Value.slice A n c).ownBlock) v xs):d.R e w base (fun k=>some k≠(Value.slice A m c2).ownBlock) v xs:=
 Kd.lF h (fun k hk=>by rw[obE (m:=n) (d:=c)];exact hk)

mutual
def ay.j0 : Nat→ByteArray→Bool→Option (ByteArray)
 |0,_,_=>none
 |k+1,x0,x27=>if x27=true then(some (⟨#[]⟩:af)) else(ay.l0 k x0 0)
def ay.l0 : Nat→ByteArray→Int→Option (ByteArray)
 |0,_,_=>none
 |k+1,x0,x3=>if x3<(x0.size:Int) then(if 0≤x3 then(if(bt x0 x3)=35 then(some (⟨#[]⟩:af)) else(if(bt x0 x3)=63 then(some (⟨#[]⟩:af)) else(ay.l0 k x0 (wrap64 (x3+1))))) else(none)) else((bu.f k x0).bind fun Wl=>(if 1≤(Wl.size:Int) then((fZ.f k (Wl.extract 1 Wl.size) 47).bind fun Bl=>(ay.l1 k Bl ([]:List ByteArray) 0)) else(none)))
def ay.l1 : Nat→List ByteArray→List ByteArray→Int→Option (ByteArray)
 |0,_,_,_=>none
 |k+1,x4,x5,x6=>if x6<(x4.length:Int) then(if 0≤x6 then(if(cZ ByteArray.empty x4 x6).toList=([46]:List UInt8) then(ay.j3 k x4 x5 x6 true) else(ay.j3 k x4 x5 x6 ((cZ ByteArray.empty x4 x6).toList==([46,46]:List UInt8)))) else(none)) else(ay.l2 k x5 (⟨#[]⟩:af) 0)
def ay.j3 : Nat→List ByteArray→List ByteArray→Int→Bool→Option (ByteArray)
 |0,_,_,_,_=>none
 |k+1,x4,x5,x6,x7=>if 0≤x6 then(if x6<(x4.length:Int) then(if(cZ ByteArray.empty x4 x6).toList=([46,46]:List UInt8) then(ay.j4 k x4 x5 x6 x7 (decide ((x5.length:Int)>0))) else(ay.j4 k x4 x5 x6 x7 false)) else(none)) else(none)
def ay.j4 : Nat→List ByteArray→List ByteArray→Int→Bool→Bool→Option (ByteArray)
 |0,_,_,_,_,_=>none
 |k+1,x4,x5,x6,x7,x75=>if x75=true then(if 0≤(wrap64 ((x5.length:Int)-1)) then(if(wrap64 ((x5.length:Int)-1))≤(x5.length:Int) then(ay.j5 k x4 (x5.take ((wrap64 ((x5.length:Int)-1)):Int).toNat) x6 x7) else(none)) else(none)) else(ay.j5 k x4 x5 x6 x7)
def ay.j5 : Nat→List ByteArray→List ByteArray→Int→Bool→Option (ByteArray)
 |0,_,_,_,_=>none
 |k+1,x4,x5,x6,x7=>if x7=true then(if(wrap64 (x6+1))=(x4.length:Int) then(if x5.length<8796093022208 then(ay.l1 k x4 (x5 ++ [(⟨#[]⟩:af)]) (wrap64 (x6+1))) else(none)) else(ay.l1 k x4 x5 (wrap64 (x6+1)))) else(if 0≤x6 then(if x6<(x4.length:Int) then(if x5.length<8796093022208 then(ay.l1 k x4 (x5 ++ [cZ ByteArray.empty x4 x6]) (wrap64 (x6+1))) else(none)) else(none)) else(none))
def ay.l2 : Nat→List ByteArray→ByteArray→Int→Option (ByteArray)
 |0,_,_,_=>none
 |k+1,x5,x8,x9=>if x9<(x5.length:Int) then(if x8.size+1≤9223372036854775807 then(if 0≤x9 then(if(x8++(⟨#[47]⟩:af)).size+(cZ ByteArray.empty x5 x9).size≤9223372036854775807 then(ay.l2 k x5 ((x8++(⟨#[47]⟩:af))++(cZ ByteArray.empty x5 x9)) (wrap64 (x9+1))) else(none)) else(none)) else(none)) else(if x8.toList=([]:List UInt8) then(some (⟨#[47]⟩:af)) else(some x8))
end
def ay.f (k:Nat) (a0:ByteArray):Option (ByteArray):=if(a0.size:Int)=0 then(ay.j0 k a0 true) else(if(a0.size:Int)>200 then(ay.j0 k a0 true) else(if 0<(a0.size:Int) then(if(bt a0 0)=47 then((dC.f k a0).bind fun ain=>(ay.j0 k a0 (!ain))) else(ay.j0 k a0 true)) else(none)))
theorem ay.calls (k:Nat) (a0 r:ByteArray) (w:World) (h:ay.f k a0=some r) :
  Calls Tryz.prog 142 #[.string a0] w fun e w'=>e = .returned (.string r)∧Below w.heap.size w w':=by
 have HB:=ae.mk (Below.refl w.heap.size w);have H:=h;clear h;unfold ay.f at H;have xZ:=ae.mk H;clear H;go_enter Tryz.func142,Tryz.ntmps142;go_upto_region 1 with(fail);go_cut [27] (fun v27 wc=>∃(kq:Nat) (agh:Bool),v27 = .bool agh∧ae (ay.j0 kq a0 agh=some r)∧ae (kq≤k)∧ae (Below w.heap.size w wc))
 case first=>
  have H:=xZ.out;clear xZ;replace H:=gI H;rcases H with⟨c3,-,-,H⟩|⟨c3,-,-,H⟩
  ·obtain⟨gM,uX⟩:=rD c3;clear c3;(first|rw[gM]|(simp only[iE,jF];rw[gM])|skip)
   have H':=ae.mk H;clear H;go_wp2;go_meet
   case rel=>exact⟨_,(true),fI,H',⟨EC⟩,⟨dN⟩⟩
  ·obtain⟨gM,uX⟩:=rO c3;(first|rw[gM]|(simp only[iE,jF];rw[gM])|skip)
   replace H:=gI H;rcases H with⟨c4,-,-,H⟩|⟨c4,-,-,H⟩
   ·have mP:decide (200<(a0.size:Int))=true:=aT c4;have yH:decide (200<a0.size)=true:=aT aa;clear c4;have H':=ae.mk H;clear H;go_wp2;go_meet
    case rel=>exact⟨_,(true),fI,H',⟨EC⟩,⟨dN⟩⟩
   ·have mP:decide (200<(a0.size:Int))=false:=aN c4;have yH:decide (200<a0.size)=false:=aN aa;clear c4;replace H:=gN H;obtain⟨c5,qh,-,H⟩:=H;have Al:decide (0<a0.size)=true:=aT aa;clear c5;replace H:=gI H;rcases H with⟨c7,-,-,H⟩|⟨c7,-,-,H⟩
    ·obtain⟨uR,KS⟩:=rD c7;clear c7;replace H:=gD H;obtain⟨ain,A8,H⟩:=H;have H':=ae.mk H;clear H;have p6:0≤(0:Int):=aa;have q6:0<a0.size:=(by have:(0:Int)<(a0.size:Int):=bE gL;omega);have hx6:∀ h:0<a0.size,((a0[0]'h).toNat:Int)=bt a0 0:=gV a0 0;clear p6;have qi6:(0<(a0.size:Int))=True:=eq_true (bE gL);replace q6:=eq_true q6;go_wp2_with(first|(go_at_call 100;(with_reducible refine(dC.calls k a0 ain _ A8.out).mono ?_);rintro e w' ⟨rfl,⟨nd,rfl⟩⟩));go_meet
     case rel=>exact⟨_,(!ain),fI,H',⟨EC⟩,⟨dN⟩⟩
    ·obtain⟨uR,KS⟩:=rO c7;have H':=ae.mk H;clear H;have p6:0≤(0:Int):=aa;have q6:0<a0.size:=(by have:(0:Int)<(a0.size:Int):=bE gL;omega);have hx6:∀ h:0<a0.size,((a0[0]'h).toNat:Int)=bt a0 0:=gV a0 0;clear p6;have qi6:(0<(a0.size:Int))=True:=eq_true (bE gL);replace q6:=eq_true q6;go_wp2;go_meet
     case rel=>exact⟨_,(true),fI,H',⟨EC⟩,⟨dN⟩⟩
 case rest=>
  clear xZ;obtain⟨kq,agh,rfl,HA,Bu,HB⟩:=hcut;cases kq with
  |zero=>exact absurd HA.out (by simp[ay.j0])
  |succ uY=>
   have H:=HA.out;clear HA;simp only[ay.j0] at H;replace H:=gB H;rcases H with⟨rfl,H⟩|⟨rfl,H⟩
   ·obtain rfl:=cu H;go_wp2;go_ret;exact⟨nG,dN⟩
   ·have H':=ae.mk H;clear H;go_wp2;go_loopg [3] uY (fun kq v3 w'=>∃(l8:Int),v3 = .int .i64 l8∧ae (ay.l0 kq a0 l8=some r)∧ae (kq≤uY)∧ae (Below w.heap.size w w'))
    case atStart=>exact⟨(0),fI,H',⟨Nat.le_refl _⟩,⟨dN⟩⟩
    case round=>
     clear H';obtain⟨l8,rfl,HA,Eo,HB⟩:=hrel;cases gk with
     |zero=>exact absurd HA.out (by simp[ay.l0])
     |succ k2=>
      have H:=HA.out;clear HA;simp only[ay.l0] at H;replace H:=gI H;rcases H with⟨-,yS,-,H⟩|⟨-,yS,-,H⟩
      ·replace H:=gN H;obtain⟨-,xA,-,H⟩:=H;replace H:=gI H;rcases H with⟨c13,-,-,H⟩|⟨c13,-,-,H⟩
       ·obtain⟨zP,H9⟩:=rD c13;clear c13;obtain rfl:=cu H;have Vk:0≤(l8:Int):=bE gL;have Vl:l8<(a0.size:Int):=bE gL;have acP:=gV a0 l8;replace Vk:=eq_true Vk;replace Vl:=eq_true Vl;go_wp2;go_ret;exact⟨nG,dN⟩
       ·obtain⟨zP,H9⟩:=rO c13;replace H:=gI H;rcases H with⟨c15,-,-,H⟩|⟨c15,-,-,H⟩
        ·obtain⟨Ew,LZ⟩:=rD c15;clear c15;obtain rfl:=cu H;have Vk:0≤(l8:Int):=bE gL;have Vl:l8<(a0.size:Int):=bE gL;have acP:=gV a0 l8;replace Vk:=eq_true Vk;replace Vl:=eq_true Vl;have p14:0≤(l8:Int):=bE gL;have q14:l8<(a0.size:Int):=bE gL;have auw:=gV a0 l8;replace p14:=eq_true p14;replace q14:=eq_true q14;go_wp2;go_ret;exact⟨nG,dN⟩
        ·obtain⟨Ew,LZ⟩:=rO c15;have H':=ae.mk H;clear H;have Vk:0≤(l8:Int):=bE gL;have Vl:l8<(a0.size:Int):=bE gL;have acP:=gV a0 l8;replace Vk:=eq_true Vk;replace Vl:=eq_true Vl;have p14:0≤(l8:Int):=bE gL;have q14:l8<(a0.size:Int):=bE gL;have auw:=gV a0 l8;replace p14:=eq_true p14;replace q14:=eq_true q14;go_wp2;go_roundg k2
         case measure=>have:=Bu.out;have:=Eo.out;omega
         case rel=>exact⟨(wrap64 (l8+1)),fI,H',⟨QE⟩,⟨dN⟩⟩
      ·replace H:=gD H;obtain⟨Wl,A16,H⟩:=H;replace H:=gI H;rcases H with⟨-,JQ,Bh,H⟩|⟨c17,-,-,H⟩
       ·replace H:=gD H;obtain⟨Bl,A18,H⟩:=H;have H':=ae.mk H;clear H;go_wp2_with(first|((with_reducible refine ag (f:=182) rfl ?_);refine aG (some 45) rfl rfl Tryz.func182 aK rfl #[.string a0] rfl eu ?_;(with_reducible refine(bu.calls k2 a0 Wl _ A16.out).mono ?_);rintro e w19 ⟨rfl,hb⟩;refine⟨_,rfl,?_⟩;replace HB:=dS hb;(try clear hb))|((with_reducible refine ag (f:=181) rfl ?_);refine aG (some 47) rfl rfl Tryz.func181 aK rfl #[.string (Wl.extract 1 Wl.size),.int .u8 47] rfl eu ?_;(with_reducible refine(fZ.calls k2 (Wl.extract 1 Wl.size) 47 Bl _ A18.out).mono ?_);rintro e w20 ⟨arJ,rfl,ho0,hb⟩;refine⟨_,rfl,?_⟩;have arK:=ae.mk (Kd.iT ho0 (bY dN));replace HB:=dS hb;(try clear hb);(try clear ho0)));go_loopg [5,6] k2 (fun kq v5 v6 w'=>∃(uZ:List ByteArray) (Ad:Int),v6 = .int .i64 Ad∧ae (ay.l1 kq Bl uZ Ad=some r)∧ae (kq≤k2)∧ae (Kd.R Kd.string 9 w' w.heap.size (fun k_=>some k_≠(v5:Value).ownBlock) arJ Bl)∧ae (Kd.R Kd.string 9 w' w.heap.size (fun k_=>some k_≠(arJ:Value).ownBlock) v5 uZ)∧ae (Below w.heap.size w w'))
        case atStart=>exact⟨(([]:List ByteArray)),(0),fI,H',⟨Nat.le_refl _⟩,⟨by(with_reducible repeat(first|apply Kd.dW|apply Kd.dU|apply Kd.ek));exact Kd.lF arK.out (fun _ hk=>(by simp[Value.ownBlock]))⟩,⟨Ud⟩,⟨dN⟩⟩
        case round=>
         clear H';try clear yS
         try clear c17
         try clear Bh
         try clear JQ
         obtain⟨uZ,Ad,rfl,HA,VR,Au,yX,HB⟩:=hrel;cases gk with
         |zero=>exact absurd HA.out (by simp[ay.l1])
         |succ k3=>
          have H:=HA.out;clear HA;simp only[ay.l1] at H;replace H:=gI H;rcases H with⟨-,Ey,-,H⟩|⟨-,Ey,-,H⟩
          ·have amD:=ae.mk H;clear H;obtain⟨aaJ,Y1,auy⟩:=Kd.iA Au.out;subst auy;go_upto_region 13 with(fail);go_cut [7] (fun v7 wc=>∃(kq:Nat) (Vn:Bool),v7 = .bool Vn∧ae (ay.j3 kq Bl uZ Ad Vn=some r)∧ae (kq≤k3)∧ae (Kd.R Kd.string 9 wc w.heap.size (fun k_=>some k_≠(u5:Value).ownBlock) (.slice aaJ Bl.length Y1) Bl)∧ae (Kd.R Kd.string 9 wc w.heap.size (fun k_=>some k_≠((.slice aaJ Bl.length Y1):Value).ownBlock) u5 uZ)∧ae (Below w.heap.size w wc))
           case first=>
            have H:=amD.out;clear amD;replace H:=gN H;obtain⟨-,H6,-,H⟩:=H;(first|rw[H6]|(simp only[iE,jF];rw[H6])|skip)
            replace H:=gI H;rcases H with⟨P7,-,-,H⟩|⟨P7,-,-,H⟩
            ·obtain⟨Fs,SV⟩:=rD P7;clear P7;have H':=ae.mk H;clear H;have aaK:0≤(Ad:Int):=bE gL;have aaL:Ad<(Bl.length:Int):=bE gL;obtain⟨aj6,e274,aio⟩:=Kd.iV (Kd.bC Au.out).2.2 Ad aaK aaL;cases e274
             replace aaK:=eq_true aaK;replace aaL:=eq_true aaL;go_wp2;go_meet
             case rel=>exact⟨_,(true),fI,H',⟨by have:=Bu.out;have:=Eo.out;have:=VR.out;first|omega|exact Nat.le_refl _⟩,⟨Ah⟩,⟨Ah⟩,⟨dN⟩⟩
            ·obtain⟨Fs,SV⟩:=rO P7;have H':=ae.mk H;clear H;have aaK:0≤(Ad:Int):=bE gL;have aaL:Ad<(Bl.length:Int):=bE gL;obtain⟨aj6,e274,aio⟩:=Kd.iV (Kd.bC Au.out).2.2 Ad aaK aaL;cases e274
             replace aaK:=eq_true aaK;replace aaL:=eq_true aaL;have amE:0≤(Ad:Int):=bE gL;have amF:Ad<(Bl.length:Int):=bE gL;obtain⟨arL,e275,asy⟩:=Kd.iV (Kd.bC Au.out).2.2 Ad amE amF;obtain rfl:aj6=arL:=(by injection e275);replace amE:=eq_true amE;replace amF:=eq_true amF;go_wp2;go_meet
             case rel=>exact⟨_,(((cZ ByteArray.empty Bl Ad).toList==([46,46]:List UInt8))),fI,H',⟨by have:=Bu.out;have:=Eo.out;have:=VR.out;first|omega|exact Nat.le_refl _⟩,⟨Ah⟩,⟨Ah⟩,⟨dN⟩⟩
           case rest=>
            clear amD;try clear yS
            try clear c17
            try clear Bh
            try clear JQ
            try clear Ey
            obtain⟨kq,Vn,rfl,HA,Ur,Au,yX,HB⟩:=hcut;cases kq with
            |zero=>exact absurd HA.out (by simp[ay.j3])
            |succ auz=>
             have H:=HA.out;clear HA;simp only[ay.j3] at H;have amG:=ae.mk H;clear H;go_upto_region 14 with(fail);go_cut [75] (fun v75 wc=>∃(kq:Nat) (aaM:Bool),v75 = .bool aaM∧ae (ay.j4 kq Bl uZ Ad Vn aaM=some r)∧ae (kq≤auz)∧ae (Kd.R Kd.string 9 wc w.heap.size (fun k_=>some k_≠(u5:Value).ownBlock) (.slice aaJ Bl.length Y1) Bl)∧ae (Kd.R Kd.string 9 wc w.heap.size (fun k_=>some k_≠((.slice aaJ Bl.length Y1):Value).ownBlock) u5 uZ)∧ae (Below w.heap.size w wc))
             case first=>
              have H:=amG.out;clear amG;replace H:=gN H;obtain⟨-,Oq,-,H⟩:=H;(first|rw[Oq]|(simp only[iE,jF];rw[Oq])|skip)
              replace H:=gN H;obtain⟨-,SA,-,H⟩:=H;replace H:=gI H;rcases H with⟨U5,-,-,H⟩|⟨U5,-,-,H⟩
              ·obtain⟨Ou,Ot⟩:=rD U5;clear U5;have H':=ae.mk H;clear H;have aaN:0≤(Ad:Int):=bE gL;have aaO:Ad<(Bl.length:Int):=bE gL;obtain⟨arM,amH,aip⟩:=Kd.iV (Kd.bC Au.out).2.2 Ad aaN aaO;cases amH
               replace aaN:=eq_true aaN;replace aaO:=eq_true aaO;obtain⟨acR,aaP,amI⟩:=Kd.iA yX.out;subst amI;go_wp2;go_meet
               case rel=>exact⟨_,(decide ((uZ.length:Int)>0)),fI,H',⟨by have:=Bu.out;have:=Eo.out;have:=VR.out;have:=Ur.out;first|omega|exact Nat.le_refl _⟩,⟨Ah⟩,⟨Ah⟩,⟨dN⟩⟩
              ·obtain⟨Ou,Ot⟩:=rO U5;have H':=ae.mk H;clear H;have aaN:0≤(Ad:Int):=bE gL;have aaO:Ad<(Bl.length:Int):=bE gL;obtain⟨arM,amH,aip⟩:=Kd.iV (Kd.bC Au.out).2.2 Ad aaN aaO;cases amH
               replace aaN:=eq_true aaN;replace aaO:=eq_true aaO;go_wp2;go_meet
               case rel=>exact⟨_,(false),fI,H',⟨by have:=Bu.out;have:=Eo.out;have:=VR.out;have:=Ur.out;first|omega|exact Nat.le_refl _⟩,⟨Ah⟩,⟨Ah⟩,⟨dN⟩⟩
             case rest=>
              clear amG;try clear yS
              try clear c17
              try clear Bh
              try clear JQ
              try clear Ey
              obtain⟨kq,aaM,rfl,HA,Y2,Au,yX,HB⟩:=hcut;cases kq with
              |zero=>exact absurd HA.out (by simp[ay.j4])
              |succ arN=>
               have H:=HA.out;clear HA;simp only[ay.j4] at H;have amJ:=ae.mk H;clear H;go_upto_if 75 with(fail);go_cut [5] (fun v5 wc=>∃(kq:Nat) (Qi:List ByteArray),ae (ay.j5 kq Bl Qi Ad Vn=some r)∧ae (kq≤arN)∧ae (Kd.R Kd.string 9 wc w.heap.size (fun k_=>some k_≠(v5:Value).ownBlock) (.slice aaJ Bl.length Y1) Bl)∧ae (Kd.R Kd.string 9 wc w.heap.size (fun k_=>some k_≠((.slice aaJ Bl.length Y1):Value).ownBlock) v5 Qi)∧ae (Below w.heap.size w wc))
               case first=>
                have H:=amJ.out;clear amJ;replace H:=gB H;rcases H with⟨rfl,H⟩|⟨rfl,H⟩
                ·obtain⟨acS,agi⟩:∃ j_:Int,(wrap64 ((uZ.length:Int)-1))=j_:=⟨_,rfl⟩;(first|rw[agi] at H|simp only[agi] at H ⊢)
                 have auA:(IntKind.i64.wrap ((uZ.length:Int)-1))=acS:=(iE _).trans agi;replace H:=gN H;obtain⟨-,XL,XM,H⟩:=H;replace H:=gN H;obtain⟨-,Yb,Ya,H⟩:=H;obtain⟨amK,Y3⟩:∃ y_:List ByteArray,y_=(uZ.take ((acS):Int).toNat):=⟨_,rfl⟩;replace H:(ay.j5 arN Bl amK Ad Vn)=some r:=by first|(rw[Y3];with_reducible exact H)|(have rq:=(aj _ _).symm.trans H;rw[Y3];with_reducible exact rq)|(have rq:=(aj _ _).symm.trans H;with_reducible exact rq)|with_reducible exact H|(rw[Y3];exact H)|exact H
                 have aj7:=ae.mk Y3;clear Y3;have H':=ae.mk H;clear H;obtain⟨ah2,ah3,aaB⟩:=Kd.iA yX.out;subst aaB;have q37:((acS):Int)≤((uZ.length:Int):Int):=bE gL;obtain⟨azw,aj8,_,arO,_⟩:=info_parts J6;have amL:=ac6 (P:=Tryz.prog) 76 9 .i64 Tryz.underlying76 aj8 ah2 uZ.length ah3 (acS) (bE gL) q37 (Kd.bC yX.out).2.1;have aiq:=Kd.ac8 (m:=((acS):Int).toNat) yX.out aa;have arP:amK.length=((acS):Int).toNat:=(by rw[aj7.out,List.length_take];omega);rw[← aj7.out] at aiq;rw[← arP] at aiq amL;clear arP aj8 arO yX;have axC:=ae.mk aiq;clear aiq;replace q37:=eq_true q37;go_wp2;go_meet
                 case rel=>exact⟨_,(amK),H',⟨by have:=Bu.out;have:=Eo.out;have:=VR.out;have:=Ur.out;have:=Y2.out;first|omega|exact Nat.le_refl _⟩,⟨by first|exact Ah|exact Yo (ae.out (by assumption))⟩,⟨by first|exact Ah|exact Yo (ae.out (by assumption))⟩,⟨dN⟩⟩
                ·have H':=ae.mk H;clear H;go_wp2;go_meet
                 case rel=>exact⟨_,(uZ),H',⟨by have:=Bu.out;have:=Eo.out;have:=VR.out;have:=Ur.out;have:=Y2.out;first|omega|exact Nat.le_refl _⟩,⟨by first|exact Ah|exact Yo (ae.out (by assumption))⟩,⟨by first|exact Ah|exact Yo (ae.out (by assumption))⟩,⟨dN⟩⟩
               case rest=>
                clear amJ;try clear yS
                try clear c17
                try clear Bh
                try clear JQ
                try clear Ey
                obtain⟨kq,Qi,HA,acT,Au,yX,HB⟩:=hcut;cases kq with
                |zero=>exact absurd HA.out (by simp[ay.j5])
                |succ agj=>
                 have H:=HA.out;clear HA;simp only[ay.j5] at H;replace H:=gB H;rcases H with⟨rfl,H⟩|⟨rfl,H⟩
                 ·replace H:=gI H;rcases H with⟨QM,-,-,H⟩|⟨QM,-,-,H⟩
                  ·obtain⟨JU,Ml⟩:=rD QM;clear QM;replace H:=gN H;obtain⟨c40,-,-,H⟩:=H;have Yt:=ae.mk c40;clear c40;obtain⟨arQ,Y4⟩:∃ y_:List ByteArray,y_=(Qi ++ [(⟨#[]⟩:af)]):=⟨_,rfl⟩;replace H:(ay.l1 agj Bl arQ (wrap64 (Ad+1)))=some r:=by first|(rw[Y4];with_reducible exact H)|(have rq:=(aj _ _).symm.trans H;rw[Y4];with_reducible exact rq)|(have rq:=(aj _ _).symm.trans H;with_reducible exact rq)|with_reducible exact H|(rw[Y4];exact H)|exact H
                   have arR:=ae.mk Y4;clear Y4;have H':=ae.mk H;clear H;go_wp2_with(first|((with_reducible refine lJ (b:=.append) (xs:=#[.tmp 95,.tmp 96]) rfl ?_);(try(refine uz (by rfl) ?_;dsimp only));at_builtin;refine Kd.rZ Kd.string (w0:=w) w.heap.size rfl (.tmp 95) (.tmp 96) 76 9 (.string ⟨#[]⟩) 16 rfl Tryz.underlying76 J6 rfl ak aa u5 Qi (⟨#[]⟩:af) [.string (⟨#[]⟩:af)] (fun k_=>some k_≠(.slice aaJ Bl.length Y1:Value).ownBlock) (fun _=>False) rfl rfl ?aP (fun _ hk=>hk.elim) ?aF ?aO ?aB ?aS ?aL ?_;(case aP=>exact rfl);(case aB=>exact dN);(case aF=>exact(fun k_ hk=>Kd.fresh' (Kd.sQ WK) k_ hk));(case aO=>exact Ue);(case aS=>exact(bY dN));(case aL=>have:=Yt.out;omega);intro azx w41 ho hb hg hat;rw[← arR.out] at ho;have o7:=ae.mk (Kd.EO (ok:=(fun _=>True)) adl hg hat);have qG:=ae.mk (hb);have Bi:=ae.mk (ho);clear Au;clear HB;clear yX;have Au:=o7;have HB:=qG;have axD:=Bi;clear o7 qG Bi;clear ho hb hg hat));go_roundg agj
                   case measure=>have:=Bu.out;have:=Eo.out;have:=VR.out;have:=Ur.out;have:=Y2.out;have:=acT.out;omega
                   case rel=>exact⟨(arQ),(wrap64 (Ad+1)),fI,H',⟨by have:=Bu.out;have:=Eo.out;have:=VR.out;have:=Ur.out;have:=Y2.out;have:=acT.out;omega⟩,⟨by(with_reducible repeat(first|apply Kd.dW|apply Kd.dU|apply Kd.ek));exact Kd.lF Au.out (fun _ hk=>hk.2)⟩,⟨Ah⟩,⟨dN⟩⟩
                  ·obtain⟨JU,Ml⟩:=rO QM;have H':=ae.mk H;clear H;go_wp2;go_roundg agj
                   case measure=>have:=Bu.out;have:=Eo.out;have:=VR.out;have:=Ur.out;have:=Y2.out;have:=acT.out;omega
                   case rel=>exact⟨(Qi),(wrap64 (Ad+1)),fI,H',⟨by have:=Bu.out;have:=Eo.out;have:=VR.out;have:=Ur.out;have:=Y2.out;have:=acT.out;omega⟩,⟨Ah⟩,⟨Ah⟩,⟨dN⟩⟩
                 ·replace H:=gN H;obtain⟨-,ajF,-,H⟩:=H;replace H:=gN H;obtain⟨-,ajV,-,H⟩:=H;replace H:=gN H;obtain⟨c44,-,-,H⟩:=H;have arS:=ae.mk c44;clear c44;obtain⟨arT,Y5⟩:∃ y_:List ByteArray,y_=(Qi ++ [cZ ByteArray.empty Bl Ad]):=⟨_,rfl⟩;replace H:(ay.l1 agj Bl arT (wrap64 (Ad+1)))=some r:=by first|(rw[Y5];with_reducible exact H)|(have rq:=(aj _ _).symm.trans H;rw[Y5];with_reducible exact rq)|(have rq:=(aj _ _).symm.trans H;with_reducible exact rq)|with_reducible exact H|(rw[Y5];exact H)|exact H
                  have arU:=ae.mk Y5;clear Y5;have H':=ae.mk H;clear H;have amM:0≤(Ad:Int):=bE gL;have amN:Ad<(Bl.length:Int):=bE gL;obtain⟨arV,e283,asz⟩:=Kd.iV (Kd.bC Au.out).2.2 Ad amM amN;cases e283
                  replace amM:=eq_true amM;replace amN:=eq_true amN;go_wp2_with(first|((with_reducible refine lJ (b:=.append) (xs:=#[.tmp 83,.tmp 88]) rfl ?_);(try(refine uz (by rfl) ?_;dsimp only));at_builtin;refine Kd.rZ Kd.string (w0:=w) w.heap.size rfl (.tmp 83) (.tmp 88) 76 9 (.string ⟨#[]⟩) 16 rfl Tryz.underlying76 J6 rfl ak aa u5 Qi (cZ ByteArray.empty Bl Ad) [.string (cZ ByteArray.empty Bl Ad)] (fun k_=>some k_≠(.slice (some arV) Bl.length Y1:Value).ownBlock) (fun _=>False) rfl rfl ?aP (fun _ hk=>hk.elim) ?aF ?aO ?aB ?aS ?aL ?_;(case aP=>exact rfl);(case aB=>exact dN);(case aF=>exact(fun k_ hk=>Kd.fresh' (Kd.sQ WK) k_ hk));(case aO=>exact Ue);(case aS=>exact(bY dN));(case aL=>have:=arS.out;omega);intro azy w45 ho hb hg hat;rw[← arU.out] at ho;have o7:=ae.mk (Kd.EO (ok:=(fun _=>True)) adl hg hat);have qG:=ae.mk (hb);have Bi:=ae.mk (ho);clear Au;clear HB;clear yX;have Au:=o7;have HB:=qG;have axE:=Bi;clear o7 qG Bi;clear ho hb hg hat));go_roundg agj
                  case measure=>have:=Bu.out;have:=Eo.out;have:=VR.out;have:=Ur.out;have:=Y2.out;have:=acT.out;omega
                  case rel=>exact⟨(arT),(wrap64 (Ad+1)),fI,H',⟨by have:=Bu.out;have:=Eo.out;have:=VR.out;have:=Ur.out;have:=Y2.out;have:=acT.out;omega⟩,⟨by(with_reducible repeat(first|apply Kd.dW|apply Kd.dU|apply Kd.ek));exact Kd.lF Au.out (fun _ hk=>hk.2)⟩,⟨Ah⟩,⟨dN⟩⟩
          ·have H':=ae.mk H;clear H;obtain⟨azz,azA,auB⟩:=Kd.iA Au.out;subst auB;go_wp2;go_loopg [8,9] k3 (fun kq v8 v9 w'=>∃(aaQ:ByteArray) (Us:Int),v8 = .string aaQ∧v9 = .int .i64 Us∧ae (ay.l2 kq uZ aaQ Us=some r)∧ae (kq≤k3)∧ae (Kd.R Kd.string 9 w' w.heap.size (fun _=>True) u5 uZ)∧ae (Below w.heap.size w w'))
           case atStart=>exact⟨((⟨#[]⟩:af)),(0),fI,fI,H',⟨Nat.le_refl _⟩,⟨by(with_reducible repeat(first|apply Kd.dW|apply Kd.dU|apply Kd.ek));exact Kd.lF yX.out (fun _ hk=>trivial)⟩,⟨dN⟩⟩
           case round=>
            clear H';try clear yS
            try clear c17
            try clear Bh
            try clear JQ
            try clear Ey
            obtain⟨aaQ,Us,rfl,rfl,HA,HK4,yX,HB⟩:=hrel;cases gk with
            |zero=>exact absurd HA.out (by simp[ay.l2])
            |succ k4=>
             have H:=HA.out;clear HA;simp only[ay.l2] at H;replace H:=gI H;rcases H with⟨-,H7,-,H⟩|⟨-,H7,-,H⟩
             ·replace H:=gN H;obtain⟨c48,arc,ard,H⟩:=H;try have axF:(9223372036854775807<aaQ.size+1)=False:=eq_false (Nat.not_lt.2 c48)
              replace H:=gN H;obtain⟨-,arf,-,H⟩:=H;replace H:=gN H;obtain⟨c50,aj9,aka,H⟩:=H;try have axG:(9223372036854775807<(aaQ++(⟨#[47]⟩:af)).size+(cZ ByteArray.empty uZ Us).size)=False:=eq_false (Nat.not_lt.2 c50)
              try have axH:(9223372036854775807<aaQ.size+1+(cZ ByteArray.empty uZ Us).size)=False:=by have h_:=c50;simp only[ByteArray.size_append] at h_;exact eq_false (Nat.not_lt.2 h_)
              have H':=ae.mk H;clear H;obtain⟨azB,azC,auC⟩:=Kd.iA yX.out;subst auC;have amO:0≤(Us:Int):=bE gL;have amP:Us<(uZ.length:Int):=bE gL;obtain⟨axI,e287,asA⟩:=Kd.iV (Kd.bC yX.out).2.2 Us amO amP;cases e287
              replace amO:=eq_true amO;replace amP:=eq_true amP;go_wp2;go_roundg k4
              case measure=>have:=Bu.out;have:=Eo.out;have:=VR.out;have:=HK4.out;omega
              case rel=>exact⟨((aaQ++(⟨#[47]⟩:af))++(cZ ByteArray.empty uZ Us)),(wrap64 (Us+1)),fI,fI,H',⟨by have:=Bu.out;have:=Eo.out;have:=VR.out;have:=HK4.out;omega⟩,⟨Ah⟩,⟨dN⟩⟩
             ·replace H:=gI H;rcases H with⟨c52,-,-,H⟩|⟨c52,-,-,H⟩
              ·obtain⟨agk,agl⟩:=rD c52;clear c52;obtain rfl:=cu H;obtain⟨azD,azE,auD⟩:=Kd.iA yX.out;subst auD;go_wp2;go_ret;exact⟨nG,dN⟩
              ·obtain⟨agk,agl⟩:=rO c52;obtain rfl:=cu H;obtain⟨aqe,aqf,ah8⟩:=Kd.iA yX.out;subst ah8;go_wp2;go_ret;exact⟨nG,dN⟩
       ·exact absurd H (by simp)

end Go.Proofs.YtfhllanhldbkkaaGreatDoor.P
