import Derived.Test.YtfhllanhldbkkaaGreatDoorPx0
import Derived.Test.YtfhllanhldbkkaaGreatDoorPximpl05b
import Derived.Test.YtfhllanhldbkkaaGreatDoorPximpl06d
import Derived.Test.YtfhllanhldbkkaaGreatDoorPxliba
import Derived.Test.YtfhllanhldbkkaaGreatDoorWC
import Derived.Test.YtfhllanhldbkkaaGreatDoorPximpl01a
namespace Go.Proofs.YtfhllanhldbkkaaGreatDoor.P
set_option maxHeartbeats 8000000
set_option maxRecDepth 100000
open Go.RowKit Go.Proofs.YtfhllanhldbkkaaGreatDoorW.ax Go.Proofs.YtfhllanhldbkkaaGreatDoorW.aD Go.Proofs.YtfhllanhldbkkaaGreatDoorW.aH
attribute [local go_sem] nZ oh qI qJ mq mr om oo   -- for this text's walks alone
set_option linter.unusedVariables false
set_option linter.unusedSimpArgs false
theorem obE {A:Option Addr} {n c m d:Nat}:(Value.slice A n c).ownBlock=(Value.slice A m d).ownBlock:=by cases A <;> rfl
theorem Yo {α:Type} {d:Kd α} {e:Nat} {w:World} {base n m c c2:Nat} {A:Option Addr} {v:Value} {xs:List α} (h:d.R e w base (fun k=>some k≠(Value.slice A n c).ownBlock) v xs):d.R e w base (fun k=>some k≠(Value.slice A m c2).ownBlock) v xs:=
 Kd.lF h (fun k hk=>by rw[obE (m:=n) (d:=c)];exact hk)

mutual
def bF.j0 : Nat→ByteArray→Bool→Option (ByteArray)
 |0,_,_=>none
 |k+1,x0,x24=>if x24=true then(some (⟨#[]⟩:af)) else((aV.f k x0).bind fun V7=>(if 1≤(V7.size:Int) then((strings_Split.f (V7.extract 1 V7.size) (⟨#[47]⟩:af)).bind fun yY=>(bF.l0 k ([]:List ByteArray) yY yY (yY.length:Int) 0)) else(none)))
def bF.l0 : Nat→List ByteArray→List ByteArray→List ByteArray→Int→Int→Option (ByteArray)
 |0,_,_,_,_,_=>none
 |k+1,x3,x4,x29,x30,x31=>if x31<x30 then(if 0≤x31 then(if x31<(x29.length:Int) then(if(cZ ByteArray.empty x29 x31).toList=([46]:List UInt8) then(bF.l0 k x3 x4 x29 x30 (wrap64 (x31+1))) else(if(cZ ByteArray.empty x29 x31).toList=([46,46]:List UInt8) then(if 0≤(mx 0 (wrap64 ((x3.length:Int)-1))) then(if(mx 0 (wrap64 ((x3.length:Int)-1)))≤(x3.length:Int) then(bF.l0 k (x3.take ((mx 0 (wrap64 ((x3.length:Int)-1))):Int).toNat) x4 x29 x30 (wrap64 (x31+1))) else(none)) else(none)) else(if x3.length<8796093022208 then(bF.l0 k (x3 ++ [cZ ByteArray.empty x29 x31]) x4 x29 x30 (wrap64 (x31+1))) else(none)))) else(none)) else(none)) else(if 0≤(wrap64 ((x4.length:Int)-1)) then(if(wrap64 ((x4.length:Int)-1))<(x4.length:Int) then(if(cZ ByteArray.empty x4 (wrap64 ((x4.length:Int)-1))).toList=([46]:List UInt8) then(if x3.length<8796093022208 then((strings_Join.f (x3 ++ [(⟨#[]⟩:af)]) (⟨#[47]⟩:af)).bind fun Yp=>(if 1+Yp.size≤9223372036854775807 then(some ((⟨#[47]⟩:af)++Yp)) else(none))) else(none)) else(if(cZ ByteArray.empty x4 (wrap64 ((x4.length:Int)-1))).toList=([46,46]:List UInt8) then(if x3.length<8796093022208 then((strings_Join.f (x3 ++ [(⟨#[]⟩:af)]) (⟨#[47]⟩:af)).bind fun Yq=>(if 1+Yq.size≤9223372036854775807 then(some ((⟨#[47]⟩:af)++Yq)) else(none))) else(none)) else((strings_Join.f x3 (⟨#[47]⟩:af)).bind fun afE=>(if 1+afE.size≤9223372036854775807 then(some ((⟨#[47]⟩:af)++afE)) else(none))))) else(none)) else(none))
end
def bF.f (k:Nat) (a0:ByteArray):Option (ByteArray):=(strings_HasPrefix.f a0 (⟨#[47]⟩:af)).bind fun aqh=>(if aqh=true then(if(a0.size:Int)>200 then(bF.j0 k a0 true) else((bq.f k a0).bind fun aqi=>(if aqi=true then((strings_ContainsAny.f a0 (⟨#[35,63]⟩:af)).bind fun ah9=>(bF.j0 k a0 ah9)) else(bF.j0 k a0 true)))) else(bF.j0 k a0 true))
theorem bF.e0 {p:Prop} (h:p:=by
  have H':=ae.mk H
  clear H
  go_wp2_with(first|((with_reducible refine ag (f:=194) rfl ?_);refine aG (some 9) rfl rfl Tryz.func194 aK rfl #[.string a0,.string (⟨#[47]⟩:af)] rfl eu ?_;(with_reducible refine(strings_HasPrefix.calls a0 (⟨#[47]⟩:af) false _ A3.out).mono ?_);rintro e w' ⟨rfl,⟨nd,rfl⟩⟩;refine⟨_,rfl,?_⟩)|((with_reducible refine ag (f:=194) rfl ?_);refine aG (some 9) rfl rfl Tryz.func194 aK rfl #[.string a0,.string (⟨#[47]⟩:af)] rfl eu ?_;(with_reducible refine(strings_HasPrefix.calls a0 (⟨#[47]⟩:af) true _ A3.out).mono ?_);rintro e w' ⟨rfl,⟨nd,rfl⟩⟩;refine⟨_,rfl,?_⟩)|(go_at_call 107;(with_reducible refine(bq.calls k a0  false _ A6.out).mono ?_);rintro e w' ⟨rfl,⟨nd,rfl⟩⟩))
  go_meet
  case rel=>exact⟨_,(true),fI,H',⟨EC⟩,⟨dN⟩⟩):p:=h
theorem bF.e1 {p:Prop} (h:p:=by
  obtain rfl:=cu H
  have aaF:0≤((aaG):Int):=bE gL
  have aaH:(aaG)<(yY.length:Int):=bE gL
  obtain⟨Yr,amc,aia⟩:=Kd.iV (Kd.bC Au.out).2.2 (aaG) aaF aaH
  cases amc
  replace aaF:=eq_true aaF
  replace aaH:=eq_true aaH
  go_wp2_with(first|((with_reducible refine lJ (b:=.append) (xs:=#[.tmp 63,.tmp 64]) rfl ?_);(try(refine uz (by rfl) ?_;dsimp only));at_builtin;refine Kd.rZ Kd.string (w0:=w) w.heap.size rfl (.tmp 63) (.tmp 64) 76 9 (.string ⟨#[]⟩) 16 rfl Tryz.underlying76 J6 rfl ak aa u3 l8 (⟨#[]⟩:af) [.string (⟨#[]⟩:af)] (fun k_=>some k_≠(.slice (some Yr) yY.length Uq:Value).ownBlock∧some k_≠(.slice (some Yr) yY.length Uq:Value).ownBlock) (fun _=>False) rfl rfl ?aP (fun _ hk=>hk.elim) ?aF ?aO ?aB ?aS ?aL ?_;(case aP=>exact rfl);(case aB=>exact dN);(case aF=>exact(fun k_ hk=>⟨Kd.fresh' (Kd.sQ WK) k_ hk,Kd.fresh' (Kd.sQ acp) k_ hk⟩));(case aO=>exact UC);(case aS=>exact(bY dN));(case aL=>have:=Yt.out;omega);intro azc zO ho hb hg hat;rw[← aqj.out] at ho;have Yu:=ae.mk (Kd.EO (ok:=(fun _=>True)) adl hg hat);have Yv:=ae.mk (Kd.EO (ok:=(fun _=>True)) (by(with_reducible repeat(first|apply Kd.dW|apply Kd.dU|apply Kd.ek));exact Kd.lF ER.out (fun _ hk=>⟨trivial,hk⟩)) hg hat);have Yw:=ae.mk (hb);have ajJ:=ae.mk (ho);clear Au;clear ER;clear HB;clear ou;have Au:=Yu;have ER:=Yv;have HB:=Yw;have Yx:=ajJ;clear Yu Yv Yw ajJ;clear ho hb hg hat;obtain⟨at0,at1,at5⟩:=Kd.iA Yx.out;subst at5)|((with_reducible refine ag (f:=169) rfl ?_);refine aG (some 67) rfl rfl Tryz.func169 aK rfl #[.slice at0 amd.length at1,.string (⟨#[47]⟩:af)] rfl eu ?_;(with_reducible refine(strings_Join.calls _ _ amd (⟨#[47]⟩:af) Yq _ ?bM ?bN A41.out).mono ?_);(case bM=>repeat(first|exact(Kd.bC Yx.out).2.2|(with_reducible refine Kd.aZ ?_ _)|(with_reducible refine Kd.bf ?_ _)|(with_reducible refine Kd.bP ?_)));(case bN=>exact(Kd.bC Yx.out).2.1);rintro e Fq ⟨rfl,hb⟩;refine⟨_,rfl,?_⟩;replace Au:=ae.mk (Kd.dF WK hb);replace ER:=ae.mk (Kd.dF acp hb);replace Yx:=ae.mk (Kd.dF (by(with_reducible repeat(first|apply Kd.dW|apply Kd.dU|apply Kd.ek));exact Yx.out) hb);replace HB:=dS hb;(try clear hb);(try clear hb2);(try clear hk);(try clear hi))|((with_reducible refine lJ (b:=.append) (xs:=#[.tmp 63,.tmp 64]) rfl ?_);(try(refine uz (by rfl) ?_;dsimp only));at_builtin;refine Kd.rZ Kd.string (w0:=w) w.heap.size rfl (.tmp 63) (.tmp 64) 76 9 (.string ⟨#[]⟩) 16 rfl Tryz.underlying76 J6 rfl ak aa u3 l8 (⟨#[]⟩:af) [.string (⟨#[]⟩:af)] (fun k_=>some k_≠(.slice (some Yr) yY.length Uq:Value).ownBlock∧some k_≠(.slice (some Yr) yY.length Uq:Value).ownBlock) (fun _=>False) rfl rfl ?aP (fun _ hk=>hk.elim) ?aF ?aO ?aB ?aS ?aL ?_;(case aP=>exact rfl);(case aB=>exact dN);(case aF=>exact(fun k_ hk=>⟨Kd.fresh' (Kd.sQ WK) k_ hk,Kd.fresh' (Kd.sQ acp) k_ hk⟩));(case aO=>exact UC);(case aS=>exact(bY dN));(case aL=>have:=aqk.out;omega);intro azd pU ho hb hg hat;rw[← aql.out] at ho;have zR:=ae.mk (Kd.EO (ok:=(fun _=>True)) adl hg hat);have KY:=ae.mk (Kd.EO (ok:=(fun _=>True)) (by(with_reducible repeat(first|apply Kd.dW|apply Kd.dU|apply Kd.ek));exact Kd.lF ER.out (fun _ hk=>⟨trivial,hk⟩)) hg hat);have Yy:=ae.mk (hb);have ajK:=ae.mk (ho);clear Au;clear ER;clear HB;clear ou;have Au:=zR;have ER:=KY;have HB:=Yy;have Yz:=ajK;clear zR KY Yy ajK;clear ho hb hg hat;obtain⟨ao3,ao4,ahX⟩:=Kd.iA Yz.out;subst ahX)|((with_reducible refine ag (f:=169) rfl ?_);refine aG (some 67) rfl rfl Tryz.func169 aK rfl #[.slice ao3 ame.length ao4,.string (⟨#[47]⟩:af)] rfl eu ?_;(with_reducible refine(strings_Join.calls _ _ ame (⟨#[47]⟩:af) Yp _ ?bM ?bN A34.out).mono ?_);(case bM=>repeat(first|exact(Kd.bC Yz.out).2.2|(with_reducible refine Kd.aZ ?_ _)|(with_reducible refine Kd.bf ?_ _)|(with_reducible refine Kd.bP ?_)));(case bN=>exact(Kd.bC Yz.out).2.1);rintro e Aa ⟨rfl,hb⟩;refine⟨_,rfl,?_⟩;replace Au:=ae.mk (Kd.dF WK hb);replace ER:=ae.mk (Kd.dF acp hb);replace Yz:=ae.mk (Kd.dF (by(with_reducible repeat(first|apply Kd.dW|apply Kd.dU|apply Kd.ek));exact Yz.out) hb);replace HB:=dS hb;(try clear hb);(try clear hb2);(try clear hk);(try clear hi)))
  go_ret
  exact⟨by first|rfl|(simp[jy,jA] <;> rfl)|(simp only[← YA];first|rfl|(simp[jy,jA] <;> rfl))|(simp[*,jy,jA] <;> rfl),dN⟩):p:=h
theorem bF.calls (k:Nat) (a0 r:ByteArray) (w:World) (h:bF.f k a0=some r) :
  Calls Tryz.prog 152 #[.string a0] w fun e w'=>e = .returned (.string r)∧Below w.heap.size w w':=by
 have HB:=ae.mk (Below.refl w.heap.size w);have H:=h;clear h;unfold bF.f at H;have xZ:=ae.mk H;clear H;go_enter Tryz.func152,Tryz.ntmps152;go_upto_region 1 with(fail);go_cut [24] (fun v24 wc=>∃(kq:Nat) (afF:Bool),v24 = .bool afF∧ae (bF.j0 kq a0 afF=some r)∧ae (kq≤k)∧ae (Below w.heap.size w wc))
 case first=>
  have H:=xZ.out;clear xZ;replace H:=gD H;obtain⟨aqh,A3,H⟩:=H;replace H:=gB H;rcases H with⟨rfl,H⟩|⟨rfl,H⟩
  ·replace H:=gI H;rcases H with⟨c5,-,-,H⟩|⟨c5,-,-,H⟩
   ·have qh:decide (200<(a0.size:Int))=true:=aT c5;have Al:decide (200<a0.size)=true:=aT aa;clear c5;(first|rw[qh]|(simp only[iE,jF];rw[qh])|skip)
    exact bF.e0
   ·have qh:decide (200<(a0.size:Int))=false:=aN c5;have Al:decide (200<a0.size)=false:=aN aa;clear c5;(first|rw[qh]|(simp only[iE,jF];rw[qh])|skip)
    replace H:=gD H;obtain⟨aqi,A6,H⟩:=H;replace H:=gB H;rcases H with⟨rfl,H⟩|⟨rfl,H⟩
    ·replace H:=gD H;obtain⟨ah9,A8,H⟩:=H;have H':=ae.mk H;clear H;go_wp2_with(first|((with_reducible refine ag (f:=194) rfl ?_);refine aG (some 9) rfl rfl Tryz.func194 aK rfl #[.string a0,.string (⟨#[47]⟩:af)] rfl eu ?_;(with_reducible refine(strings_HasPrefix.calls a0 (⟨#[47]⟩:af) true _ A3.out).mono ?_);rintro e w' ⟨rfl,⟨nd,rfl⟩⟩;refine⟨_,rfl,?_⟩)|(go_at_call 107;(with_reducible refine(bq.calls k a0  true _ A6.out).mono ?_);rintro e w' ⟨rfl,⟨nd,rfl⟩⟩)|(go_at_call 195;(with_reducible refine(strings_ContainsAny.calls a0 (⟨#[35,63]⟩:af) ah9 _ A8.out).mono ?_);rintro e jm ⟨rfl,hb⟩;replace HB:=dS hb;(try clear hb)));go_meet
     case rel=>exact⟨_,(ah9),fI,H',⟨EC⟩,⟨dN⟩⟩
    ·exact bF.e0
  ·exact bF.e0
 case rest=>
  clear xZ;obtain⟨kq,afF,rfl,HA,Bu,HB⟩:=hcut;cases kq with
  |zero=>exact absurd HA.out (by simp[bF.j0])
  |succ uY=>
   have H:=HA.out;clear HA;simp only[bF.j0] at H;replace H:=gB H;rcases H with⟨rfl,H⟩|⟨rfl,H⟩
   ·obtain rfl:=cu H;go_wp2;go_ret;exact⟨nG,dN⟩
   ·replace H:=gD H;obtain⟨V7,UG,H⟩:=H;replace H:=gI H;rcases H with⟨-,KZ,wO,H⟩|⟨c12,-,-,H⟩
    ·replace H:=gD H;obtain⟨yY,QF,H⟩:=H;have H':=ae.mk H;clear H;go_wp2_with(first|((with_reducible refine ag (f:=197) rfl ?_);refine aG (some 26) rfl rfl Tryz.func197 aK rfl #[.string a0] rfl eu ?_;(with_reducible refine(aV.calls uY a0 V7 _ UG.out).mono ?_);rintro e w14 ⟨rfl,hb⟩;refine⟨_,rfl,?_⟩;replace HB:=dS hb;(try clear hb))|((with_reducible refine ag (f:=196) rfl ?_);refine aG (some 28) rfl rfl Tryz.func196 aK rfl #[.string (V7.extract 1 V7.size),.string (⟨#[47]⟩:af)] rfl eu ?_;(with_reducible refine(strings_Split.calls (V7.extract 1 V7.size) (⟨#[47]⟩:af) yY _ QF.out).mono ?_);rintro e w15 ⟨aze,rfl,ho0,hb⟩;refine⟨_,rfl,?_⟩;have afG:=ae.mk (Kd.iT ho0 (bY dN));replace HB:=dS hb;(try clear hb);(try clear ho0);obtain⟨aib,Uq,at6⟩:=Kd.iA afG.out;subst at6));go_loopg [3,31] uY (fun kq v3 v31 w'=>∃(l8:List ByteArray) (Cj:Int),v31 = .int .i64 Cj∧ae (bF.l0 kq l8 yY yY (yY.length:Int) Cj=some r)∧ae (kq≤uY)∧ae (Kd.R Kd.string 9 w' w.heap.size (fun k_=>some k_≠((.slice aib yY.length Uq):Value).ownBlock∧some k_≠((.slice aib yY.length Uq):Value).ownBlock) v3 l8)∧ae (Kd.R Kd.string 9 w' w.heap.size (fun k_=>some k_≠(v3:Value).ownBlock) (.slice aib yY.length Uq) yY)∧ae (Kd.R Kd.string 9 w' w.heap.size (fun k_=>some k_≠(v3:Value).ownBlock) (.slice aib yY.length Uq) yY)∧ae (Below w.heap.size w w'))
     case atStart=>exact⟨(([]:List ByteArray)),(0),fI,H',⟨Nat.le_refl _⟩,⟨Ud⟩,⟨by(with_reducible repeat(first|apply Kd.dW|apply Kd.dU|apply Kd.ek));exact Kd.lF afG.out (fun _ hk=>(by simp[Value.ownBlock]))⟩,⟨by(with_reducible repeat(first|apply Kd.dW|apply Kd.dU|apply Kd.ek));exact Kd.lF afG.out (fun _ hk=>(by simp[Value.ownBlock]))⟩,⟨dN⟩⟩
     case round=>
      clear H';try clear c12
      try clear wO
      try clear KZ
      obtain⟨l8,Cj,rfl,HA,Eo,ou,Au,ER,HB⟩:=hrel;cases gk with
      |zero=>exact absurd HA.out (by simp[bF.l0])
      |succ k2=>
       have H:=HA.out;clear HA;simp only[bF.l0] at H;replace H:=gI H;rcases H with⟨-,Bh,-,H⟩|⟨-,Bh,-,H⟩
       ·replace H:=gN H;obtain⟨-,Sy,-,H⟩:=H;replace H:=gN H;obtain⟨-,Mc,-,H⟩:=H;replace H:=gI H;rcases H with⟨c20,-,-,H⟩|⟨c20,-,-,H⟩
        ·obtain⟨Ex,Oo⟩:=rD c20;clear c20;have H':=ae.mk H;clear H;have Ta:0≤(Cj:Int):=bE gL;have Tc:Cj<(yY.length:Int):=bE gL;obtain⟨abO,afH,abP⟩:=Kd.iV (Kd.bC ER.out).2.2 Cj Ta Tc;cases afH
         replace Ta:=eq_true Ta;replace Tc:=eq_true Tc;go_wp2;go_roundg k2
         case measure=>have:=Bu.out;have:=Eo.out;omega
         case rel=>exact⟨(l8),(wrap64 (Cj+1)),fI,H',⟨QE⟩,⟨Ah⟩,⟨Ah⟩,⟨Ah⟩,⟨dN⟩⟩
        ·obtain⟨Ex,Oo⟩:=rO c20;replace H:=gI H;rcases H with⟨c21,-,-,H⟩|⟨c21,-,-,H⟩
         ·obtain⟨Ey,L8⟩:=rD c21;clear c21;obtain⟨acK,afI⟩:∃ j_:Int,(mx 0 (wrap64 ((l8.length:Int)-1)))=j_:=⟨_,rfl⟩;(first|rw[afI] at H|simp only[afI] at H ⊢)
          have at7:(if 0<(wrap64 ((l8.length:Int)-1)) then(wrap64 ((l8.length:Int)-1)) else 0)=acK:=afI;replace H:=gN H;obtain⟨-,U7,SE,H⟩:=H;replace H:=gN H;obtain⟨-,SX,H6,H⟩:=H;obtain⟨amf,YB⟩:∃ y_:List ByteArray,y_=(l8.take ((acK):Int).toNat):=⟨_,rfl⟩;replace H:(bF.l0 k2 amf yY yY (yY.length:Int) (wrap64 (Cj+1)))=some r:=by first|(rw[YB];with_reducible exact H)|(have rq:=(aj _ _).symm.trans H;rw[YB];with_reducible exact rq)|(have rq:=(aj _ _).symm.trans H;with_reducible exact rq)|with_reducible exact H|(rw[YB];exact H)|exact H
          have ajL:=ae.mk YB;clear YB;have H':=ae.mk H;clear H;have Ta:0≤(Cj:Int):=bE gL;have Tc:Cj<(yY.length:Int):=bE gL;obtain⟨abO,afH,abP⟩:=Kd.iV (Kd.bC ER.out).2.2 Cj Ta Tc;cases afH
          replace Ta:=eq_true Ta;replace Tc:=eq_true Tc;obtain⟨aqm,aqn,amg⟩:=Kd.iA ou.out;subst amg;have q26:((acK):Int)≤((l8.length:Int):Int):=bE gL;obtain⟨azf,ajM,_,aqo,_⟩:=info_parts J6;have amh:=ac6 (P:=Tryz.prog) 76 9 .i64 Tryz.underlying76 ajM aqm l8.length aqn (acK) (bE gL) q26 (Kd.bC ou.out).2.1;have aic:=Kd.ac8 (m:=((acK):Int).toNat) ou.out aa;have aqp:amf.length=((acK):Int).toNat:=(by rw[ajL.out,List.length_take];omega);rw[← ajL.out] at aic;rw[← aqp] at aic amh;clear aqp ajM aqo ou;have awP:=ae.mk aic;clear aic;replace q26:=eq_true q26;go_wp2;go_roundg k2
          case measure=>have:=Bu.out;have:=Eo.out;omega
          case rel=>exact⟨(amf),(wrap64 (Cj+1)),fI,H',⟨QE⟩,⟨by first|exact Ah|exact Yo (ae.out (by assumption))⟩,⟨by first|exact Ah|exact Yo (ae.out (by assumption))⟩,⟨by first|exact Ah|exact Yo (ae.out (by assumption))⟩,⟨dN⟩⟩
         ·obtain⟨Ey,L8⟩:=rO c21;replace H:=gN H;obtain⟨c27,-,-,H⟩:=H;have aqr:=ae.mk c27;clear c27;obtain⟨aqs,YC⟩:∃ y_:List ByteArray,y_=(l8 ++ [cZ ByteArray.empty yY Cj]):=⟨_,rfl⟩;replace H:(bF.l0 k2 aqs yY yY (yY.length:Int) (wrap64 (Cj+1)))=some r:=by first|(rw[YC];with_reducible exact H)|(have rq:=(aj _ _).symm.trans H;rw[YC];with_reducible exact rq)|(have rq:=(aj _ _).symm.trans H;with_reducible exact rq)|with_reducible exact H|(rw[YC];exact H)|exact H
          have aqt:=ae.mk YC;clear YC;have H':=ae.mk H;clear H;have Ta:0≤(Cj:Int):=bE gL;have Tc:Cj<(yY.length:Int):=bE gL;obtain⟨abO,afH,abP⟩:=Kd.iV (Kd.bC ER.out).2.2 Cj Ta Tc;cases afH
          replace Ta:=eq_true Ta;replace Tc:=eq_true Tc;go_wp2_with(((with_reducible refine lJ (b:=.append) (xs:=#[.tmp 36,.tmp 38]) rfl ?_);(try(refine uz (by rfl) ?_;dsimp only));at_builtin;refine Kd.rZ Kd.string (w0:=w) w.heap.size rfl (.tmp 36) (.tmp 38) 76 9 (.string ⟨#[]⟩) 16 rfl Tryz.underlying76 J6 rfl ak aa u3 l8 (cZ ByteArray.empty yY Cj) [.string (cZ ByteArray.empty yY Cj)] (fun k_=>some k_≠(.slice (some abO) yY.length Uq:Value).ownBlock∧some k_≠(.slice (some abO) yY.length Uq:Value).ownBlock) (fun _=>False) rfl rfl ?aP (fun _ hk=>hk.elim) ?aF ?aO ?aB ?aS ?aL ?_;(case aP=>exact rfl);(case aB=>exact dN);(case aF=>exact(fun k_ hk=>⟨Kd.fresh' (Kd.sQ WK) k_ hk,Kd.fresh' (Kd.sQ acp) k_ hk⟩));(case aO=>exact UC);(case aS=>exact(bY dN));(case aL=>have:=aqr.out;omega);intro azg ku ho hb hg hat;rw[← aqt.out] at ho;have KW:=ae.mk (Kd.EO (ok:=(fun _=>True)) adl hg hat);have KX:=ae.mk (Kd.EO (ok:=(fun _=>True)) (by(with_reducible repeat(first|apply Kd.dW|apply Kd.dU|apply Kd.ek));exact Kd.lF ER.out (fun _ hk=>⟨trivial,hk⟩)) hg hat);have YD:=ae.mk (hb);have ajN:=ae.mk (ho);clear Au;clear ER;clear HB;clear ou;have Au:=KW;have ER:=KX;have HB:=YD;have awQ:=ajN;clear KW KX YD ajN;clear ho hb hg hat));go_roundg k2
          case measure=>have:=Bu.out;have:=Eo.out;omega
          case rel=>exact⟨(aqs),(wrap64 (Cj+1)),fI,H',⟨QE⟩,⟨Ah⟩,⟨by(with_reducible repeat(first|apply Kd.dW|apply Kd.dU|apply Kd.ek));exact Kd.lF Au.out (fun _ hk=>hk.2)⟩,⟨by(with_reducible repeat(first|apply Kd.dW|apply Kd.dU|apply Kd.ek));exact Kd.lF ER.out (fun _ hk=>hk.2)⟩,⟨dN⟩⟩
       ·obtain⟨aaG,YA⟩:∃ j_:Int,(wrap64 ((yY.length:Int)-1))=j_:=⟨_,rfl⟩;(first|rw[YA] at H|simp only[YA] at H ⊢)
        have aua:(IntKind.i64.wrap ((yY.length:Int)-1))=aaG:=(iE _).trans YA;replace H:=gN H;obtain⟨-,YE,-,H⟩:=H;replace H:=gN H;obtain⟨-,aeP,-,H⟩:=H;replace H:=gI H;rcases H with⟨c32,-,-,H⟩|⟨c32,-,-,H⟩
        ·obtain⟨U6,XK⟩:=rD c32;clear c32;replace H:=gN H;obtain⟨c33,-,-,H⟩:=H;have aqk:=ae.mk c33;clear c33;obtain⟨ame,YF⟩:∃ y_:List ByteArray,y_=(l8 ++ [(⟨#[]⟩:af)]):=⟨_,rfl⟩;replace H:((strings_Join.f ame (⟨#[47]⟩:af)).bind fun Yp=>(if 1+Yp.size≤9223372036854775807 then(some ((⟨#[47]⟩:af)++Yp)) else(none)))=some r:=by first|(rw[YF];with_reducible exact H)|(have rq:=(aj _ _).symm.trans H;rw[YF];with_reducible exact rq)|(have rq:=(aj _ _).symm.trans H;with_reducible exact rq)|with_reducible exact H|(rw[YF];exact H)|exact H
         have aql:=ae.mk YF;clear YF;replace H:=gD H;obtain⟨Yp,A34,H⟩:=H;replace H:=gN H;obtain⟨c35,Yb,Ya,H⟩:=H;try have aqu:(9223372036854775807<1+Yp.size)=False:=eq_false (Nat.not_lt.2 c35)
         exact bF.e1
        ·obtain⟨U6,XK⟩:=rO c32;replace H:=gI H;rcases H with⟨QM,-,-,H⟩|⟨QM,-,-,H⟩
         ·obtain⟨JU,Ml⟩:=rD QM;clear QM;replace H:=gN H;obtain⟨c40,-,-,H⟩:=H;have Yt:=ae.mk c40;clear c40;obtain⟨amd,YG⟩:∃ y_:List ByteArray,y_=(l8 ++ [(⟨#[]⟩:af)]):=⟨_,rfl⟩;replace H:((strings_Join.f amd (⟨#[47]⟩:af)).bind fun Yq=>(if 1+Yq.size≤9223372036854775807 then(some ((⟨#[47]⟩:af)++Yq)) else(none)))=some r:=by first|(rw[YG];with_reducible exact H)|(have rq:=(aj _ _).symm.trans H;rw[YG];with_reducible exact rq)|(have rq:=(aj _ _).symm.trans H;with_reducible exact rq)|with_reducible exact H|(rw[YG];exact H)|exact H
          have aqj:=ae.mk YG;clear YG;replace H:=gD H;obtain⟨Yq,A41,H⟩:=H;replace H:=gN H;obtain⟨c42,awR,ajF,H⟩:=H;try have awS:(9223372036854775807<1+Yq.size)=False:=eq_false (Nat.not_lt.2 c42)
          exact bF.e1
         ·obtain⟨JU,Ml⟩:=rO QM;replace H:=gD H;obtain⟨afE,A46,H⟩:=H;replace H:=gN H;obtain⟨Zp,aa8,H7,H⟩:=H;try have awT:(9223372036854775807<1+afE.size)=False:=eq_false (Nat.not_lt.2 Zp)
          obtain rfl:=cu H;have aaF:0≤((aaG):Int):=bE gL;have aaH:(aaG)<(yY.length:Int):=bE gL;obtain⟨Yr,amc,aia⟩:=Kd.iV (Kd.bC Au.out).2.2 (aaG) aaF aaH;cases amc
          replace aaF:=eq_true aaF;replace aaH:=eq_true aaH;obtain⟨aub,auc,aud⟩:=Kd.iA ou.out;subst aud;go_wp2_with(((with_reducible refine ag (f:=169) rfl ?_);refine aG (some 67) rfl rfl Tryz.func169 aK rfl #[.slice aub l8.length auc,.string (⟨#[47]⟩:af)] rfl eu ?_;(with_reducible refine(strings_Join.calls _ _ l8 (⟨#[47]⟩:af) afE _ ?bM ?bN A46.out).mono ?_);(case bM=>repeat(first|exact(Kd.bC ou.out).2.2|(with_reducible refine Kd.aZ ?_ _)|(with_reducible refine Kd.bf ?_ _)|(with_reducible refine Kd.bP ?_)));(case bN=>exact(Kd.bC ou.out).2.1);rintro e Jv ⟨rfl,hb⟩;refine⟨_,rfl,?_⟩;replace ou:=ae.mk (Kd.dF UC hb);replace Au:=ae.mk (Kd.dF WK hb);replace ER:=ae.mk (Kd.dF acp hb);replace HB:=dS hb;(try clear hb)));go_ret;exact⟨by first|rfl|(simp[jy,jA] <;> rfl)|(simp only[← YA];first|rfl|(simp[jy,jA] <;> rfl))|(simp[*,jy,jA] <;> rfl),dN⟩
    ·exact absurd H (by simp)


def kI.f (a0:Int):Option (Bool):=(nC.f a0).bind fun aqv=>(if aqv=true then(some true) else((eZ.f a0).bind fun aqw=>(if aqw=true then(some true) else(if a0=45 then(some true) else(some (a0==46))))))
theorem kI.e0 {p:Prop} (h:p:=by
  obtain rfl:=cu H
  go_enter Tryz.func221,Tryz.ntmps221
  go_wp2_with(first|((with_reducible refine ag (f:=199) rfl ?_);refine aG (some 4) rfl rfl Tryz.func199 aK rfl #[.int .u8 a0] rfl eu ?_;(with_reducible refine(nC.calls a0 false _ A2.out).mono ?_);rintro e w' ⟨rfl,⟨nd,rfl⟩⟩;refine⟨_,rfl,?_⟩)|(go_at_call 166;(with_reducible refine(eZ.calls a0 false _ A4.out).mono ?_);rintro e w' ⟨rfl,⟨nd,rfl⟩⟩)|(go_at_call 166;(with_reducible refine(eZ.calls a0 true _ A4.out).mono ?_);rintro e w' ⟨rfl,⟨nd,rfl⟩⟩)|((with_reducible refine ag (f:=199) rfl ?_);refine aG (some 4) rfl rfl Tryz.func199 aK rfl #[.int .u8 a0] rfl eu ?_;(with_reducible refine(nC.calls a0 true _ A2.out).mono ?_);rintro e w' ⟨rfl,⟨nd,rfl⟩⟩;refine⟨_,rfl,?_⟩))
  go_ret
  exact⟨fI,lG⟩):p:=h
theorem kI.calls (a0:Int) (r:Bool) (w:World) (h:kI.f a0=some r) :
  Calls Tryz.prog 221 #[.int .u8 a0] w fun e w'=>e = .returned (.bool r)∧ed w w':=by
 have H:=h;clear h;unfold kI.f at H;replace H:=gD H;obtain⟨aqv,A2,H⟩:=H;replace H:=gB H;rcases H with⟨rfl,H⟩|⟨rfl,H⟩
 ·exact kI.e0
 ·replace H:=gD H;obtain⟨aqw,A4,H⟩:=H;replace H:=gB H;rcases H with⟨rfl,H⟩|⟨rfl,H⟩
  ·exact kI.e0
  ·replace H:=gI H;rcases H with⟨c6,-,-,H⟩|⟨c6,-,-,H⟩
   ·obtain⟨nW,yK⟩:=rD c6;clear c6;exact kI.e0
   ·obtain⟨nW,yK⟩:=rO c6;exact kI.e0

def dA.l0 : Nat→ByteArray→Int→Option (Bool)
 |0,_,_=>none
 |k+1,x0,x5=>if x5<(x0.size:Int) then(if 0≤x5 then((kI.f (bt x0 x5)).bind fun aqx=>(if aqx=true then(dA.l0 k x0 (wrap64 (x5+1))) else(some false))) else(none)) else(some true)
def dA.f (k:Nat) (a0:ByteArray)  : Option (Bool):=dA.l0 k a0 0
theorem dA.calls (k:Nat) (a0:ByteArray)  (r:Bool) (w:World) (h:dA.f k a0=some r) :
  Calls Tryz.prog 107 #[.string a0,.func (.func 221) #[] #[]] w fun e w'=>e = .returned (.bool r)∧ed w w':=by
 have H:=h;clear h;unfold dA.f at H;have H':=ae.mk H;clear H;go_enter Tryz.func107,Tryz.ntmps107;go_wp2;go_loopg [5] k (fun kq v5 w'=>∃(dJ:Int),v5 = .int .i64 dJ∧ae (dA.l0 kq a0 dJ=some r)∧ae (kq≤k)∧ed w w')
 case atStart=>exact⟨(0),fI,H',⟨Nat.le_refl _⟩,lG⟩
 case round=>
  clear H';obtain⟨dJ,rfl,HA,qj,⟨m1,rfl⟩⟩:=hrel;cases gk with
  |zero=>exact absurd HA.out (by simp[dA.l0])
  |succ k1=>
   have H:=HA.out;clear HA;simp only[dA.l0] at H;replace H:=gI H;rcases H with⟨-,gM,-,H⟩|⟨-,gM,-,H⟩
   ·replace H:=gN H;obtain⟨-,mP,-,H⟩:=H;replace H:=gD H;obtain⟨aqx,A6,H⟩:=H;replace H:=gB H;rcases H with⟨rfl,H⟩|⟨rfl,H⟩
    ·have H':=ae.mk H;clear H;have p5:0≤(dJ:Int):=bE gL;have q5:dJ<(a0.size:Int):=bE gL;have hx5:=gV a0 dJ;replace p5:=eq_true p5;replace q5:=eq_true q5;go_wp2_with((go_at_call 221;(with_reducible refine(kI.calls (bt a0 dJ) true _ A6.out).mono ?_);rintro e w' ⟨rfl,⟨nd,rfl⟩⟩));go_roundg k1
     case measure=>have:=qj.out;omega
     case rel=>exact⟨(wrap64 (dJ+1)),fI,H',⟨by have:=qj.out;omega⟩,lG⟩
    ·obtain rfl:=cu H;have p5:0≤(dJ:Int):=bE gL;have q5:dJ<(a0.size:Int):=bE gL;have hx5:=gV a0 dJ;replace p5:=eq_true p5;replace q5:=eq_true q5;go_wp2_with((go_at_call 221;(with_reducible refine(kI.calls (bt a0 dJ) false _ A6.out).mono ?_);rintro e w' ⟨rfl,⟨nd,rfl⟩⟩));go_ret;exact⟨fI,lG⟩
   ·obtain rfl:=cu H;go_wp2;go_ret;exact⟨fI,lG⟩

def iQ.j0 : Nat→ByteArray→Bool→Option (Bool)
 |0,_,_=>none
 |k+1,x0,x11=>if x11=true then(some false) else((strings_Split.f x0 (⟨#[46]⟩:af)).bind fun afJ=>((gH.f k afJ (⟨#[]⟩:af)).bind fun ami=>(some (!ami))))
def iQ.f (k:Nat) (a0:ByteArray):Option (Bool):=(dz.f (a0.size:Int) 1 60).bind fun aqy=>(if aqy=true then((dA.f k a0).bind fun aid=>(iQ.j0 k a0 (!aid))) else(iQ.j0 k a0 true))
theorem iQ.calls (k:Nat) (a0:ByteArray) (r:Bool) (w:World) (h:iQ.f k a0=some r) :
  Calls Tryz.prog 198 #[.string a0] w fun e w'=>e = .returned (.bool r)∧Below w.heap.size w w':=by
 have HB:=ae.mk (Below.refl w.heap.size w);have H:=h;clear h;unfold iQ.f at H;have xZ:=ae.mk H;clear H;go_enter Tryz.func198,Tryz.ntmps198;go_upto_region 1 with(fail);go_cut [11] (fun v11 wc=>∃(kq:Nat) (Td:Bool),v11 = .bool Td∧ae (iQ.j0 kq a0 Td=some r)∧ae (kq≤k)∧ae (Below w.heap.size w wc))
 case first=>
  have H:=xZ.out;clear xZ;replace H:=gD H;obtain⟨aqy,A3,H⟩:=H;replace H:=gB H;rcases H with⟨rfl,H⟩|⟨rfl,H⟩
  ·replace H:=gD H;obtain⟨aid,A5,H⟩:=H;have H':=ae.mk H;clear H;go_wp2_with(first|((with_reducible refine ag (f:=65) rfl ?_);refine aG (some 5) rfl rfl Tryz.func65 aK rfl #[.int .i64 (a0.size:Int),.int .i64 1,.int .i64 60] rfl eu ?_;(with_reducible refine(dz.calls (a0.size:Int) 1 60 true _ A3.out).mono ?_);rintro e w' ⟨rfl,⟨nd,rfl⟩⟩;refine⟨_,rfl,?_⟩)|(go_at_call 107;(with_reducible refine(dA.calls k a0  aid _ A5.out).mono ?_);rintro e w' ⟨rfl,⟨nd,rfl⟩⟩));go_meet
   case rel=>exact⟨_,(!aid),fI,H',⟨EC⟩,⟨dN⟩⟩
  ·have H':=ae.mk H;clear H;go_wp2_with(((with_reducible refine ag (f:=65) rfl ?_);refine aG (some 5) rfl rfl Tryz.func65 aK rfl #[.int .i64 (a0.size:Int),.int .i64 1,.int .i64 60] rfl eu ?_;(with_reducible refine(dz.calls (a0.size:Int) 1 60 false _ A3.out).mono ?_);rintro e w' ⟨rfl,⟨nd,rfl⟩⟩;refine⟨_,rfl,?_⟩));go_meet
   case rel=>exact⟨_,(true),fI,H',⟨EC⟩,⟨dN⟩⟩
 case rest=>
  clear xZ;obtain⟨kq,Td,rfl,HA,Bu,HB⟩:=hcut;cases kq with
  |zero=>exact absurd HA.out (by simp[iQ.j0])
  |succ uY=>
   have H:=HA.out;clear HA;simp only[iQ.j0] at H;replace H:=gB H;rcases H with⟨rfl,H⟩|⟨rfl,H⟩
   ·obtain rfl:=cu H;go_wp2;go_ret;exact⟨nG,dN⟩
   ·replace H:=gD H;obtain⟨afJ,A7,H⟩:=H;replace H:=gD H;obtain⟨ami,A8,H⟩:=H;obtain rfl:=cu H;go_wp2_with(first|((with_reducible refine ag (f:=196) rfl ?_);refine aG (some 13) rfl rfl Tryz.func196 aK rfl #[.string a0,.string (⟨#[46]⟩:af)] rfl eu ?_;(with_reducible refine(strings_Split.calls a0 (⟨#[46]⟩:af) afJ _ A7.out).mono ?_);rintro e jm ⟨azh,rfl,ho0,hb⟩;refine⟨_,rfl,?_⟩;have afK:=ae.mk (Kd.iT ho0 (bY dN));replace HB:=dS hb;(try clear hb);(try clear ho0);obtain⟨aqz,ad5,acw⟩:=Kd.iA afK.out;subst acw)|((with_reducible refine ag (f:=222) rfl ?_);refine aG (some 14) rfl rfl Tryz.func222 aK rfl #[.slice aqz afJ.length ad5,.string (⟨#[]⟩:af)] rfl eu ?_;(with_reducible refine(gH.calls uY _ _ afJ (⟨#[]⟩:af) ami _ ?bM ?bN A8.out).mono ?_);(case bM=>repeat(first|exact(Kd.bC afK.out).2.2|(with_reducible refine Kd.aZ ?_ _)|(with_reducible refine Kd.bf ?_ _)|(with_reducible refine Kd.bP ?_)));(case bN=>exact(Kd.bC afK.out).2.1);rintro e w' ⟨rfl,⟨nd,rfl⟩⟩;refine⟨_,rfl,?_⟩));go_ret;exact⟨nG,dN⟩

def mZ.f (aA:ByteArray) (aC:Int) (aI:ByteArray) (bD:ByteArray) (aU:Bool):Option (ByteArray):=if aC=80 then(some (⟨#[]⟩:af)) else((ig.f aC).bind fun afL=>(if 1+afL.size≤9223372036854775807 then(some ((⟨#[58]⟩:af)++afL)) else(none)))
theorem mZ.e0 {p:Prop} (h:p:=by
  obtain rfl:=cu H
  go_enter Tryz.func154,Tryz.ntmps154
  go_wp2_with(first|((with_reducible refine aY (N:=1) rfl ?_);refine jX #[.string aA,.int .i64 aC,.string aI,.string bD,.bool aU] 92 ?_;intro aqA hg jm hbox hb;have afM:=ae.mk (hbox);have awU:=jL hg;have awV:=jL hg;replace HB:=dS hb;clear hb hbox hg;obtain⟨_,_,_,_,_⟩:=mV afM;obtain⟨_,_,_,_,_⟩:=vz afM)|((with_reducible refine ag (f:=111) rfl ?_);refine aG (some 8) rfl rfl Tryz.func111 aK rfl #[.int .i64 aC] rfl eu ?_;(with_reducible refine(ig.calls aC afL _ A5.out ?hT).mono ?_);(case hT=>exact gJ HT);rintro e ku ⟨rfl,hb⟩;refine⟨_,rfl,?_⟩;replace afM:=iG (g:=aqA) hb;replace HB:=dS hb;(try clear hb);(try clear hb2);(try clear hk);(try clear hi)))
  go_ret
  exact⟨nG,dN⟩):p:=h
theorem mZ.calls (aA:ByteArray) (aC:Int) (aI bD:ByteArray) (aU:Bool) (r:ByteArray) (w:World) (h:mZ.f aA aC aI bD aU=some r) (HT0:pY w) :
  Calls Tryz.prog 154 #[.agg #[.string aA,.int .i64 aC,.string aI,.string bD,.bool aU]] w fun e w'=>e = .returned (.string r)∧Below w.heap.size w w':=by
 have HT:=ae.mk HT0;clear HT0;have Pp:=Tryz.underlying92;have HB:=ae.mk (Below.refl w.heap.size w);have H:=h;clear h;unfold mZ.f at H;replace H:=gI H;rcases H with⟨c2,-,-,H⟩|⟨c2,-,-,H⟩
 ·obtain⟨nk,wB⟩:=rD c2;clear c2;exact mZ.e0
 ·obtain⟨nk,wB⟩:=rO c2;replace H:=gD H;obtain⟨afL,A5,H⟩:=H;replace H:=gI H;rcases H with⟨c6,yK,nW,H⟩|⟨c6,-,-,H⟩
  ·try have afm:(9223372036854775807<1+afL.size)=False:=eq_false (Nat.not_lt.2 c6)
   exact mZ.e0
  ·exact absurd H (by simp)

def pG.f (aA:ByteArray) (aC:Int) (aI:ByteArray) (bD:ByteArray) (aU:Bool):Option (ByteArray):=if aU=true then(if aI.size+1≤9223372036854775807 then(if(aI++(⟨#[63]⟩:af)).size+bD.size≤9223372036854775807 then(some ((aI++(⟨#[63]⟩:af))++bD)) else(none)) else(none)) else(some aI)
theorem pG.e0 {p:Prop} (h:p:=by
  obtain rfl:=cu H
  go_enter Tryz.func155,Tryz.ntmps155
  go_wp2_with(first|((with_reducible refine aY (N:=1) rfl ?_);refine jX #[.string aA,.int .i64 aC,.string aI,.string bD,.bool false] 92 ?_;intro aqB hg ku hbox hb;have YH:=ae.mk (hbox);have aqC:=jL hg;have aqD:=jL hg;replace HB:=dS hb;clear hb hbox hg;obtain⟨_,_,_,_,_⟩:=mV YH;obtain⟨_,_,_,_,_⟩:=vz YH)|((with_reducible refine aY (N:=1) rfl ?_);refine jX #[.string aA,.int .i64 aC,.string aI,.string bD,.bool true] 92 ?_;intro aqB hg jm hbox hb;have YH:=ae.mk (hbox);have aqC:=jL hg;have aqD:=jL hg;replace HB:=dS hb;clear hb hbox hg;obtain⟨_,_,_,_,_⟩:=mV YH;obtain⟨_,_,_,_,_⟩:=vz YH))
  go_ret
  exact⟨nG,dN⟩):p:=h
theorem pG.calls (aA:ByteArray) (aC:Int) (aI bD:ByteArray) (aU:Bool) (r:ByteArray) (w:World) (h:pG.f aA aC aI bD aU=some r) :
  Calls Tryz.prog 155 #[.agg #[.string aA,.int .i64 aC,.string aI,.string bD,.bool aU]] w fun e w'=>e = .returned (.string r)∧Below w.heap.size w w':=by
 have Pp:=Tryz.underlying92;have HB:=ae.mk (Below.refl w.heap.size w);have H:=h;clear h;unfold pG.f at H;replace H:=gB H;rcases H with⟨rfl,H⟩|⟨rfl,H⟩
 ·replace H:=gN H;obtain⟨c3,uX,gM,H⟩:=H;try have Ui:(9223372036854775807<aI.size+1)=False:=eq_false (Nat.not_lt.2 c3)
  replace H:=gN H;obtain⟨c4,yH,mP,H⟩:=H;try have XE:(9223372036854775807<(aI++(⟨#[63]⟩:af)).size+bD.size)=False:=eq_false (Nat.not_lt.2 c4)
  try have amj:(9223372036854775807<aI.size+1+bD.size)=False:=by have h_:=c4;simp only[ByteArray.size_append] at h_;exact eq_false (Nat.not_lt.2 h_)
  exact pG.e0
 ·exact pG.e0


def iX.f (aA:ByteArray) (aC:Int) (aI:ByteArray) (bD:ByteArray) (aU:Bool):Option (ByteArray):=if 7+aA.size≤9223372036854775807 then((mZ.f aA aC aI bD aU).bind fun V8=>(if((⟨#[104,116,116,112,58,47,47]⟩:af)++aA).size+V8.size≤9223372036854775807 then((pG.f aA aC aI bD aU).bind fun acL=>(if(((⟨#[104,116,116,112,58,47,47]⟩:af)++aA)++V8).size+acL.size≤9223372036854775807 then(some ((((⟨#[104,116,116,112,58,47,47]⟩:af)++aA)++V8)++acL)) else(none))) else(none))) else(none)
def iX.T1 : Bool×List (List Nat×List Nat):=(true,[([],[]),([0],[0]),([1],[1]),([],[]),([3],[3]),([2,4],[2,4]),([],[]),([6,4],[6]),([5,7],[5,7]),([8,7,0,1,2,3,4,5,6,7,8],[8])])
def iX.B1 : List Nat:=[0,1,3,0,8,31,0,88,255,511]
theorem iX.FC : rP .any (opsOf Tryz.f105 1)=iX.T1:=by kernel_rfl
theorem iX.yI : kD iX.T1.2 iX.B1=true:=by kernel_rfl
theorem iX.calls (aA:ByteArray) (aC:Int) (aI bD:ByteArray) (aU:Bool) (r:ByteArray) (w:World) (h:iX.f aA aC aI bD aU=some r) (HT0:pY w) :
  Calls Tryz.prog 105 #[.agg #[.string aA,.int .i64 aC,.string aI,.string bD,.bool aU]] w fun e w'=>e = .returned (.string r)∧Below w.heap.size w w':=by
 have HT:=ae.mk HT0;clear HT0;have Pp:=Tryz.underlying92;have HB:=ae.mk (Below.refl w.heap.size w);have H:=h;clear h;unfold iX.f at H;replace H:=gI H;rcases H with⟨c2,wB,nk,H⟩|⟨c2,-,-,H⟩
 ·try have aeE:(9223372036854775807<7+aA.size)=False:=eq_false (Nat.not_lt.2 c2)
  replace H:=gD H;obtain⟨V8,A3,H⟩:=H;replace H:=gN H;obtain⟨c4,yH,mP,H⟩:=H;try have XE:(9223372036854775807<((⟨#[104,116,116,112,58,47,47]⟩:af)++aA).size+V8.size)=False:=eq_false (Nat.not_lt.2 c4)
  try have amj:(9223372036854775807<7+aA.size+V8.size)=False:=by have h_:=c4;simp only[ByteArray.size_append] at h_;exact eq_false (Nat.not_lt.2 h_)
  replace H:=gD H;obtain⟨acL,A5,H⟩:=H;replace H:=gN H;obtain⟨c6,yK,nW,H⟩:=H;try have afm:(9223372036854775807<(((⟨#[104,116,116,112,58,47,47]⟩:af)++aA)++V8).size+acL.size)=False:=eq_false (Nat.not_lt.2 c6)
  try have apv:(9223372036854775807<7+aA.size+V8.size+acL.size)=False:=by have h_:=c6;simp only[ByteArray.size_append] at h_;exact eq_false (Nat.not_lt.2 h_)
  obtain rfl:=cu H;go_enter Tryz.func105,Tryz.ntmps105;try go_wp2_with(((with_reducible refine aY (N:=1) rfl ?_);refine jX #[.string aA,.int .i64 aC,.string aI,.string bD,.bool aU] 92 ?_;intro Te hg jm hbox hb;have Qf:=ae.mk (hbox);have awW:=jL hg;replace HB:=dS hb;clear hb hbox hg))
  replace Qf:=ae.mk (bJ Qf.out);replace HB:=ae.mk (di HB.out);refine lL (n:=10) (S:=fun w'=>w'.cell? ⟨Te,0,none⟩=some (.string aA)∧w'.cell? ⟨Te,1,none⟩=some (.int .i64 aC)∧w'.cell? ⟨Te,2,none⟩=some (.string aI)∧w'.cell? ⟨Te,3,none⟩=some (.string bD)∧w'.cell? ⟨Te,4,none⟩=some (.bool aU)) (ds:=[]) (mV Qf) (fun hHeld=>?_);refine fu iX.FC iX.yI (fun HT_ HW_=>?_);generalize jm.drew=ku at Qf HB hHeld ⊢;repeat(first|refine nU ?_ (hy:=Or.inl ⟨by rfl,EP⟩)|refine fA ?_)
  refine iC 6 (some 9) (hy:=Or.inl ⟨by rfl,EP⟩) ?_;refine iM (fun K hK=>?_);refine dV Tryz.func154 aK rfl #[.agg #[.string aA,.int .i64 aC,.string aI,.string bD,.bool aU]] (by rfl) rfl rfl eu ?_;with_reducible refine(mZ.calls aA aC aI bD aU V8 _ A3.out ?hT).mono ?_
  case hT=>exact gJ HT
  rintro e pU ⟨rfl,hb⟩;refine⟨_,rfl,?_⟩;replace Qf:=iG (g:=Te) hb;replace HB:=dS hb;(try clear hb)
  refine hK.out _ _ (mV Qf) (fun hHeld=>?_);clear hK K;refine eP ?_;repeat(first|refine fA ?_)
  refine iM (fun K hK=>?_);refine dV Tryz.func155 aK rfl #[.agg #[.string aA,.int .i64 aC,.string aI,.string bD,.bool aU]] (by rfl) rfl rfl eu ?_;(with_reducible refine(pG.calls aA aC aI bD aU acL _ A5.out).mono ?_);rintro e pU ⟨rfl,hb⟩;refine⟨_,rfl,?_⟩;replace Qf:=iG (g:=Te) hb;replace HB:=dS hb;(try clear hb)
  refine hK.out _ _ (mV Qf) (fun hHeld=>?_);clear hK K;refine eP ?_;repeat(first|refine fA ?_)
  refine mW (iR HT_.out aK) ?_;try go_wp2
  go_ret;exact⟨nG,dN⟩
 ·exact absurd H (by simp)


def eG.j0 : Nat→Bool→ByteArray→Int→ByteArray→ByteArray→Bool→Option (Bool)
 |0,_,_,_,_,_,_=>none
 |k+1,x25,abQ,abR,abS,OE,V9=>if x25=true then(some false) else((bq.f k OE).bind fun aqE=>(if aqE=true then((strings_Contains.f OE (⟨#[35]⟩:af)).bind fun aqF=>(if aqF=true then(some false) else(if V9=true then((iX.f abQ abR abS OE V9).bind fun amk=>(some (decide ((amk.size:Int)≤200)))) else(if OE.toList=([]:List UInt8) then((iX.f abQ abR abS OE V9).bind fun aml=>(some (decide ((aml.size:Int)≤200)))) else(some false))))) else(some false)))
def eG.f (k:Nat) (aA:ByteArray) (aC:Int) (aI:ByteArray) (bD:ByteArray) (aU:Bool):Option (Bool):=(iQ.f k aA).bind fun aqG=>(if aqG=true then((dz.f aC 1 65535).bind fun aqH=>(if aqH=true then(if aI.toList=([]:List UInt8) then(eG.j0 k true aA aC aI bD aU) else((bF.f k aI).bind fun aie=>(eG.j0 k (aie.toList != aI.toList) aA aC aI bD aU))) else(eG.j0 k true aA aC aI bD aU))) else(eG.j0 k true aA aC aI bD aU))
def eG.T1 : Bool×List (List Nat×List Nat):=(true,[([],[]),([0],[0]),([1],[1]),([2],[2]),([3,2],[3]),([4],[4]),([5,4],[4,5]),([6,4,4],[4,6]),([7,4],[4,7]),([4,8],[4,8]),([9,7],[9]),([10],[10]),([11,10],[10,11]),([12,10],[10,12]),([10,13],[10,13]),([14,10],[14]),([15],[15]),([16,15],[15,16]),([17,15,15],[15,17]),([15],[15]),([19,15],[15,19]),([18,20,15],[15,18,20]),([15,21],[15,21])])
def eG.B1 : List Nat:=[0,1,3,7,15,31,63,127,255,511,1023,2047,4095,8191,16383,32767,65535,131071,262143,65535,589823,2097151,4194303]
theorem eG.FC : rP .any (opsOf Tryz.f153 1)=eG.T1:=by kernel_rfl
theorem eG.yI : kD eG.T1.2 eG.B1=true:=by kernel_rfl
theorem eG.e0 {p:Prop} (h:p:=by
  have H':=ae.mk H
  clear H
  try go_wp2
  replace yV:=ae.mk (bJ yV.out)
  replace HB:=ae.mk (di HB.out)
  refine lL (n:=23) (S:=fun w'=>w'.cell? ⟨Fv,0,none⟩=some (.string aA)∧w'.cell? ⟨Fv,1,none⟩=some (.int .i64 aC)∧w'.cell? ⟨Fv,2,none⟩=some (.string aI)∧w'.cell? ⟨Fv,3,none⟩=some (.string bD)∧w'.cell? ⟨Fv,4,none⟩=some (.bool aU)) (ds:=[]) (mV yV) (fun hHeld=>?_);refine fu eG.FC eG.yI (fun HT_ HW_=>?_)
  generalize w3.drew=jm at yV HB hHeld ⊢
  repeat(first|refine nU ?_ (hy:=Or.inl ⟨by rfl,EP⟩)|refine fA ?_|(refine iM (fun K hK=>?_);refine dV Tryz.func198 aK rfl #[.string aA] (by rfl) rfl rfl eu ?_;(with_reducible refine(iQ.calls k aA false _ A4.out).mono ?_);rintro e Aa ⟨rfl,hb⟩;refine⟨_,rfl,?_⟩;replace yV:=iG (g:=Fv) hb;replace HB:=dS hb;(try clear hb);refine hK.out _ _ (mV yV) (fun hHeld=>?_);clear hK K;refine eP ?_)|(refine iM (fun K hK=>?_);refine dV Tryz.func198 aK rfl #[.string aA] (by rfl) rfl rfl eu ?_;(with_reducible refine(iQ.calls k aA true _ A4.out).mono ?_);rintro e ku ⟨rfl,hb⟩;refine⟨_,rfl,?_⟩;replace yV:=iG (g:=Fv) hb;replace HB:=dS hb;(try clear hb);refine hK.out _ _ (mV yV) (fun hHeld=>?_);clear hK K;refine eP ?_)|(refine iM (fun K hK=>?_);refine dV Tryz.func65 aK rfl #[.int .i64 aC,.int .i64 1,.int .i64 65535] (by rfl) rfl rfl eu ?_;(with_reducible refine(dz.calls aC 1 65535 false _ A6.out).mono ?_);rintro e w' ⟨rfl,⟨nd,rfl⟩⟩;refine⟨_,rfl,?_⟩;refine hK.out _ _ (mV yV) (fun hHeld=>?_);clear hK K;refine eP ?_)|(refine iM (fun K hK=>?_);refine dV Tryz.func65 aK rfl #[.int .i64 aC,.int .i64 1,.int .i64 65535] (by rfl) rfl rfl eu ?_;(with_reducible refine(dz.calls aC 1 65535 true _ A6.out).mono ?_);rintro e w' ⟨rfl,⟨nd,rfl⟩⟩;refine⟨_,rfl,?_⟩;refine hK.out _ _ (mV yV) (fun hHeld=>?_);clear hK K;refine eP ?_))
  refine mW (iR HT_.out aK) ?_
  try go_wp2
  go_meet
  case rel=>exact⟨_,(true),fI,H',⟨EC⟩,⟨yg⟩,⟨dN⟩⟩):p:=h
theorem eG.e1 {p:Prop} (h:p:=by
  obtain rfl:=cu H
  obtain⟨_,_,_,_,_⟩:=mV yV
  obtain⟨_,_,_,_,_⟩:=vz yV
  go_wp2_with(first|((with_reducible refine ag (f:=107) rfl ?_);refine aG (some 28) rfl rfl Tryz.func107 aK rfl #[.string bD,.func (.func 109) #[] #[]] rfl eu ?_;(with_reducible refine(bq.calls uY bD  false _ A20.out).mono ?_);rintro e w' ⟨rfl,⟨nd,rfl⟩⟩;refine⟨_,rfl,?_⟩)|((with_reducible refine ag (f:=107) rfl ?_);refine aG (some 28) rfl rfl Tryz.func107 aK rfl #[.string bD,.func (.func 109) #[] #[]] rfl eu ?_;(with_reducible refine(bq.calls uY bD  true _ A20.out).mono ?_);rintro e w' ⟨rfl,⟨nd,rfl⟩⟩;refine⟨_,rfl,?_⟩)|(go_at_call 148;(with_reducible refine(strings_Contains.calls bD (⟨#[35]⟩:af) false _ A22.out ?hT).mono ?_);(case hT=>exact gJ HT);rintro e w' ⟨rfl,⟨nd,rfl⟩⟩)|((with_reducible refine ag (f:=105) rfl ?_);refine aG (some 46) rfl rfl Tryz.func105 aK rfl #[.agg #[.string aA,.int .i64 aC,.string aI,.string bD,.bool false]] rfl eu ?_;(with_reducible refine(iX.calls aA aC aI bD false aml _ A30.out ?hT).mono ?_);(case hT=>exact gJ HT);rintro e Fq ⟨rfl,hb⟩;refine⟨_,rfl,?_⟩;replace yV:=iG (g:=Fv) hb;replace HB:=dS hb;(try clear hb);(try clear hb2);(try clear hk);(try clear hi))|((with_reducible refine ag (f:=105) rfl ?_);refine aG (some 46) rfl rfl Tryz.func105 aK rfl #[.agg #[.string aA,.int .i64 aC,.string aI,.string bD,.bool true]] rfl eu ?_;(with_reducible refine(iX.calls aA aC aI bD true amk _ A26.out ?hT).mono ?_);(case hT=>exact gJ HT);rintro e zO ⟨rfl,hb⟩;refine⟨_,rfl,?_⟩;replace yV:=iG (g:=Fv) hb;replace HB:=dS hb;(try clear hb);(try clear hb2);(try clear hk);(try clear hi))|(go_at_call 148;(with_reducible refine(strings_Contains.calls bD (⟨#[35]⟩:af) true _ A22.out ?hT).mono ?_);(case hT=>exact gJ HT);rintro e w' ⟨rfl,⟨nd,rfl⟩⟩))
  go_ret
  exact⟨nG,dN⟩):p:=h
theorem eG.calls (k:Nat) (aA:ByteArray) (aC:Int) (aI bD:ByteArray) (aU r:Bool) (w:World) (h:eG.f k aA aC aI bD aU=some r) (HT0:pY w) :
  Calls Tryz.prog 153 #[.agg #[.string aA,.int .i64 aC,.string aI,.string bD,.bool aU]] w fun e w'=>e = .returned (.bool r)∧Below w.heap.size w w':=by
 have HT:=ae.mk HT0;clear HT0;have Pp:=Tryz.underlying92;have HB:=ae.mk (Below.refl w.heap.size w);have H:=h;clear h;unfold eG.f at H;have xZ:=ae.mk H;clear H;go_enter Tryz.func153,Tryz.ntmps153;go_upto_region 1 with(first|((with_reducible refine aY (N:=1) rfl ?_);refine jX #[.string aA,.int .i64 aC,.string aI,.string bD,.bool aU] 92 ?_;intro Fv hg w3 hbox hb;have yV:=ae.mk (hbox);have awX:=jL hg;replace HB:=dS hb;clear hb hbox hg));(try simp only[Act.put,List.setIfInBounds_toArray,List.set_cons_zero,List.set_cons_succ])
 go_cut [25] (fun v25 wc=>∃(kq:Nat) (afN:Bool),v25 = .bool afN∧ae (eG.j0 kq afN aA aC aI bD aU=some r)∧ae (kq≤k)∧ae (wc.heap[Fv]? = some (.cells #[.string aA,.int .i64 aC,.string aI,.string bD,.bool aU] 92 (0,0)))∧ae (Below w.heap.size w wc))
 case first=>
  have H:=xZ.out;clear xZ;replace H:=gD H;obtain⟨aqG,A4,H⟩:=H;replace H:=gB H;rcases H with⟨rfl,H⟩|⟨rfl,H⟩
  ·replace H:=gD H;obtain⟨aqH,A6,H⟩:=H;replace H:=gB H;rcases H with⟨rfl,H⟩|⟨rfl,H⟩
   ·replace H:=gI H;rcases H with⟨c8,-,-,H⟩|⟨c8,-,-,H⟩
    ·have tO:(aI.toList==([]:List UInt8))=true:=beq_iff_eq.mpr c8;have aaI:aI.toList.isEmpty=true:=List.isEmpty_iff.mpr c8;have Iu:(aI.toList != ([]:List UInt8))=false:=bne_eq_false_iff_eq.mpr c8;clear c8;(first|rw[tO]|rw[aaI]|(simp only[iE,jF];rw[tO])|skip)
     exact eG.e0
    ·have tO:(aI.toList==([]:List UInt8))=false:=beq_eq_false_iff_ne.mpr c8;have aaI:aI.toList.isEmpty=false:=Bool.eq_false_iff.mpr (fun h_=>c8 (List.isEmpty_iff.mp h_));have Iu:(aI.toList != ([]:List UInt8))=true:=bne_iff_ne.mpr c8;(first|rw[tO]|rw[aaI]|(simp only[iE,jF];rw[tO])|skip)
     replace H:=gD H;obtain⟨aie,UG,H⟩:=H;have H':=ae.mk H;clear H;try go_wp2
     replace yV:=ae.mk (bJ yV.out);replace HB:=ae.mk (di HB.out);refine lL (n:=23) (S:=fun w'=>w'.cell? ⟨Fv,0,none⟩=some (.string aA)∧w'.cell? ⟨Fv,1,none⟩=some (.int .i64 aC)∧w'.cell? ⟨Fv,2,none⟩=some (.string aI)∧w'.cell? ⟨Fv,3,none⟩=some (.string bD)∧w'.cell? ⟨Fv,4,none⟩=some (.bool aU)) (ds:=[]) (mV yV) (fun hHeld=>?_);refine fu eG.FC eG.yI (fun HT_ HW_=>?_);generalize w3.drew=jm at yV HB hHeld ⊢;repeat(first|refine nU ?_ (hy:=Or.inl ⟨by rfl,EP⟩)|refine fA ?_)
     refine iM (fun K hK=>?_);refine dV Tryz.func198 aK rfl #[.string aA] (by rfl) rfl rfl eu ?_;(with_reducible refine(iQ.calls k aA true _ A4.out).mono ?_);rintro e pU ⟨rfl,hb⟩;refine⟨_,rfl,?_⟩;replace yV:=iG (g:=Fv) hb;replace HB:=dS hb;(try clear hb)
     refine hK.out _ _ (mV yV) (fun hHeld=>?_);clear hK K;refine eP ?_;repeat(first|refine nU ?_ (hy:=Or.inl ⟨by rfl,EP⟩)|refine fA ?_)
     refine iM (fun K hK=>?_);refine dV Tryz.func65 aK rfl #[.int .i64 aC,.int .i64 1,.int .i64 65535] (by rfl) rfl rfl eu ?_;(with_reducible refine(dz.calls aC 1 65535 true _ A6.out).mono ?_);rintro e w' ⟨rfl,⟨nd,rfl⟩⟩;refine⟨_,rfl,?_⟩;refine hK.out _ _ (mV yV) (fun hHeld=>?_);clear hK K;refine eP ?_;repeat(first|refine nU ?_ (hy:=Or.inl ⟨by rfl,EP⟩)|refine fA ?_)
     refine dn 19 (some 22) ?_;refine iC 20 (some 23) (hy:=Or.inl ⟨by rfl,EP⟩) ?_;refine iM (fun K hK=>?_);refine dV Tryz.func152 aK rfl #[.string aI] (by rfl) rfl rfl eu ?_;(with_reducible refine(bF.calls k aI aie _ UG.out).mono ?_);rintro e pU ⟨rfl,hb⟩;refine⟨_,rfl,?_⟩;replace yV:=iG (g:=Fv) hb;replace HB:=dS hb;(try clear hb)
     refine hK.out _ _ (mV yV) (fun hHeld=>?_);clear hK K;refine eP ?_;repeat(first|refine fA ?_)
     refine mW (iR HT_.out aK) ?_;try go_wp2
     go_meet
     case rel=>exact⟨_,((aie.toList != aI.toList)),fI,H',⟨EC⟩,⟨yg⟩,⟨dN⟩⟩
   ·exact eG.e0
  ·exact eG.e0
 case rest=>
  clear xZ;obtain⟨kq,afN,rfl,HA,Bu,yV,HB⟩:=hcut;cases kq with
  |zero=>exact absurd HA.out (by simp[eG.j0])
  |succ uY=>
   have H:=HA.out;clear HA;simp only[eG.j0] at H;replace H:=gB H;rcases H with⟨rfl,H⟩|⟨rfl,H⟩
   ·obtain rfl:=cu H;go_wp2;go_ret;exact⟨nG,dN⟩
   ·replace H:=gD H;obtain⟨aqE,A20,H⟩:=H;replace H:=gB H;rcases H with⟨rfl,H⟩|⟨rfl,H⟩
    ·replace H:=gD H;obtain⟨aqF,A22,H⟩:=H;replace H:=gB H;rcases H with⟨rfl,H⟩|⟨rfl,H⟩
     ·exact eG.e1
     ·replace H:=gB H;rcases H with⟨rfl,H⟩|⟨rfl,H⟩
      ·replace H:=gD H;obtain⟨amk,A26,H⟩:=H;exact eG.e1
      ·replace H:=gI H;rcases H with⟨U5,-,-,H⟩|⟨U5,-,-,H⟩
       ·obtain⟨Ou,Ot⟩:=rD U5;clear U5;replace H:=gD H;obtain⟨aml,A30,H⟩:=H;exact eG.e1
       ·obtain⟨Ou,Ot⟩:=rO U5;exact eG.e1
    ·exact eG.e1

end Go.Proofs.YtfhllanhldbkkaaGreatDoor.P
