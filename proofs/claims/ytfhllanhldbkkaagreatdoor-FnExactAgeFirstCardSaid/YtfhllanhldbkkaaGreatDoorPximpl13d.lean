-- Written by a program of ours (myprint.py, by way of the kit's print) out of Lean's print of the translation.
import Derived.Test.YtfhllanhldbkkaaGreatDoorPx0
import Derived.Test.YtfhllanhldbkkaaGreatDoorPximpl01a
import Derived.Test.YtfhllanhldbkkaaGreatDoorPximpl07g
import Derived.Test.YtfhllanhldbkkaaGreatDoorPxliba
import Derived.Test.YtfhllanhldbkkaaGreatDoorWC
namespace Go.Proofs.YtfhllanhldbkkaaGreatDoor.P
open Go.RowKit Go.Proofs.YtfhllanhldbkkaaGreatDoorW.ax Go.Proofs.YtfhllanhldbkkaaGreatDoorW.aD Go.Proofs.YtfhllanhldbkkaaGreatDoorW.aH
attribute [local go_sem] nZ oh qI qJ mq mr om oo   -- for this text's walks alone
set_option linter.unusedVariables false
set_option linter.unusedSimpArgs false

def mU.f (k:Nat) (aA:ByteArray) (aC:Int) (aI:Int) (dh:List (nV)) (aU:ByteArray) (bZ:ByteArray) (bK:Int) (eB:ByteArray) (dZ:Bool) (cz:List (nV)) (bR:ByteArray) (a1:Int):Option (Int):=(iq.f k aA aC aI dh aU bZ bK eB dZ cz bR).bind fun akz=>(if akz=true then((iy.f a1).bind fun akA=>(if akA=true then(if a1<aI then(some (-1)) else((fF.f k aA aC aI dh aU bZ bK eB dZ cz bR).bind fun ag1=>(some (wrap64 ((wrap64 (ag1+a1))-aI))))) else(some (-1)))) else(some (-1)))
def mU.T3 : Bool×List (List Nat×List Nat):=(true,[([],[]),([0],[0]),([],[]),([1,2],[1,2]),([],[]),([4],[4]),([3,5],[3,5]),([6,1,0,1,2,3,4,5,6],[6])])
def mU.B3 : List Nat:=[0,1,0,7,0,16,63,127]
theorem mU.Tg : rP .any (opsOf Tryz.f20 3)=mU.T3:=by kernel_rfl
theorem mU.Lg : kD mU.T3.2 mU.B3=true:=by kernel_rfl
theorem mU.e0 {p:Prop} (h:p:=by
  obtain rfl:=cu H
  go_enter Tryz.func20,Tryz.ntmps20
  go_wp2_with(first|((with_reducible refine aY (N:=2) rfl ?_);refine jX #[.string aA,.int .i64 aC,.int .i64 aI,.slice ji dh.length jk,.string aU,.string bZ,.int .i64 bK,.string eB,.bool dZ,.slice iZ cz.length ja,.string bR] 33 ?_;intro zZ hg jm hbox hb;have wN:=ae.mk (hbox);have ane:=jL hg;have anf:=jL hg;replace HB:=dS hb;clear hb hbox hg;obtain⟨_,_,_,_,_,_,_,_,_,_,_⟩:=jo wN;obtain⟨_,_,_,_,_,_,_,_,_,_,_⟩:=kz wN)|((with_reducible refine ag (f:=13) rfl ?_);refine aG (some 6) rfl rfl Tryz.func13 aK rfl #[.agg #[.string aA,.int .i64 aC,.int .i64 aI,.slice ji dh.length jk,.string aU,.string bZ,.int .i64 bK,.string eB,.bool dZ,.slice iZ cz.length ja,.string bR]] rfl eu ?_;(with_reducible refine(iq.calls k aA aC aI _ _ dh aU bZ bK eB dZ _ _ cz bR false _ ?bM ?bN ?ib ?ic A3.out ?hT).mono ?_);(case hT=>exact gJ HT);(case bM=>repeat(first|exact(Kd.bO lZ.out HB.out)|(with_reducible refine Kd.aZ ?_ _)|(with_reducible refine Kd.bf ?_ _)|(with_reducible refine Kd.bP ?_)));(case bN=>exact l5.out);(case ib=>repeat(first|exact(Kd.bO kQ.out HB.out)|(with_reducible refine Kd.aZ ?_ _)|(with_reducible refine Kd.bf ?_ _)|(with_reducible refine Kd.bP ?_)));(case ic=>exact kR.out);rintro e Fq ⟨rfl,hb⟩;refine⟨_,rfl,?_⟩;replace wN:=iG (g:=zZ) hb;replace HB:=dS hb;(try clear hb);(try clear hb2);(try clear hk);(try clear hi))|((with_reducible refine ag (f:=13) rfl ?_);refine aG (some 6) rfl rfl Tryz.func13 aK rfl #[.agg #[.string aA,.int .i64 aC,.int .i64 aI,.slice ji dh.length jk,.string aU,.string bZ,.int .i64 bK,.string eB,.bool dZ,.slice iZ cz.length ja,.string bR]] rfl eu ?_;(with_reducible refine(iq.calls k aA aC aI _ _ dh aU bZ bK eB dZ _ _ cz bR true _ ?bM ?bN ?ib ?ic A3.out ?hT).mono ?_);(case hT=>exact gJ HT);(case bM=>repeat(first|exact(Kd.bO lZ.out HB.out)|(with_reducible refine Kd.aZ ?_ _)|(with_reducible refine Kd.bf ?_ _)|(with_reducible refine Kd.bP ?_)));(case bN=>exact l5.out);(case ib=>repeat(first|exact(Kd.bO kQ.out HB.out)|(with_reducible refine Kd.aZ ?_ _)|(with_reducible refine Kd.bf ?_ _)|(with_reducible refine Kd.bP ?_)));(case ic=>exact kR.out);rintro e ku ⟨rfl,hb⟩;refine⟨_,rfl,?_⟩;replace wN:=iG (g:=zZ) hb;replace HB:=dS hb;(try clear hb);(try clear hb2);(try clear hk);(try clear hi))|(go_at_call 37;(with_reducible refine(iy.calls a1 false _ A5.out).mono ?_);rintro e w' ⟨rfl,⟨nd,rfl⟩⟩)|(go_at_call 37;(with_reducible refine(iy.calls a1 true _ A5.out).mono ?_);rintro e w' ⟨rfl,⟨nd,rfl⟩⟩;obtain⟨_,_,_,_,_,_,_,_,_,_,_⟩:=jo wN;obtain⟨_,_,_,_,_,_,_,_,_,_,_⟩:=kz wN))
  go_ret
  exact⟨nG,dN⟩):p:=h
set_option maxHeartbeats 8000000 in
set_option maxRecDepth 100000 in
theorem mU.calls (k:Nat) (aA:ByteArray) (aC aI:Int) (ji:Option Addr) (jk:Nat) (dh:List (nV)) (aU bZ:ByteArray) (bK:Int) (eB:ByteArray) (dZ:Bool) (iZ:Option Addr) (ja:Nat) (cz:List (nV)) (bR:ByteArray) (a1 r:Int) (w:World) (oI:Kd.C Ct w ji dh.length dh) (oJ:dh.length≤jk) (oK:Kd.C Ct w iZ cz.length cz) (oL:cz.length≤ja) (h:mU.f k aA aC aI dh aU bZ bK eB dZ cz bR a1=some r) (HT0:pY w) :
  Calls Tryz.prog 20 #[.agg #[.string aA,.int .i64 aC,.int .i64 aI,.slice ji dh.length jk,.string aU,.string bZ,.int .i64 bK,.string eB,.bool dZ,.slice iZ cz.length ja,.string bR],.int .i64 a1] w fun e w'=>e = .returned (.int .i64 r)∧Below w.heap.size w w':=by
 have HT:=ae.mk HT0;clear HT0;have NM:=Tryz.underlying33;have lZ:=ae.mk oI;have l5:=ae.mk oJ;clear oI oJ;have kQ:=ae.mk oK;have kR:=ae.mk oL;clear oK oL;have HB:=ae.mk (Below.refl w.heap.size w);have H:=h;clear h;unfold mU.f at H;replace H:=gD H;obtain⟨akz,A3,H⟩:=H;replace H:=gB H;rcases H with⟨rfl,H⟩|⟨rfl,H⟩
 ·replace H:=gD H;obtain⟨akA,A5,H⟩:=H;replace H:=gB H;rcases H with⟨rfl,H⟩|⟨rfl,H⟩
  ·replace H:=gI H;rcases H with⟨-,uR,-,H⟩|⟨-,uR,-,H⟩
   ·exact mU.e0
   ·replace H:=gD H;obtain⟨ag1,LU,H⟩:=H;obtain rfl:=cu H;go_enter Tryz.func20,Tryz.ntmps20;try go_wp2_with(first|((with_reducible refine aY (N:=2) rfl ?_);refine jX #[.string aA,.int .i64 aC,.int .i64 aI,.slice ji dh.length jk,.string aU,.string bZ,.int .i64 bK,.string eB,.bool dZ,.slice iZ cz.length ja,.string bR] 33 ?_;intro zZ hg jm hbox hb;have wN:=ae.mk (hbox);have ane:=jL hg;have anf:=jL hg;replace HB:=dS hb;clear hb hbox hg;obtain⟨_,_,_,_,_,_,_,_,_,_,_⟩:=jo wN;obtain⟨_,_,_,_,_,_,_,_,_,_,_⟩:=kz wN)|((with_reducible refine ag (f:=13) rfl ?_);refine aG (some 6) rfl rfl Tryz.func13 aK rfl #[.agg #[.string aA,.int .i64 aC,.int .i64 aI,.slice ji dh.length jk,.string aU,.string bZ,.int .i64 bK,.string eB,.bool dZ,.slice iZ cz.length ja,.string bR]] rfl eu ?_;(with_reducible refine(iq.calls k aA aC aI _ _ dh aU bZ bK eB dZ _ _ cz bR true _ ?bM ?bN ?ib ?ic A3.out ?hT).mono ?_);(case hT=>exact gJ HT);(case bM=>repeat(first|exact(Kd.bO lZ.out HB.out)|(with_reducible refine Kd.aZ ?_ _)|(with_reducible refine Kd.bf ?_ _)|(with_reducible refine Kd.bP ?_)));(case bN=>exact l5.out);(case ib=>repeat(first|exact(Kd.bO kQ.out HB.out)|(with_reducible refine Kd.aZ ?_ _)|(with_reducible refine Kd.bf ?_ _)|(with_reducible refine Kd.bP ?_)));(case ic=>exact kR.out);rintro e ku ⟨rfl,hb⟩;refine⟨_,rfl,?_⟩;replace wN:=iG (g:=zZ) hb;replace HB:=dS hb;(try clear hb))|(go_at_call 37;(with_reducible refine(iy.calls a1 true _ A5.out).mono ?_);rintro e w' ⟨rfl,⟨nd,rfl⟩⟩;obtain⟨_,_,_,_,_,_,_,_,_,_,_⟩:=jo wN;obtain⟨_,_,_,_,_,_,_,_,_,_,_⟩:=kz wN))
    (try(rw[ma ku];generalize hq_:World.drewN ku _=ku;have Ag:ae (ku.heap[zZ]? = some (.cells #[.string aA,.int .i64 aC,.int .i64 aI,.slice ji dh.length jk,.string aU,.string bZ,.int .i64 bK,.string eB,.bool dZ,.slice iZ cz.length ja,.string bR] 33 (0,0))):=⟨by rw[← hq_];exact(by(with_reducible repeat(first|refine dm ?_ _|refine bJ ?_|refine dD ?_ _));exact wN.out)⟩;have zR:ae (Below w.heap.size w ku):=⟨by rw[← hq_];exact dN⟩;clear wN HB hq_;have wN:=Ag;have HB:=zR;clear Ag zR))
    replace wN:=ae.mk (bJ wN.out);replace HB:=ae.mk (di HB.out);refine lL (n:=8) (S:=fun w'=>w'.cell? ⟨zZ,0,none⟩=some (.string aA)∧w'.cell? ⟨zZ,1,none⟩=some (.int .i64 aC)∧w'.cell? ⟨zZ,2,none⟩=some (.int .i64 aI)∧w'.cell? ⟨zZ,3,none⟩=some (.slice ji dh.length jk)∧w'.cell? ⟨zZ,4,none⟩=some (.string aU)∧w'.cell? ⟨zZ,5,none⟩=some (.string bZ)∧w'.cell? ⟨zZ,6,none⟩=some (.int .i64 bK)∧w'.cell? ⟨zZ,7,none⟩=some (.string eB)∧w'.cell? ⟨zZ,8,none⟩=some (.bool dZ)∧w'.cell? ⟨zZ,9,none⟩=some (.slice iZ cz.length ja)∧w'.cell? ⟨zZ,10,none⟩=some (.string bR)) (ds:=[]) (jo wN) (fun hHeld=>?_);refine fu mU.Tg mU.Lg (fun HT_ HW_=>?_);generalize ku.drew=Aa at wN HB hHeld ⊢;repeat(first|refine nU ?_ (hy:=Or.inl ⟨by rfl,Uf⟩)|refine fA ?_)
    refine dn 2 (some 21) ?_;refine dn 4 (some 23) ?_;refine iC 5 (some 24) (hy:=Or.inl ⟨by rfl,Uf⟩) ?_;refine iM (fun K hK=>?_);refine dV Tryz.func47 aK rfl #[.agg #[.string aA,.int .i64 aC,.int .i64 aI,.slice ji dh.length jk,.string aU,.string bZ,.int .i64 bK,.string eB,.bool dZ,.slice iZ cz.length ja,.string bR]] (by rfl) rfl rfl eu ?_;with_reducible refine(fF.calls k aA aC aI _ _ dh aU bZ bK eB dZ _ _ cz bR ag1 _ ?bM ?bN ?ib ?ic LU.out ?hT).mono ?_
    case hT=>exact gJ HT
    (case bM=>repeat(first|exact(Kd.bO lZ.out HB.out)|(with_reducible refine Kd.aZ ?_ _)|(with_reducible refine Kd.bf ?_ _)|(with_reducible refine Kd.bP ?_)))
    (case bN=>exact l5.out)
    (case ib=>repeat(first|exact(Kd.bO kQ.out HB.out)|(with_reducible refine Kd.aZ ?_ _)|(with_reducible refine Kd.bf ?_ _)|(with_reducible refine Kd.bP ?_)))
    (case ic=>exact kR.out)
    rintro e zO ⟨rfl,hb⟩;refine⟨_,rfl,?_⟩;replace wN:=iG (g:=zZ) hb;replace HB:=dS hb;(try clear hb)
    (try clear hb2)
    (try clear hk)
    (try clear hi)
    refine hK.out _ _ (jo wN) (fun hHeld=>?_);clear hK K;refine eP ?_;repeat(first|refine fA ?_)
    refine mW (iR HT_.out aK) ?_;try go_wp2
    go_ret;exact⟨nG,dN⟩
  ·exact mU.e0
 ·exact mU.e0

end Go.Proofs.YtfhllanhldbkkaaGreatDoor.P
