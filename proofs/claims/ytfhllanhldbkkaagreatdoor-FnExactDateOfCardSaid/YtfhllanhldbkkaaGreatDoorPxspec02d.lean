import Derived.Test.YtfhllanhldbkkaaGreatDoorPx0
import Derived.Test.YtfhllanhldbkkaaGreatDoorPxspec01a
import Derived.Test.YtfhllanhldbkkaaGreatDoorWC
namespace Go.Proofs.YtfhllanhldbkkaaGreatDoor.P
set_option maxHeartbeats 8000000
set_option maxRecDepth 100000
open Go.RowKit Go.Proofs.YtfhllanhldbkkaaGreatDoorW.ax Go.Proofs.YtfhllanhldbkkaaGreatDoorW.aD Go.Proofs.YtfhllanhldbkkaaGreatDoorW.aH
attribute [local go_sem] nZ oh qI qJ mq mr om oo   -- for this text's walks alone
set_option linter.unusedVariables false
set_option linter.unusedSimpArgs false

def lY.f (a0:Int):Option (Int):=(oD.f a0).bind fun akt=>(if akt=true then(some 366) else(some 365))
theorem lY.e0 {p:Prop} (h:p:=by
  obtain rfl:=cu H
  go_enter Tryz.func203,Tryz.ntmps203
  go_wp2_with(first|((with_reducible refine ag (f:=227) rfl ?_);refine aG (some 4) rfl rfl Tryz.func227 aK rfl #[.int .i64 a0] rfl eu ?_;(with_reducible refine(oD.calls a0 false _ A2.out).mono ?_);rintro e w' ⟨rfl,⟨nd,rfl⟩⟩;refine⟨_,rfl,?_⟩)|((with_reducible refine ag (f:=227) rfl ?_);refine aG (some 4) rfl rfl Tryz.func227 aK rfl #[.int .i64 a0] rfl eu ?_;(with_reducible refine(oD.calls a0 true _ A2.out).mono ?_);rintro e w' ⟨rfl,⟨nd,rfl⟩⟩;refine⟨_,rfl,?_⟩))
  go_ret
  exact⟨fI,lG⟩):p:=h
theorem lY.calls (a0 r:Int) (w:World) (h:lY.f a0=some r) :
  Calls Tryz.prog 203 #[.int .i64 a0] w fun e w'=>e = .returned (.int .i64 r)∧ed w w':=by
 have H:=h;clear h;unfold lY.f at H;replace H:=gD H;obtain⟨akt,A2,H⟩:=H;replace H:=gB H;rcases H with⟨rfl,H⟩|⟨rfl,H⟩
 ·exact lY.e0
 ·exact lY.e0

mutual
def df.l0 : Nat→Int→Int→Int→Int→Int→Int→Int→Int→Option (Int×Bool)
 |0,_,_,_,_,_,_,_,_=>none
 |k+1,x4,x5,Jo,Lh,OU,Li,Lj,Ll=>if x5<Jo then((lY.f x5).bind fun ab6=>(df.l0 k (wrap64 (x4+ab6)) (wrap64 (x5+1)) Jo Lh OU Li Lj Ll)) else(df.l1 k x4 1 Jo Lh OU Li Lj Ll)
def df.l1 : Nat→Int→Int→Int→Int→Int→Int→Int→Int→Option (Int×Bool)
 |0,_,_,_,_,_,_,_,_=>none
 |k+1,x4,x6,Jo,Lh,OU,Li,Lj,Ll=>if x6<Lh then((kJ.f Jo x6).bind fun ab7=>(df.l1 k (wrap64 (x4+ab7)) (wrap64 (x6+1)) Jo Lh OU Li Lj Ll)) else(some (wrap64 ((wrap64 ((wrap64 ((wrap64 ((wrap64 ((wrap64 (x4*24))+Li))*60))+Lj))*60))+Ll),true))
end
def df.f (k:Nat) (aA:Int) (aC:Int) (aI:Int) (bD:Int) (aU:Int) (bZ:Int):Option (Int×Bool):=(fH.f aA aC aI bD aU bZ).bind fun aku=>(if aku=true then(df.l0 k (wrap64 (aI-1)) 1970 aA aC aI bD aU bZ) else(some (0,false)))
theorem df.calls (k:Nat) (aA aC:Int) (aI bD:Int) (aU bZ r1:Int) (r2:Bool) (w:World) (h:df.f k aA aC aI bD aU bZ=some (r1,r2)) :
  Calls Tryz.prog 159 #[.agg #[.int .i64 aA,.int .i64 aC,.int .i64 aI,.int .i64 bD,.int .i64 aU,.int .i64 bZ]] w fun e w'=>e = .returned (.tuple #[.int .i64 r1,.bool r2])∧Below w.heap.size w w':=by
 have GH:=Tryz.underlying117;have HB:=ae.mk (Below.refl w.heap.size w);have H:=h;clear h;unfold df.f at H;replace H:=gD H;obtain⟨aku,A2,H⟩:=H;replace H:=gB H;rcases H with⟨rfl,H⟩|⟨rfl,H⟩
 ·have H':=ae.mk H;clear H;go_enter Tryz.func159,Tryz.ntmps159;go_wp2_with(first|((with_reducible refine aY (N:=1) rfl ?_);refine jX #[.int .i64 aA,.int .i64 aC,.int .i64 aI,.int .i64 bD,.int .i64 aU,.int .i64 bZ] 117 ?_;intro Tz hg w4 hbox hb;have yf:=ae.mk (hbox);have am5:=jL hg;have am6:=jL hg;replace HB:=dS hb;clear hb hbox hg;obtain⟨_,_,_,_,_,_⟩:=kY yf;obtain⟨_,_,_,_,_,_⟩:=qK yf)|((with_reducible refine ag (f:=202) rfl ?_);refine aG (some 8) rfl rfl Tryz.func202 aK rfl #[.agg #[.int .i64 aA,.int .i64 aC,.int .i64 aI,.int .i64 bD,.int .i64 aU,.int .i64 bZ]] rfl eu ?_;(with_reducible refine(fH.calls aA aC aI bD aU bZ true _ A2.out).mono ?_);rintro e w6 ⟨rfl,hb⟩;refine⟨_,rfl,?_⟩;replace yf:=iG (g:=Tz) hb;replace HB:=dS hb;(try clear hb);obtain⟨_,_,_,_,_,_⟩:=kY yf;obtain⟨_,_,_,_,_,_⟩:=qK yf));go_loopg [4,5] k (fun kq v4 v5 w'=>∃(fT:Int) (dJ:Int),v4 = .int .i64 fT∧v5 = .int .i64 dJ∧ae (df.l0 kq fT dJ aA aC aI bD aU bZ=some (r1,r2))∧ae (kq≤k)∧ae (w'.heap[Tz]? = some (.cells #[.int .i64 aA,.int .i64 aC,.int .i64 aI,.int .i64 bD,.int .i64 aU,.int .i64 bZ] 117 (0,0)))∧ae (Below w.heap.size w w'))
  case atStart=>exact⟨(wrap64 (aI-1)),(1970),fI,fI,H',⟨Nat.le_refl _⟩,⟨yg⟩,⟨dN⟩⟩
  case round=>
   clear H';obtain⟨fT,dJ,rfl,rfl,HA,qj,yf,HB⟩:=hrel;cases gk with
   |zero=>exact absurd HA.out (by simp[df.l0])
   |succ k1=>
    have H:=HA.out;clear HA;simp only[df.l0] at H;replace H:=gI H;rcases H with⟨-,tO,-,H⟩|⟨-,tO,-,H⟩
    ·replace H:=gD H;obtain⟨ab6,A9,H⟩:=H;have H':=ae.mk H;clear H;obtain⟨_,_,_,_,_,_⟩:=kY yf;obtain⟨_,_,_,_,_,_⟩:=qK yf;go_wp2_with(((with_reducible refine ag (f:=203) rfl ?_);refine aG (some 21) rfl rfl Tryz.func203 aK rfl #[.int .i64 dJ] rfl eu ?_;(with_reducible refine(lY.calls dJ ab6 _ A9.out).mono ?_);rintro e w' ⟨rfl,⟨nd,rfl⟩⟩;refine⟨_,rfl,?_⟩));go_roundg k1
     case measure=>have:=qj.out;omega
     case rel=>exact⟨(wrap64 (fT+ab6)),(wrap64 (dJ+1)),fI,fI,H',⟨by have:=qj.out;omega⟩,⟨yg⟩,⟨dN⟩⟩
    ·have H':=ae.mk H;clear H;obtain⟨_,_,_,_,_,_⟩:=kY yf;obtain⟨_,_,_,_,_,_⟩:=qK yf;go_wp2;go_loopg [4,6] k1 (fun kq v4 v6 w'=>∃(kv:Int) (Jj:Int),v4 = .int .i64 kv∧v6 = .int .i64 Jj∧ae (df.l1 kq kv Jj aA aC aI bD aU bZ=some (r1,r2))∧ae (kq≤k1)∧ae (w'.heap[Tz]? = some (.cells #[.int .i64 aA,.int .i64 aC,.int .i64 aI,.int .i64 bD,.int .i64 aU,.int .i64 bZ] 117 (0,0)))∧ae (Below w.heap.size w w'))
     case atStart=>exact⟨(fT),(1),fI,fI,H',⟨Nat.le_refl _⟩,⟨yg⟩,⟨dN⟩⟩
     case round=>
      clear H';try clear tO
      obtain⟨kv,Jj,rfl,rfl,HA,Eo,yf,HB⟩:=hrel;cases gk with
      |zero=>exact absurd HA.out (by simp[df.l1])
      |succ k2=>
       have H:=HA.out;clear HA;simp only[df.l1] at H;replace H:=gI H;rcases H with⟨-,wO,-,H⟩|⟨-,wO,-,H⟩
       ·replace H:=gD H;obtain⟨ab7,QF,H⟩:=H;have H':=ae.mk H;clear H;obtain⟨_,_,_,_,_,_⟩:=kY yf;obtain⟨_,_,_,_,_,_⟩:=qK yf;go_wp2_with(((with_reducible refine ag (f:=204) rfl ?_);refine aG (some 33) rfl rfl Tryz.func204 aK rfl #[.int .i64 aA,.int .i64 Jj] rfl eu ?_;(with_reducible refine(kJ.calls aA Jj ab7 _ QF.out).mono ?_);rintro e w' ⟨rfl,⟨nd,rfl⟩⟩;refine⟨_,rfl,?_⟩));go_roundg k2
        case measure=>have:=qj.out;have:=Eo.out;omega
        case rel=>exact⟨(wrap64 (kv+ab7)),(wrap64 (Jj+1)),fI,fI,H',⟨VQ⟩,⟨yg⟩,⟨dN⟩⟩
       ·simp only[Option.some.injEq,Prod.mk.injEq] at H;obtain⟨rfl,rfl⟩:=H;obtain⟨_,_,_,_,_,_⟩:=kY yf;obtain⟨_,_,_,_,_,_⟩:=qK yf;go_wp2;go_ret2;exact⟨nG,dN⟩
 ·simp only[Option.some.injEq,Prod.mk.injEq] at H;obtain⟨rfl,rfl⟩:=H;go_enter Tryz.func159,Tryz.ntmps159;go_wp2_with(first|((with_reducible refine aY (N:=1) rfl ?_);refine jX #[.int .i64 aA,.int .i64 aC,.int .i64 aI,.int .i64 bD,.int .i64 aU,.int .i64 bZ] 117 ?_;intro Tz hg jm hbox hb;have yf:=ae.mk (hbox);have am5:=jL hg;have am6:=jL hg;replace HB:=dS hb;clear hb hbox hg;obtain⟨_,_,_,_,_,_⟩:=kY yf;obtain⟨_,_,_,_,_,_⟩:=qK yf)|((with_reducible refine ag (f:=202) rfl ?_);refine aG (some 8) rfl rfl Tryz.func202 aK rfl #[.agg #[.int .i64 aA,.int .i64 aC,.int .i64 aI,.int .i64 bD,.int .i64 aU,.int .i64 bZ]] rfl eu ?_;(with_reducible refine(fH.calls aA aC aI bD aU bZ false _ A2.out).mono ?_);rintro e ku ⟨rfl,hb⟩;refine⟨_,rfl,?_⟩;replace yf:=iG (g:=Tz) hb;replace HB:=dS hb;(try clear hb)));go_ret2;exact⟨nG,dN⟩


def jd.f (k:Nat) (a0:Int) (a1:Int) (a2:Int) (a3:ByteArray):Option (Int):=if 0≤2 then(if 2≤(a3.size:Int) then((aX.f k (a3.extract 0 2)).bind fun Qv=>(if 3≤5 then(if 5≤(a3.size:Int) then((aX.f k (a3.extract 3 5)).bind fun Qw=>(if 6≤8 then(if 8≤(a3.size:Int) then((aX.f k (a3.extract 6 8)).bind fun Qx=>((df.f k a0 a1 a2 Qv Qw Qx).bind fun agE=>(if agE.2=true then(some agE.1) else(some (-1))))) else(none)) else(none))) else(none)) else(none))) else(none)) else(none)
def jd.T1 : Bool×List (List Nat×List Nat):=(true,[([],[]),([],[]),([],[]),([],[]),([3],[3]),([4],[4]),([],[]),([6],[6]),([7,5],[7]),([],[]),([9],[9]),([10,8],[10]),([0,1,2,5,8,11],[0,1,2,5,8,11]),([12,11],[12]),([13],[13]),([14],[14]),([14],[14]),([15,13,0,1,2,3,4,5,6,7,8,9,10,11,12,13,14,15],[15]),([16,17,0,1,2,3,4,5,6,7,8,9,10,11,12,13,14,15,16,17],[16])])
def jd.B1 : List Nat:=[0,0,0,0,8,24,0,64,248,0,512,2040,4095,8191,16383,32767,32767,65535,262143]
theorem jd.FC : rP .any (opsOf Tryz.f114 1)=jd.T1:=by kernel_rfl
theorem jd.yI : kD jd.T1.2 jd.B1=true:=by kernel_rfl
theorem jd.calls (k:Nat) (a0 a1 a2:Int) (a3:ByteArray) (r:Int) (w:World) (h:jd.f k a0 a1 a2 a3=some r) :
  Calls Tryz.prog 114 #[.int .i64 a0,.int .i64 a1,.int .i64 a2,.string a3] w fun e w'=>e = .returned (.int .i64 r)∧Below w.heap.size w w':=by
 have GH:=Tryz.underlying117;have HB:=ae.mk (Below.refl w.heap.size w);have H:=h;clear h;unfold jd.f at H;replace H:=gI H;rcases H with⟨-,Al,qh,H⟩|⟨c5,-,-,H⟩
 ·replace H:=gN H;obtain⟨-,yK,nW,H⟩:=H;replace H:=gD H;obtain⟨Qv,A7,H⟩:=H;replace H:=gN H;obtain⟨-,Iu,tO,H⟩:=H;replace H:=gN H;obtain⟨-,Gz,xY,H⟩:=H;replace H:=gD H;obtain⟨Qw,PS,H⟩:=H;replace H:=gN H;obtain⟨-,JO,xA,H⟩:=H;replace H:=gN H;obtain⟨-,KZ,wO,H⟩:=H;replace H:=gD H;obtain⟨Qx,QF,H⟩:=H;replace H:=gD H;obtain⟨⟨akv,ayh⟩,A14,H⟩:=H;dsimp only at H;replace H:=gB H;rcases H with⟨rfl,H⟩|⟨rfl,H⟩
  ·obtain rfl:=cu H;go_enter Tryz.func114,Tryz.ntmps114;try go_wp2
   replace HB:=ae.mk (di HB.out);refine lL (n:=19) (S:=fun w'=>True) (ds:=[]) trivial (fun hHeld=>?_);refine fu jd.FC jd.yI (fun HT_ HW_=>?_);generalize w.drew=jm at HB hHeld ⊢;repeat(first|refine fA ?_)
   refine dn 6 (some 18) ?_;refine dn 7 (some 19) ?_;refine dn 9 (some 21) ?_;refine dn 10 (some 22) ?_;refine iM (fun K hK=>?_);refine dV Tryz.func115 aK rfl #[.string (a3.extract 0 2)] (by rfl) rfl rfl eu ?_;(with_reducible refine(aX.calls k (a3.extract 0 2) Qv _ A7.out).mono ?_);rintro e w' ⟨rfl,⟨nd,rfl⟩⟩;refine⟨_,rfl,?_⟩;refine hK.out _ _ trivial (fun hHeld=>?_);clear hK K;refine eP ?_;refine iM (fun K hK=>?_);refine dV Tryz.func115 aK rfl #[.string (a3.extract 3 5)] (by rfl) rfl rfl eu ?_;(with_reducible refine(aX.calls k (a3.extract 3 5) Qw _ PS.out).mono ?_);rintro e w' ⟨rfl,⟨nd,rfl⟩⟩;refine⟨_,rfl,?_⟩;refine hK.out _ _ trivial (fun hHeld=>?_);clear hK K;refine eP ?_;refine iM (fun K hK=>?_);refine dV Tryz.func115 aK rfl #[.string (a3.extract 6 8)] (by rfl) rfl rfl eu ?_;(with_reducible refine(aX.calls k (a3.extract 6 8) Qx _ QF.out).mono ?_);rintro e w' ⟨rfl,⟨nd,rfl⟩⟩;refine⟨_,rfl,?_⟩;refine hK.out _ _ trivial (fun hHeld=>?_);clear hK K;refine eP ?_;repeat(first|refine fA ?_)
   refine iM (fun K hK=>?_);refine dV Tryz.func159 aK rfl #[.agg #[.int .i64 a0,.int .i64 a1,.int .i64 a2,.int .i64 Qv,.int .i64 Qw,.int .i64 Qx]] (by rfl) rfl rfl eu ?_;(with_reducible refine(df.calls k a0 a1 a2 Qv Qw Qx akv true _ A14.out).mono ?_);rintro e ku ⟨rfl,hb⟩;refine⟨_,rfl,?_⟩;replace HB:=dS hb;(try clear hb)
   refine hK.out _ _ trivial (fun hHeld=>?_);clear hK K;refine eP ?_;repeat(first|refine fA ?_)
   refine mW (iR HT_.out aK) ?_;try go_wp2
   go_ret;exact⟨nG,dN⟩
  ·obtain rfl:=cu H;go_enter Tryz.func114,Tryz.ntmps114;try go_wp2
   replace HB:=ae.mk (di HB.out);refine lL (n:=19) (S:=fun w'=>True) (ds:=[]) trivial (fun hHeld=>?_);refine fu jd.FC jd.yI (fun HT_ HW_=>?_);generalize w.drew=jm at HB hHeld ⊢;repeat(first|refine fA ?_)
   refine dn 6 (some 18) ?_;refine dn 7 (some 19) ?_;refine dn 9 (some 21) ?_;refine dn 10 (some 22) ?_;refine iM (fun K hK=>?_);refine dV Tryz.func115 aK rfl #[.string (a3.extract 0 2)] (by rfl) rfl rfl eu ?_;(with_reducible refine(aX.calls k (a3.extract 0 2) Qv _ A7.out).mono ?_);rintro e w' ⟨rfl,⟨nd,rfl⟩⟩;refine⟨_,rfl,?_⟩;refine hK.out _ _ trivial (fun hHeld=>?_);clear hK K;refine eP ?_;refine iM (fun K hK=>?_);refine dV Tryz.func115 aK rfl #[.string (a3.extract 3 5)] (by rfl) rfl rfl eu ?_;(with_reducible refine(aX.calls k (a3.extract 3 5) Qw _ PS.out).mono ?_);rintro e w' ⟨rfl,⟨nd,rfl⟩⟩;refine⟨_,rfl,?_⟩;refine hK.out _ _ trivial (fun hHeld=>?_);clear hK K;refine eP ?_;refine iM (fun K hK=>?_);refine dV Tryz.func115 aK rfl #[.string (a3.extract 6 8)] (by rfl) rfl rfl eu ?_;(with_reducible refine(aX.calls k (a3.extract 6 8) Qx _ QF.out).mono ?_);rintro e w' ⟨rfl,⟨nd,rfl⟩⟩;refine⟨_,rfl,?_⟩;refine hK.out _ _ trivial (fun hHeld=>?_);clear hK K;refine eP ?_;repeat(first|refine fA ?_)
   refine iM (fun K hK=>?_);refine dV Tryz.func159 aK rfl #[.agg #[.int .i64 a0,.int .i64 a1,.int .i64 a2,.int .i64 Qv,.int .i64 Qw,.int .i64 Qx]] (by rfl) rfl rfl eu ?_;(with_reducible refine(df.calls k a0 a1 a2 Qv Qw Qx akv false _ A14.out).mono ?_);rintro e ku ⟨rfl,hb⟩;refine⟨_,rfl,?_⟩;replace HB:=dS hb;(try clear hb)
   refine hK.out _ _ trivial (fun hHeld=>?_);clear hK K;refine eP ?_;repeat(first|refine fA ?_)
   refine mW (iR HT_.out aK) ?_;try go_wp2
   go_ret;exact⟨nG,dN⟩
 ·exact absurd H (by simp)


mutual
def cO.l0 : Nat→Int→Int→Int→Int→Int→Int→Int→Option (Int×Int×Int×Int×Int×Int×Bool)
 |0,_,_,_,_,_,_,_=>none
 |k+1,x4,Ei,GV,OV,Lm,Lp,Lr=>(lY.f Ei).bind fun Vu=>(if x4≥Vu then((lY.f Ei).bind fun ab8=>(cO.l0 k (wrap64 (x4-ab8)) (wrap64 (Ei+1)) GV OV Lm Lp Lr)) else(cO.l1 k x4 Ei GV OV Lm Lp Lr))
def cO.l1 : Nat→Int→Int→Int→Int→Int→Int→Int→Option (Int×Int×Int×Int×Int×Int×Bool)
 |0,_,_,_,_,_,_,_=>none
 |k+1,x4,Ei,GV,OV,Lm,Lp,Lr=>(kJ.f Ei GV).bind fun Vv=>(if x4≥Vv then((kJ.f Ei GV).bind fun ab9=>(cO.l1 k (wrap64 (x4-ab9)) Ei (wrap64 (GV+1)) OV Lm Lp Lr)) else(some (Ei,GV,wrap64 (x4+1),Lm,Lp,Lr,true)))
end
def cO.f (k:Nat) (a0:Int):Option (Int×Int×Int×Int×Int×Int×Bool):=(jq.f a0).bind fun akw=>(if akw=true then(cO.l0 k (wrap64 (Int.tdiv a0 86400)) 1970 1 0 (Int.tmod (wrap64 (Int.tdiv a0 3600)) 24) (Int.tmod (wrap64 (Int.tdiv a0 60)) 60) (Int.tmod a0 60)) else(some (0,0,0,0,0,0,false)))
theorem cO.calls (k:Nat) (a0 r1:Int) (r2 r3:Int) (r4 r5 r6:Int) (r7:Bool) (w:World) (h:cO.f k a0=some (r1,r2,r3,r4,r5,r6,r7)) :
  Calls Tryz.prog 161 #[.int .i64 a0] w fun e w'=>e = .returned (.tuple #[.agg #[.int .i64 r1,.int .i64 r2,.int .i64 r3,.int .i64 r4,.int .i64 r5,.int .i64 r6],.bool r7])∧Below w.heap.size w w':=by
 have GH:=Tryz.underlying117;have HB:=ae.mk (Below.refl w.heap.size w);have H:=h;clear h;unfold cO.f at H;replace H:=gD H;obtain⟨akw,A2,H⟩:=H;replace H:=gB H;rcases H with⟨rfl,H⟩|⟨rfl,H⟩
 ·have H':=ae.mk H;clear H;go_enter Tryz.func161,Tryz.ntmps161;go_wp2_with(first|((with_reducible refine aY (N:=2) rfl ?_);refine jX #[.int .i64 0,.int .i64 0,.int .i64 0,.int .i64 0,.int .i64 0,.int .i64 0] 117 ?_;intro Ej hg w4 hbox hb;have o6:=ae.mk (hbox);have am7:=jL hg;have am8:=jL hg;replace HB:=dS hb;clear hb hbox hg)|((with_reducible refine ag (f:=31) rfl ?_);refine aG (some 7) rfl rfl Tryz.func31 aK rfl #[.int .i64 a0] rfl eu ?_;(with_reducible refine(jq.calls a0 true _ A2.out).mono ?_);rintro e w' ⟨rfl,⟨nd,rfl⟩⟩;refine⟨_,rfl,?_⟩;(try(rw[ma w4];generalize hq_:World.drewN w4 _=w4;have o7:ae (w4.heap[Ej]? = some (.cells #[.int .i64 0,.int .i64 0,.int .i64 0,.int .i64 0,.int .i64 0,.int .i64 0] 117 (0,0))):=⟨ZB⟩;have qG:ae (Below w.heap.size w w4):=⟨by rw[← hq_];exact dN⟩;clear o6 HB hq_;have o6:=o7;have HB:=qG;clear o7 qG)))|((with_reducible refine aY (N:=5) rfl ?_);refine jX #[.int .i64 0,.int .i64 0,.int .i64 0,.int .i64 0,.int .i64 0,.int .i64 0] 117 ?_;intro BJ hg w5 hbox hb;have lH:=ae.mk (hbox);have auL:=jL hg;have Cn:=J3 (g:=Ej) hg;have Fw:=LG Cn;replace o6:=iG (g:=Ej) hb;replace HB:=dS hb;clear hb hbox hg;have anF:=Fw.out;have anG:=Cn.out;obtain⟨_,_,_,_,_,_⟩:=kY lH;obtain⟨_,_,_,_,_,_⟩:=qK lH));go_loopg [4] k (fun kq v4 w'=>∃(fT:Int) (kF:Int),v4 = .int .i64 fT∧ae (cO.l0 kq fT kF 1 0 (Int.tmod (wrap64 (Int.tdiv a0 3600)) 24) (Int.tmod (wrap64 (Int.tdiv a0 60)) 60) (Int.tmod a0 60)=some (r1,r2,r3,r4,r5,r6,r7))∧ae (kq≤k)∧ae (w'.heap[Ej]? = some (.cells #[.int .i64 0,.int .i64 0,.int .i64 0,.int .i64 0,.int .i64 0,.int .i64 0] 117 (0,0)))∧ae (w'.heap[BJ]? = some (.cells #[.int .i64 kF,.int .i64 1,.int .i64 0,.int .i64 (Int.tmod (wrap64 (Int.tdiv a0 3600)) 24),.int .i64 (Int.tmod (wrap64 (Int.tdiv a0 60)) 60),.int .i64 (Int.tmod a0 60)] 117 (0,0)))∧ae (Below w.heap.size w w'))
  case atStart=>exact⟨(wrap64 (Int.tdiv a0 86400)),(1970),fI,H',⟨Nat.le_refl _⟩,⟨yg⟩,⟨yg⟩,⟨dN⟩⟩
  case round=>
   clear H';obtain⟨fT,kF,rfl,HA,qj,o6,lH,HB⟩:=hrel;cases gk with
   |zero=>exact absurd HA.out (by simp[cO.l0])
   |succ k1=>
    have H:=HA.out;clear HA;simp only[cO.l0] at H;replace H:=gD H;obtain⟨Vu,A8,H⟩:=H;replace H:=gI H;rcases H with⟨c9,-,-,H⟩|⟨c9,-,-,H⟩
    ·have xY:decide (Vu≤fT)=true:=aT c9;clear c9;replace H:=gD H;obtain⟨ab8,PS,H⟩:=H;have H':=ae.mk H;clear H;have aps:=Fw.out;have apt:=Cn.out;obtain⟨_,_,_⟩:=VG lH;have abE:wr.cell? ⟨BJ,3,none⟩=some (.int .i64 (Int.tmod (wrap64 (Int.tdiv a0 3600)) 24)):=(ai lH.out 3).trans rfl;have abF:wr.cell? ⟨BJ,4,none⟩=some (.int .i64 (Int.tmod (wrap64 (Int.tdiv a0 60)) 60)):=(ai lH.out 4).trans rfl;have abG:=Rt lH;obtain⟨_,_,_,_,_,_⟩:=qK lH;go_wp2_with(first|((with_reducible refine ag (f:=203) rfl ?_);refine aG (some 24) rfl rfl Tryz.func203 aK rfl #[.int .i64 kF] rfl eu ?_;(with_reducible refine(lY.calls kF Vu _ A8.out).mono ?_);rintro e w' ⟨rfl,⟨nd,rfl⟩⟩;refine⟨_,rfl,?_⟩;(try(rw[ma wr];generalize hq_:World.drewN wr _=wr;have o7:ae (wr.heap[Ej]? = some (.cells #[.int .i64 0,.int .i64 0,.int .i64 0,.int .i64 0,.int .i64 0,.int .i64 0] 117 (0,0))):=⟨ZB⟩;have qG:ae (wr.heap[BJ]? = some (.cells #[.int .i64 kF,.int .i64 1,.int .i64 0,.int .i64 (Int.tmod (wrap64 (Int.tdiv a0 3600)) 24),.int .i64 (Int.tmod (wrap64 (Int.tdiv a0 60)) 60),.int .i64 (Int.tmod a0 60)] 117 (0,0))):=⟨adm⟩;have Bi:ae (Below w.heap.size w wr):=⟨by rw[← hq_];exact dN⟩;clear o6 lH HB hq_;have o6:=o7;have lH:=qG;have HB:=Bi;clear o7 qG Bi;obtain⟨_,_,_,_,_,_⟩:=kY o6;obtain⟨_,_,_,_,_,_⟩:=qK o6;obtain⟨_,_,_,_,_,_⟩:=kY lH;obtain⟨_,_,_,_,_,_⟩:=qK lH)))|((with_reducible refine ag (f:=203) rfl ?_);refine aG (some 29) rfl rfl Tryz.func203 aK rfl #[.int .i64 kF] rfl eu ?_;(with_reducible refine(lY.calls kF ab8 _ PS.out).mono ?_);rintro e w' ⟨rfl,⟨nd,rfl⟩⟩;refine⟨_,rfl,?_⟩;(try(rw[ma wr];generalize hq_:World.drewN wr _=wr;have o7:ae (wr.heap[Ej]? = some (.cells #[.int .i64 0,.int .i64 0,.int .i64 0,.int .i64 0,.int .i64 0,.int .i64 0] 117 (0,0))):=⟨ZB⟩;have qG:ae (wr.heap[BJ]? = some (.cells #[.int .i64 kF,.int .i64 1,.int .i64 0,.int .i64 (Int.tmod (wrap64 (Int.tdiv a0 3600)) 24),.int .i64 (Int.tmod (wrap64 (Int.tdiv a0 60)) 60),.int .i64 (Int.tmod a0 60)] 117 (0,0))):=⟨adm⟩;have Bi:ae (Below w.heap.size w wr):=⟨by rw[← hq_];exact dN⟩;clear o6 lH HB hq_;have o6:=o7;have lH:=qG;have HB:=Bi;clear o7 qG Bi;obtain⟨_,_,_,_,_,_⟩:=kY o6;obtain⟨_,_,_,_,_,_⟩:=qK o6;obtain⟨_,_,_,_,_,_⟩:=kY lH;obtain⟨_,_,_,_,_,_⟩:=qK lH))));go_roundg k1
     case measure=>have:=qj.out;omega
     case rel=>exact⟨(wrap64 (fT-ab8)),(wrap64 (kF+1)),fI,H',⟨by have:=qj.out;omega⟩,⟨yg⟩,⟨yg⟩,⟨dN⟩⟩
    ·have xY:decide (Vu≤fT)=false:=aN c9;clear c9;have H':=ae.mk H;clear H;have ayi:=Fw.out;have ayj:=Cn.out;obtain⟨_,_,_⟩:=VG lH;have QW:wr.cell? ⟨BJ,3,none⟩=some (.int .i64 (Int.tmod (wrap64 (Int.tdiv a0 3600)) 24)):=(ai lH.out 3).trans rfl;have QX:wr.cell? ⟨BJ,4,none⟩=some (.int .i64 (Int.tmod (wrap64 (Int.tdiv a0 60)) 60)):=(ai lH.out 4).trans rfl;have QY:=Rt lH;obtain⟨_,_,_,_,_,_⟩:=qK lH;go_wp2_with(first|((with_reducible refine ag (f:=203) rfl ?_);refine aG (some 24) rfl rfl Tryz.func203 aK rfl #[.int .i64 kF] rfl eu ?_;(with_reducible refine(lY.calls kF Vu _ A8.out).mono ?_);rintro e w' ⟨rfl,⟨nd,rfl⟩⟩;refine⟨_,rfl,?_⟩));go_loopg [4] k1 (fun kq v4 w'=>∃(kv:Int) (rz:Int),v4 = .int .i64 kv∧ae (cO.l1 kq kv kF rz 0 (Int.tmod (wrap64 (Int.tdiv a0 3600)) 24) (Int.tmod (wrap64 (Int.tdiv a0 60)) 60) (Int.tmod a0 60)=some (r1,r2,r3,r4,r5,r6,r7))∧ae (kq≤k1)∧ae (w'.heap[Ej]? = some (.cells #[.int .i64 0,.int .i64 0,.int .i64 0,.int .i64 0,.int .i64 0,.int .i64 0] 117 (0,0)))∧ae (w'.heap[BJ]? = some (.cells #[.int .i64 kF,.int .i64 rz,.int .i64 0,.int .i64 (Int.tmod (wrap64 (Int.tdiv a0 3600)) 24),.int .i64 (Int.tmod (wrap64 (Int.tdiv a0 60)) 60),.int .i64 (Int.tmod a0 60)] 117 (0,0)))∧ae (Below w.heap.size w w'))
     case atStart=>exact⟨(fT),(1),fI,H',⟨Nat.le_refl _⟩,⟨yg⟩,⟨yg⟩,⟨dN⟩⟩
     case round=>
      clear H';try clear c9
      try clear xY
      try clear QW
      try clear QX
      try clear QY
      obtain⟨kv,rz,rfl,HA,Eo,o6,lH,HB⟩:=hrel;cases gk with
      |zero=>exact absurd HA.out (by simp[cO.l1])
      |succ k2=>
       have H:=HA.out;clear HA;simp only[cO.l1] at H;replace H:=gD H;obtain⟨Vv,V5,H⟩:=H;replace H:=gI H;rcases H with⟨c16,-,-,H⟩|⟨c16,-,-,H⟩
       ·have Ae:decide (Vv≤kv)=true:=aT c16;clear c16;replace H:=gD H;obtain⟨ab9,ZN,H⟩:=H;have H':=ae.mk H;clear H;have aiP:=Fw.out;have aiQ:=Cn.out;obtain⟨_,_,_⟩:=VG lH;have ahY:wr.cell? ⟨BJ,3,none⟩=some (.int .i64 (Int.tmod (wrap64 (Int.tdiv a0 3600)) 24)):=(ai lH.out 3).trans rfl;have ahZ:wr.cell? ⟨BJ,4,none⟩=some (.int .i64 (Int.tmod (wrap64 (Int.tdiv a0 60)) 60)):=(ai lH.out 4).trans rfl;have ah0:=Rt lH;obtain⟨_,_,_,_,_,_⟩:=qK lH;go_wp2_with(first|((with_reducible refine ag (f:=204) rfl ?_);refine aG (some 40) rfl rfl Tryz.func204 aK rfl #[.int .i64 kF,.int .i64 rz] rfl eu ?_;(with_reducible refine(kJ.calls kF rz Vv _ V5.out).mono ?_);rintro e w' ⟨rfl,⟨nd,rfl⟩⟩;refine⟨_,rfl,?_⟩;(try(rw[ma wr];generalize hq_:World.drewN wr _=wr;have o7:ae (wr.heap[Ej]? = some (.cells #[.int .i64 0,.int .i64 0,.int .i64 0,.int .i64 0,.int .i64 0,.int .i64 0] 117 (0,0))):=⟨ZB⟩;have qG:ae (wr.heap[BJ]? = some (.cells #[.int .i64 kF,.int .i64 rz,.int .i64 0,.int .i64 (Int.tmod (wrap64 (Int.tdiv a0 3600)) 24),.int .i64 (Int.tmod (wrap64 (Int.tdiv a0 60)) 60),.int .i64 (Int.tmod a0 60)] 117 (0,0))):=⟨adm⟩;have Bi:ae (Below w.heap.size w wr):=⟨by rw[← hq_];exact dN⟩;clear o6 lH HB hq_;have o6:=o7;have lH:=qG;have HB:=Bi;clear o7 qG Bi;obtain⟨_,_,_,_,_,_⟩:=kY o6;obtain⟨_,_,_,_,_,_⟩:=qK o6;obtain⟨_,_,_,_,_,_⟩:=kY lH;obtain⟨_,_,_,_,_,_⟩:=qK lH)))|((with_reducible refine ag (f:=204) rfl ?_);refine aG (some 47) rfl rfl Tryz.func204 aK rfl #[.int .i64 kF,.int .i64 rz] rfl eu ?_;(with_reducible refine(kJ.calls kF rz ab9 _ ZN.out).mono ?_);rintro e w' ⟨rfl,⟨nd,rfl⟩⟩;refine⟨_,rfl,?_⟩;(try(rw[ma wr];generalize hq_:World.drewN wr _=wr;have o7:ae (wr.heap[Ej]? = some (.cells #[.int .i64 0,.int .i64 0,.int .i64 0,.int .i64 0,.int .i64 0,.int .i64 0] 117 (0,0))):=⟨ZB⟩;have qG:ae (wr.heap[BJ]? = some (.cells #[.int .i64 kF,.int .i64 rz,.int .i64 0,.int .i64 (Int.tmod (wrap64 (Int.tdiv a0 3600)) 24),.int .i64 (Int.tmod (wrap64 (Int.tdiv a0 60)) 60),.int .i64 (Int.tmod a0 60)] 117 (0,0))):=⟨adm⟩;have Bi:ae (Below w.heap.size w wr):=⟨by rw[← hq_];exact dN⟩;clear o6 lH HB hq_;have o6:=o7;have lH:=qG;have HB:=Bi;clear o7 qG Bi;obtain⟨_,_,_,_,_,_⟩:=kY o6;obtain⟨_,_,_,_,_,_⟩:=qK o6;obtain⟨_,_,_,_,_,_⟩:=kY lH;obtain⟨_,_,_,_,_,_⟩:=qK lH))));go_roundg k2
        case measure=>have:=qj.out;have:=Eo.out;omega
        case rel=>exact⟨(wrap64 (kv-ab9)),(wrap64 (rz+1)),fI,H',⟨VQ⟩,⟨yg⟩,⟨yg⟩,⟨dN⟩⟩
       ·have Ae:decide (Vv≤kv)=false:=aN c16;clear c16;simp only[Option.some.injEq,Prod.mk.injEq] at H;obtain⟨rfl,rfl,rfl,rfl,rfl,rfl,rfl⟩:=H;have ayk:=Fw.out;have ayl:=Cn.out;obtain⟨_,_,_⟩:=VG lH;have asB:wr.cell? ⟨BJ,3,none⟩=some (.int .i64 (Int.tmod (wrap64 (Int.tdiv a0 3600)) 24)):=(ai lH.out 3).trans rfl;have asC:wr.cell? ⟨BJ,4,none⟩=some (.int .i64 (Int.tmod (wrap64 (Int.tdiv a0 60)) 60)):=(ai lH.out 4).trans rfl;have asD:=Rt lH;obtain⟨_,_,_,_,_,_⟩:=qK lH;go_wp2_with(first|((with_reducible refine ag (f:=204) rfl ?_);refine aG (some 40) rfl rfl Tryz.func204 aK rfl #[.int .i64 kF,.int .i64 rz] rfl eu ?_;(with_reducible refine(kJ.calls kF rz Vv _ V5.out).mono ?_);rintro e w' ⟨rfl,⟨nd,rfl⟩⟩;refine⟨_,rfl,?_⟩;(try(rw[ma wr];generalize hq_:World.drewN wr _=wr;have o7:ae (wr.heap[Ej]? = some (.cells #[.int .i64 0,.int .i64 0,.int .i64 0,.int .i64 0,.int .i64 0,.int .i64 0] 117 (0,0))):=⟨ZB⟩;have qG:ae (wr.heap[BJ]? = some (.cells #[.int .i64 kF,.int .i64 rz,.int .i64 0,.int .i64 (Int.tmod (wrap64 (Int.tdiv a0 3600)) 24),.int .i64 (Int.tmod (wrap64 (Int.tdiv a0 60)) 60),.int .i64 (Int.tmod a0 60)] 117 (0,0))):=⟨adm⟩;have Bi:ae (Below w.heap.size w wr):=⟨by rw[← hq_];exact dN⟩;clear o6 lH HB hq_;have o6:=o7;have lH:=qG;have HB:=Bi;clear o7 qG Bi;obtain⟨_,_,_,_,_,_⟩:=kY o6;obtain⟨_,_,_,_,_,_⟩:=qK o6;obtain⟨_,_,_,_,_,_⟩:=kY lH;obtain⟨_,_,_,_,_,_⟩:=qK lH));obtain⟨_,_,_,_,_,_⟩:=kY o6;obtain⟨_,_,_,_,_,_⟩:=qK o6));refine VH Ej 117 #[.int .i64 kF,.int .i64 rz,.int .i64 (wrap64 (kv+1)),.int .i64 (Int.tmod (wrap64 (Int.tdiv a0 3600)) 24),.int .i64 (Int.tmod (wrap64 (Int.tdiv a0 60)) 60),.int .i64 (Int.tmod a0 60)] Tryz.underlying117 ?_;exact⟨nG,dN⟩
 ·simp only[Option.some.injEq,Prod.mk.injEq] at H;obtain⟨rfl,rfl,rfl,rfl,rfl,rfl,rfl⟩:=H;go_enter Tryz.func161,Tryz.ntmps161;go_wp2_with(first|((with_reducible refine aY (N:=2) rfl ?_);refine jX #[.int .i64 0,.int .i64 0,.int .i64 0,.int .i64 0,.int .i64 0,.int .i64 0] 117 ?_;intro Ej hg w23 hbox hb;have o6:=ae.mk (hbox);have am7:=jL hg;have am8:=jL hg;replace HB:=dS hb;clear hb hbox hg)|((with_reducible refine ag (f:=31) rfl ?_);refine aG (some 7) rfl rfl Tryz.func31 aK rfl #[.int .i64 a0] rfl eu ?_;(with_reducible refine(jq.calls a0 false _ A2.out).mono ?_);rintro e w' ⟨rfl,⟨nd,rfl⟩⟩;refine⟨_,rfl,?_⟩;(try(rw[ma w23];generalize hq_:World.drewN w23 _=w23;have o7:ae (w23.heap[Ej]? = some (.cells #[.int .i64 0,.int .i64 0,.int .i64 0,.int .i64 0,.int .i64 0,.int .i64 0] 117 (0,0))):=⟨ZB⟩;have qG:ae (Below w.heap.size w w23):=⟨by rw[← hq_];exact dN⟩;clear o6 HB hq_;have o6:=o7;have HB:=qG;clear o7 qG));obtain⟨_,_,_,_,_,_⟩:=kY o6;obtain⟨_,_,_,_,_,_⟩:=qK o6));refine VH Ej 117 #[.int .i64 0,.int .i64 0,.int .i64 0,.int .i64 0,.int .i64 0,.int .i64 0] Tryz.underlying117 ?_;exact⟨nG,dN⟩


def lg.f (a0:Int):Option (Int):=(jq.f a0).bind fun akx=>(if akx=true then(some (Int.tmod (wrap64 ((wrap64 (Int.tdiv a0 86400))+3)) 7)) else(some (-1)))
theorem lg.e0 {p:Prop} (h:p:=by
  obtain rfl:=cu H
  go_enter Tryz.func163,Tryz.ntmps163
  go_wp2_with(first|((with_reducible refine ag (f:=31) rfl ?_);refine aG (some 4) rfl rfl Tryz.func31 aK rfl #[.int .i64 a0] rfl eu ?_;(with_reducible refine(jq.calls a0 false _ A2.out).mono ?_);rintro e w' ⟨rfl,⟨nd,rfl⟩⟩;refine⟨_,rfl,?_⟩)|((with_reducible refine ag (f:=31) rfl ?_);refine aG (some 4) rfl rfl Tryz.func31 aK rfl #[.int .i64 a0] rfl eu ?_;(with_reducible refine(jq.calls a0 true _ A2.out).mono ?_);rintro e w' ⟨rfl,⟨nd,rfl⟩⟩;refine⟨_,rfl,?_⟩))
  go_ret
  exact⟨fI,lG⟩):p:=h
theorem lg.calls (a0 r:Int) (w:World) (h:lg.f a0=some r) :
  Calls Tryz.prog 163 #[.int .i64 a0] w fun e w'=>e = .returned (.int .i64 r)∧ed w w':=by
 have H:=h;clear h;unfold lg.f at H;replace H:=gD H;obtain⟨akx,A2,H⟩:=H;replace H:=gB H;rcases H with⟨rfl,H⟩|⟨rfl,H⟩
 ·exact lg.e0
 ·exact lg.e0

def kT.f (a0:Int):Option (ByteArray):=if a0=0 then(some (⟨#[77,111,110,100,97,121]⟩:af)) else(if a0=1 then(some (⟨#[84,117,101,115,100,97,121]⟩:af)) else(if a0=2 then(some (⟨#[87,101,100,110,101,115,100,97,121]⟩:af)) else(if a0=3 then(some (⟨#[84,104,117,114,115,100,97,121]⟩:af)) else(if a0=4 then(some (⟨#[70,114,105,100,97,121]⟩:af)) else(if a0=5 then(some (⟨#[83,97,116,117,114,100,97,121]⟩:af)) else(some (⟨#[83,117,110,100,97,121]⟩:af)))))))
theorem kT.calls (a0:Int) (r:ByteArray) (w:World) (h:kT.f a0=some r) :
  Calls Tryz.prog 162 #[.int .i64 a0] w fun e w'=>e = .returned (.string r)∧ed w w':=by
 have H:=h;clear h;unfold kT.f at H;replace H:=gI H;rcases H with⟨c2,-,-,H⟩|⟨c2,-,-,H⟩
 ·obtain⟨nk,wB⟩:=rD c2;clear c2;obtain rfl:=cu H;go_enter Tryz.func162,Tryz.ntmps162;go_wp2;go_ret;exact⟨fI,lG⟩
 ·obtain⟨nk,wB⟩:=rO c2;replace H:=gI H;rcases H with⟨c3,-,-,H⟩|⟨c3,-,-,H⟩
  ·obtain⟨gM,uX⟩:=rD c3;clear c3;obtain rfl:=cu H;go_enter Tryz.func162,Tryz.ntmps162;go_wp2;go_ret;exact⟨fI,lG⟩
  ·obtain⟨gM,uX⟩:=rO c3;replace H:=gI H;rcases H with⟨c4,-,-,H⟩|⟨c4,-,-,H⟩
   ·obtain⟨mP,yH⟩:=rD c4;clear c4;obtain rfl:=cu H;go_enter Tryz.func162,Tryz.ntmps162;go_wp2;go_ret;exact⟨fI,lG⟩
   ·obtain⟨mP,yH⟩:=rO c4;replace H:=gI H;rcases H with⟨c5,-,-,H⟩|⟨c5,-,-,H⟩
    ·obtain⟨qh,Al⟩:=rD c5;clear c5;obtain rfl:=cu H;go_enter Tryz.func162,Tryz.ntmps162;go_wp2;go_ret;exact⟨fI,lG⟩
    ·obtain⟨qh,Al⟩:=rO c5;replace H:=gI H;rcases H with⟨c6,-,-,H⟩|⟨c6,-,-,H⟩
     ·obtain⟨nW,yK⟩:=rD c6;clear c6;obtain rfl:=cu H;go_enter Tryz.func162,Tryz.ntmps162;go_wp2;go_ret;exact⟨fI,lG⟩
     ·obtain⟨nW,yK⟩:=rO c6;replace H:=gI H;rcases H with⟨c7,-,-,H⟩|⟨c7,-,-,H⟩
      ·obtain⟨uR,KS⟩:=rD c7;clear c7;obtain rfl:=cu H;go_enter Tryz.func162,Tryz.ntmps162;go_wp2;go_ret;exact⟨fI,lG⟩
      ·obtain⟨uR,KS⟩:=rO c7;obtain rfl:=cu H;go_enter Tryz.func162,Tryz.ntmps162;go_wp2;go_ret;exact⟨fI,lG⟩

def eT.l0 : Nat→Int→ByteArray→Option (ByteArray)
 |0,_,_=>none
 |k+1,x1,x5=>if(x5.size:Int)<x1 then(if 1+x5.size≤9223372036854775807 then(eT.l0 k x1 ((⟨#[48]⟩:af)++x5)) else(none)) else(some x5)
def eT.f (k:Nat) (a0:Int) (a1:Int):Option (ByteArray):=(bU.f k a0).bind fun aca=>(eT.l0 k a1 aca)
theorem eT.calls (k:Nat) (a0 a1:Int) (r:ByteArray) (w:World) (h:eT.f k a0 a1=some r) :
  Calls Tryz.prog 164 #[.int .i64 a0,.int .i64 a1] w fun e w'=>e = .returned (.string r)∧Below w.heap.size w w':=by
 have HB:=ae.mk (Below.refl w.heap.size w);have H:=h;clear h;unfold eT.f at H;replace H:=gD H;obtain⟨aca,A3,H⟩:=H;have H':=ae.mk H;clear H;go_enter Tryz.func164,Tryz.ntmps164;go_wp2_with(first|((with_reducible refine ag (f:=102) rfl ?_);refine aG (some 7) rfl rfl Tryz.func102 aK rfl #[.int .i64 a0] rfl eu ?_;(with_reducible refine(bU.calls k a0 aca _ A3.out).mono ?_);rintro e w4 ⟨rfl,hb⟩;refine⟨_,rfl,?_⟩;replace HB:=dS hb;(try clear hb)));go_loopg [5] k (fun kq v5 w'=>∃(dJ:ByteArray),v5 = .string dJ∧ae (eT.l0 kq a1 dJ=some r)∧ae (kq≤k)∧ae (Below w.heap.size w w'))
 case atStart=>exact⟨(aca),fI,H',⟨Nat.le_refl _⟩,⟨dN⟩⟩
 case round=>
  clear H';obtain⟨dJ,rfl,HA,qj,HB⟩:=hrel;cases gk with
  |zero=>exact absurd HA.out (by simp[eT.l0])
  |succ k1=>
   have H:=HA.out;clear HA;simp only[eT.l0] at H;replace H:=gI H;rcases H with⟨-,qh,-,H⟩|⟨-,qh,-,H⟩
   ·replace H:=gN H;obtain⟨c6,yK,nW,H⟩:=H;try have afm:(9223372036854775807<1+dJ.size)=False:=eq_false (Nat.not_lt.2 c6)
    have H':=ae.mk H;clear H;go_wp2;go_roundg k1
    case measure=>have:=qj.out;omega
    case rel=>exact⟨((⟨#[48]⟩:af)++dJ),fI,H',⟨by have:=qj.out;omega⟩,⟨dN⟩⟩
   ·obtain rfl:=cu H;go_wp2;go_ret;exact⟨nG,dN⟩


def iY.f (k:Nat) (aA:Int) (aC:Int) (aI:Int) (bD:Int) (aU:Int) (bZ:Int):Option (ByteArray):=(eT.f k bD 2).bind fun Iq=>(if Iq.size+1≤9223372036854775807 then((eT.f k aU 2).bind fun JX=>(if(Iq++(⟨#[58]⟩:af)).size+JX.size≤9223372036854775807 then(if((Iq++(⟨#[58]⟩:af))++JX).size+1≤9223372036854775807 then((eT.f k bZ 2).bind fun Vw=>(if(((Iq++(⟨#[58]⟩:af))++JX)++(⟨#[58]⟩:af)).size+Vw.size≤9223372036854775807 then(some ((((Iq++(⟨#[58]⟩:af))++JX)++(⟨#[58]⟩:af))++Vw)) else(none))) else(none)) else(none))) else(none))
def iY.T1 : Bool×List (List Nat×List Nat):=(true,[([],[]),([0],[0]),([1],[1]),([2],[2]),([],[]),([4],[4]),([5,2],[5]),([3,6],[3,6]),([7],[7]),([],[]),([9],[9]),([10,6],[10]),([8,11],[8,11]),([12,11,0,1,2,3,4,5,6,7,8,9,10,11,12],[12])])
def iY.B1 : List Nat:=[0,1,3,7,0,16,55,127,255,0,512,1655,4095,8191]
theorem iY.FC : rP .any (opsOf Tryz.f165 1)=iY.T1:=by kernel_rfl
theorem iY.yI : kD iY.T1.2 iY.B1=true:=by kernel_rfl
theorem iY.calls (k:Nat) (aA aC:Int) (aI bD:Int) (aU bZ:Int) (r:ByteArray) (w:World) (h:iY.f k aA aC aI bD aU bZ=some r) :
  Calls Tryz.prog 165 #[.agg #[.int .i64 aA,.int .i64 aC,.int .i64 aI,.int .i64 bD,.int .i64 aU,.int .i64 bZ]] w fun e w'=>e = .returned (.string r)∧Below w.heap.size w w':=by
 have GH:=Tryz.underlying117;have HB:=ae.mk (Below.refl w.heap.size w);have H:=h;clear h;unfold iY.f at H;replace H:=gD H;obtain⟨Iq,A2,H⟩:=H;replace H:=gI H;rcases H with⟨c3,uX,gM,H⟩|⟨c3,-,-,H⟩
 ·try have Ui:(9223372036854775807<Iq.size+1)=False:=eq_false (Nat.not_lt.2 c3)
  replace H:=gD H;obtain⟨JX,A4,H⟩:=H;replace H:=gN H;obtain⟨c5,Al,qh,H⟩:=H;try have ah1:(9223372036854775807<(Iq++(⟨#[58]⟩:af)).size+JX.size)=False:=eq_false (Nat.not_lt.2 c5)
  try have alX:(9223372036854775807<Iq.size+1+JX.size)=False:=by have h_:=c5;simp only[ByteArray.size_append] at h_;exact eq_false (Nat.not_lt.2 h_)
  replace H:=gN H;obtain⟨c6,yK,nW,H⟩:=H;try have afm:(9223372036854775807<((Iq++(⟨#[58]⟩:af))++JX).size+1)=False:=eq_false (Nat.not_lt.2 c6)
  try have apv:(9223372036854775807<Iq.size+1+JX.size+1)=False:=by have h_:=c6;simp only[ByteArray.size_append] at h_;exact eq_false (Nat.not_lt.2 h_)
  replace H:=gD H;obtain⟨Vw,A7,H⟩:=H;replace H:=gN H;obtain⟨c8,Iu,tO,H⟩:=H;try have alY:(9223372036854775807<(((Iq++(⟨#[58]⟩:af))++JX)++(⟨#[58]⟩:af)).size+Vw.size)=False:=eq_false (Nat.not_lt.2 c8)
  try have atI:(9223372036854775807<Iq.size+1+JX.size+1+Vw.size)=False:=by have h_:=c8;simp only[ByteArray.size_append] at h_;exact eq_false (Nat.not_lt.2 h_)
  obtain rfl:=cu H;go_enter Tryz.func165,Tryz.ntmps165;try go_wp2_with(((with_reducible refine aY (N:=1) rfl ?_);refine jX #[.int .i64 aA,.int .i64 aC,.int .i64 aI,.int .i64 bD,.int .i64 aU,.int .i64 bZ] 117 ?_;intro JM hg jm hbox hb;have IA:=ae.mk (hbox);have auM:=jL hg;replace HB:=dS hb;clear hb hbox hg))
  replace IA:=ae.mk (bJ IA.out);replace HB:=ae.mk (di HB.out);refine lL (n:=14) (S:=fun w'=>w'.cell? ⟨JM,0,none⟩=some (.int .i64 aA)∧w'.cell? ⟨JM,1,none⟩=some (.int .i64 aC)∧w'.cell? ⟨JM,2,none⟩=some (.int .i64 aI)∧w'.cell? ⟨JM,3,none⟩=some (.int .i64 bD)∧w'.cell? ⟨JM,4,none⟩=some (.int .i64 aU)∧w'.cell? ⟨JM,5,none⟩=some (.int .i64 bZ)) (ds:=[]) (kY IA) (fun hHeld=>?_);refine fu iY.FC iY.yI (fun HT_ HW_=>?_);generalize jm.drew=ku at IA HB hHeld ⊢;repeat(first|refine nU ?_ (hy:=Or.inl ⟨by rfl,VI⟩)|refine fA ?_)
  refine dn 4 (some 7) ?_;refine iC 5 (some 8) (hy:=Or.inl ⟨by rfl,VI⟩) ?_;refine dn 9 (some 12) ?_;refine iC 10 (some 13) (hy:=Or.inl ⟨by rfl,VI⟩) ?_;refine iM (fun K hK=>?_);refine dV Tryz.func164 aK rfl #[.int .i64 bD,.int .i64 2] (by rfl) rfl rfl eu ?_;(with_reducible refine(eT.calls k bD 2 Iq _ A2.out).mono ?_);rintro e pU ⟨rfl,hb⟩;refine⟨_,rfl,?_⟩;replace IA:=iG (g:=JM) hb;replace HB:=dS hb;(try clear hb)
  refine hK.out _ _ (kY IA) (fun hHeld=>?_);clear hK K;refine eP ?_;repeat(first|refine fA ?_)
  refine iM (fun K hK=>?_);refine dV Tryz.func164 aK rfl #[.int .i64 aU,.int .i64 2] (by rfl) rfl rfl eu ?_;(with_reducible refine(eT.calls k aU 2 JX _ A4.out).mono ?_);rintro e pU ⟨rfl,hb⟩;refine⟨_,rfl,?_⟩;replace IA:=iG (g:=JM) hb;replace HB:=dS hb;(try clear hb)
  refine hK.out _ _ (kY IA) (fun hHeld=>?_);clear hK K;refine eP ?_;repeat(first|refine fA ?_)
  refine iM (fun K hK=>?_);refine dV Tryz.func164 aK rfl #[.int .i64 bZ,.int .i64 2] (by rfl) rfl rfl eu ?_;(with_reducible refine(eT.calls k bZ 2 Vw _ A7.out).mono ?_);rintro e pU ⟨rfl,hb⟩;refine⟨_,rfl,?_⟩;replace IA:=iG (g:=JM) hb;replace HB:=dS hb;(try clear hb)
  refine hK.out _ _ (kY IA) (fun hHeld=>?_);clear hK K;refine eP ?_;repeat(first|refine fA ?_)
  refine mW (iR HT_.out aK) ?_;try go_wp2
  go_ret;exact⟨nG,dN⟩
 ·exact absurd H (by simp)


def gX.f (k:Nat) (a0:Int):Option (ByteArray):=(cO.f k a0).bind fun IB=>(if IB.2.2.2.2.2.2=true then((lg.f a0).bind fun Zh=>((kT.f Zh).bind fun rA=>(if 0≤3 then(if 3≤(rA.size:Int) then(if(rA.extract 0 3).size+2≤9223372036854775807 then((eT.f k IB.2.2.1 2).bind fun sP=>(if((rA.extract 0 3)++(⟨#[44,32]⟩:af)).size+sP.size≤9223372036854775807 then(if(((rA.extract 0 3)++(⟨#[44,32]⟩:af))++sP).size+1≤9223372036854775807 then((iI.f IB.2.1).bind fun xI=>(if((((rA.extract 0 3)++(⟨#[44,32]⟩:af))++sP)++(⟨#[32]⟩:af)).size+xI.size≤9223372036854775807 then(if(((((rA.extract 0 3)++(⟨#[44,32]⟩:af))++sP)++(⟨#[32]⟩:af))++xI).size+1≤9223372036854775807 then((eT.f k IB.1 4).bind fun El=>(if((((((rA.extract 0 3)++(⟨#[44,32]⟩:af))++sP)++(⟨#[32]⟩:af))++xI)++(⟨#[32]⟩:af)).size+El.size≤9223372036854775807 then(if(((((((rA.extract 0 3)++(⟨#[44,32]⟩:af))++sP)++(⟨#[32]⟩:af))++xI)++(⟨#[32]⟩:af))++El).size+1≤9223372036854775807 then((iY.f k IB.1 IB.2.1 IB.2.2.1 IB.2.2.2.1 IB.2.2.2.2.1 IB.2.2.2.2.2.1).bind fun Ls=>(if((((((((rA.extract 0 3)++(⟨#[44,32]⟩:af))++sP)++(⟨#[32]⟩:af))++xI)++(⟨#[32]⟩:af))++El)++(⟨#[32]⟩:af)).size+Ls.size≤9223372036854775807 then(if(((((((((rA.extract 0 3)++(⟨#[44,32]⟩:af))++sP)++(⟨#[32]⟩:af))++xI)++(⟨#[32]⟩:af))++El)++(⟨#[32]⟩:af))++Ls).size+4≤9223372036854775807 then(some ((((((((((rA.extract 0 3)++(⟨#[44,32]⟩:af))++sP)++(⟨#[32]⟩:af))++xI)++(⟨#[32]⟩:af))++El)++(⟨#[32]⟩:af))++Ls)++(⟨#[32,71,77,84]⟩:af))) else(none)) else(none))) else(none)) else(none))) else(none)) else(none))) else(none)) else(none))) else(none)) else(none)) else(none)))) else(some (⟨#[]⟩:af)))
def gX.T4 : Bool×List (List Nat×List Nat):=(true,[([],[]),([0],[0]),([1,1],[1]),([2],[2]),([3],[3]),([],[]),([5],[5]),([6,2],[6]),([4,7],[4,7]),([8],[8]),([],[]),([10],[10]),([11,7],[11]),([9,12],[9,12]),([13],[13]),([],[]),([15],[15]),([16,12],[16]),([14,17],[14,17]),([18],[18]),([],[]),([20,17],[20]),([19,21],[19,21]),([22],[22]),([23,21,0,1,2,3,4,5,6,7,8,9,10,11,12,13,14,15,16,17,18,19,20,21,22,23],[23])])
def gX.B4 : List Nat:=[0,1,3,7,15,0,32,103,255,511,0,1024,3303,8191,16383,0,32768,105703,262143,524287,0,1285351,4194303,8388607,16777215]
theorem gX.aaA : rP .any (opsOf Tryz.f117 4)=gX.T4:=by kernel_rfl
theorem gX.SS : kD gX.T4.2 gX.B4=true:=by kernel_rfl
theorem gX.calls (k:Nat) (a0:Int) (r:ByteArray) (w:World) (h:gX.f k a0=some r) :
  Calls Tryz.prog 117 #[.int .i64 a0] w fun e w'=>e = .returned (.string r)∧Below w.heap.size w w':=by
 have GH:=Tryz.underlying117;have HB:=ae.mk (Below.refl w.heap.size w);have H:=h;clear h;unfold gX.f at H;replace H:=gD H;obtain⟨⟨Lt,Lu,Lv,OW,OX,OY,aym⟩,A2,H⟩:=H;dsimp only at H;replace H:=gB H;rcases H with⟨rfl,H⟩|⟨rfl,H⟩
 ·replace H:=gD H;obtain⟨Zh,A4,H⟩:=H;replace H:=gD H;obtain⟨rA,A5,H⟩:=H;replace H:=gN H;obtain⟨-,yK,nW,H⟩:=H;replace H:=gN H;obtain⟨-,KS,uR,H⟩:=H;replace H:=gN H;obtain⟨c8,Iu,tO,H⟩:=H;try have alY:(9223372036854775807<(rA.extract 0 3).size+2)=False:=eq_false (Nat.not_lt.2 c8)
  try have c8m:(9223372036854775807<min 3 rA.size+2)=False:=by have h_:=alY;simpa only[ByteArray.size_extract,Nat.sub_zero] using h_
  replace H:=gD H;obtain⟨sP,A9,H⟩:=H;replace H:=gN H;obtain⟨c10,L6,yS,H⟩:=H;try have ajY:(9223372036854775807<((rA.extract 0 3)++(⟨#[44,32]⟩:af)).size+sP.size)=False:=eq_false (Nat.not_lt.2 c10)
  try have asu:(9223372036854775807<(rA.extract 0 3).size+2+sP.size)=False:=by have h_:=c10;simp only[ByteArray.size_append] at h_;exact eq_false (Nat.not_lt.2 h_)
  try have azI:(9223372036854775807<min 3 rA.size+2+sP.size)=False:=by have h_:=asu;simpa only[ByteArray.size_extract,Nat.sub_zero] using h_
  replace H:=gN H;obtain⟨c11,JO,xA,H⟩:=H;try have afn:(9223372036854775807<(((rA.extract 0 3)++(⟨#[44,32]⟩:af))++sP).size+1)=False:=eq_false (Nat.not_lt.2 c11)
  try have aki:(9223372036854775807<(rA.extract 0 3).size+2+sP.size+1)=False:=by have h_:=c11;simp only[ByteArray.size_append] at h_;exact eq_false (Nat.not_lt.2 h_)
  try have atK:(9223372036854775807<min 3 rA.size+2+sP.size+1)=False:=by have h_:=aki;simpa only[ByteArray.size_extract,Nat.sub_zero] using h_
  replace H:=gD H;obtain⟨xI,LU,H⟩:=H;replace H:=gN H;obtain⟨c13,H9,zP,H⟩:=H;try have abH:(9223372036854775807<((((rA.extract 0 3)++(⟨#[44,32]⟩:af))++sP)++(⟨#[32]⟩:af)).size+xI.size)=False:=eq_false (Nat.not_lt.2 c13)
  try have abI:(9223372036854775807<(rA.extract 0 3).size+2+sP.size+1+xI.size)=False:=by have h_:=c13;simp only[ByteArray.size_append] at h_;exact eq_false (Nat.not_lt.2 h_)
  try have atL:(9223372036854775807<min 3 rA.size+2+sP.size+1+xI.size)=False:=by have h_:=abI;simpa only[ByteArray.size_extract,Nat.sub_zero] using h_
  replace H:=gN H;obtain⟨c14,U2,Ma,H⟩:=H;try have abg:(9223372036854775807<(((((rA.extract 0 3)++(⟨#[44,32]⟩:af))++sP)++(⟨#[32]⟩:af))++xI).size+1)=False:=eq_false (Nat.not_lt.2 c14)
  try have abJ:(9223372036854775807<(rA.extract 0 3).size+2+sP.size+1+xI.size+1)=False:=by have h_:=c14;simp only[ByteArray.size_append] at h_;exact eq_false (Nat.not_lt.2 h_)
  try have aoW:(9223372036854775807<min 3 rA.size+2+sP.size+1+xI.size+1)=False:=by have h_:=abJ;simpa only[ByteArray.size_extract,Nat.sub_zero] using h_
  replace H:=gD H;obtain⟨El,V5,H⟩:=H;replace H:=gN H;obtain⟨c16,Ji,Ae,H⟩:=H;try have apG:(9223372036854775807<((((((rA.extract 0 3)++(⟨#[44,32]⟩:af))++sP)++(⟨#[32]⟩:af))++xI)++(⟨#[32]⟩:af)).size+El.size)=False:=eq_false (Nat.not_lt.2 c16)
  try have ajA:(9223372036854775807<(rA.extract 0 3).size+2+sP.size+1+xI.size+1+El.size)=False:=by have h_:=c16;simp only[ByteArray.size_append] at h_;exact eq_false (Nat.not_lt.2 h_)
  try have azJ:(9223372036854775807<min 3 rA.size+2+sP.size+1+xI.size+1+El.size)=False:=by have h_:=ajA;simpa only[ByteArray.size_extract,Nat.sub_zero] using h_
  replace H:=gN H;obtain⟨c17,JQ,Bh,H⟩:=H;try have asf:(9223372036854775807<(((((((rA.extract 0 3)++(⟨#[44,32]⟩:af))++sP)++(⟨#[32]⟩:af))++xI)++(⟨#[32]⟩:af))++El).size+1)=False:=eq_false (Nat.not_lt.2 c17)
  try have akl:(9223372036854775807<(rA.extract 0 3).size+2+sP.size+1+xI.size+1+El.size+1)=False:=by have h_:=c17;simp only[ByteArray.size_append] at h_;exact eq_false (Nat.not_lt.2 h_)
  try have azK:(9223372036854775807<min 3 rA.size+2+sP.size+1+xI.size+1+El.size+1)=False:=by have h_:=akl;simpa only[ByteArray.size_extract,Nat.sub_zero] using h_
  replace H:=gD H;obtain⟨Ls,A18,H⟩:=H;replace H:=gN H;obtain⟨c19,U3,Mc,H⟩:=H;try have ajv:(9223372036854775807<((((((((rA.extract 0 3)++(⟨#[44,32]⟩:af))++sP)++(⟨#[32]⟩:af))++xI)++(⟨#[32]⟩:af))++El)++(⟨#[32]⟩:af)).size+Ls.size)=False:=eq_false (Nat.not_lt.2 c19)
  try have afo:(9223372036854775807<(rA.extract 0 3).size+2+sP.size+1+xI.size+1+El.size+1+Ls.size)=False:=by have h_:=c19;simp only[ByteArray.size_append] at h_;exact eq_false (Nat.not_lt.2 h_)
  try have atN:(9223372036854775807<min 3 rA.size+2+sP.size+1+xI.size+1+El.size+1+Ls.size)=False:=by have h_:=afo;simpa only[ByteArray.size_extract,Nat.sub_zero] using h_
  replace H:=gN H;obtain⟨c20,Oo,Ex,H⟩:=H;try have X4:(9223372036854775807<(((((((((rA.extract 0 3)++(⟨#[44,32]⟩:af))++sP)++(⟨#[32]⟩:af))++xI)++(⟨#[32]⟩:af))++El)++(⟨#[32]⟩:af))++Ls).size+4)=False:=eq_false (Nat.not_lt.2 c20)
  try have X5:(9223372036854775807<(rA.extract 0 3).size+2+sP.size+1+xI.size+1+El.size+1+Ls.size+4)=False:=by have h_:=c20;simp only[ByteArray.size_append] at h_;exact eq_false (Nat.not_lt.2 h_)
  try have apw:(9223372036854775807<min 3 rA.size+2+sP.size+1+xI.size+1+El.size+1+Ls.size+4)=False:=by have h_:=X5;simpa only[ByteArray.size_extract,Nat.sub_zero] using h_
  obtain rfl:=cu H;go_enter Tryz.func117,Tryz.ntmps117;try go_wp2_with(first|((with_reducible refine ag (f:=161) rfl ?_);refine aG (some 7) rfl rfl Tryz.func161 aK rfl #[.int .i64 a0] rfl eu ?_;(with_reducible refine(cO.calls k a0 Lt Lu Lv OW OX OY true _ A2.out).mono ?_);rintro e jm ⟨rfl,hb⟩;refine⟨_,rfl,?_⟩;replace HB:=dS hb;(try clear hb))|((with_reducible refine aY (N:=3) rfl ?_);refine jX #[.int .i64 0,.int .i64 0,.int .i64 0,.int .i64 0,.int .i64 0,.int .i64 0] 117 ?_;intro rC hg ku hbox hb;have xJ:=ae.mk (hbox);have am9:=jL hg;have ana:=jL hg;replace HB:=dS hb;clear hb hbox hg;obtain⟨_,_,_,_,_,_⟩:=kY xJ;obtain⟨_,_,_,_,_,_⟩:=qK xJ))
  have Ag:ae (((((((ku.setCell ⟨rC,0,none⟩ (.int .i64 Lt)).setCell ⟨rC,1,none⟩ (.int .i64 Lu)).setCell ⟨rC,2,none⟩ (.int .i64 Lv)).setCell ⟨rC,3,none⟩ (.int .i64 OW)).setCell ⟨rC,4,none⟩ (.int .i64 OX)).setCell ⟨rC,5,none⟩ (.int .i64 OY)).heap[rC]? = some (.cells #[.int .i64 Lt,.int .i64 Lu,.int .i64 Lv,.int .i64 OW,.int .i64 OX,.int .i64 OY] 117 (0,0))):=⟨yg⟩;have zV:ae (Below w.heap.size w ((((((ku.setCell ⟨rC,0,none⟩ (.int .i64 Lt)).setCell ⟨rC,1,none⟩ (.int .i64 Lu)).setCell ⟨rC,2,none⟩ (.int .i64 Lv)).setCell ⟨rC,3,none⟩ (.int .i64 OW)).setCell ⟨rC,4,none⟩ (.int .i64 OX)).setCell ⟨rC,5,none⟩ (.int .i64 OY))):=⟨dN⟩;(try clear xJ)
  (try clear HB)
  generalize((((((ku.setCell ⟨rC,0,none⟩ (.int .i64 Lt)).setCell ⟨rC,1,none⟩ (.int .i64 Lu)).setCell ⟨rC,2,none⟩ (.int .i64 Lv)).setCell ⟨rC,3,none⟩ (.int .i64 OW)).setCell ⟨rC,4,none⟩ (.int .i64 OX)).setCell ⟨rC,5,none⟩ (.int .i64 OY))=zO at Ag zV ⊢;have xJ:=Ag;have HB:=zV;clear Ag zV;replace xJ:=ae.mk (bJ xJ.out);replace HB:=ae.mk (di HB.out);refine lL (n:=25) (S:=fun w'=>w'.cell? ⟨rC,0,none⟩=some (.int .i64 Lt)∧w'.cell? ⟨rC,1,none⟩=some (.int .i64 Lu)∧w'.cell? ⟨rC,2,none⟩=some (.int .i64 Lv)∧w'.cell? ⟨rC,3,none⟩=some (.int .i64 OW)∧w'.cell? ⟨rC,4,none⟩=some (.int .i64 OX)∧w'.cell? ⟨rC,5,none⟩=some (.int .i64 OY)) (ds:=[]) (kY xJ) (fun hHeld=>?_);refine fu gX.aaA gX.SS (fun HT_ HW_=>?_);generalize zO.drew=Fq at xJ HB hHeld ⊢;repeat(first|refine fA ?_)
  refine dn 5 (some 17) ?_;refine iC 6 (some 18) (hy:=Or.inl ⟨by rfl,VI⟩) ?_;refine dn 10 (some 22) ?_;refine iC 11 (some 23) (hy:=Or.inl ⟨by rfl,VI⟩) ?_;refine dn 15 (some 27) ?_;refine iC 16 (some 28) (hy:=Or.inl ⟨by rfl,VI⟩) ?_;refine iC 20 (some 32) (hy:=Or.inl ⟨by rfl,VI⟩) ?_;refine iM (fun K hK=>?_);refine dV Tryz.func163 aK rfl #[.int .i64 a0] (by rfl) rfl rfl eu ?_;(with_reducible refine(lg.calls a0 Zh _ A4.out).mono ?_);rintro e w' ⟨rfl,⟨nd,rfl⟩⟩;refine⟨_,rfl,?_⟩;refine hK.out _ _ (kY xJ) (fun hHeld=>?_);clear hK K;refine eP ?_;refine iM (fun K hK=>?_);refine dV Tryz.func162 aK rfl #[.int .i64 Zh] (by rfl) rfl rfl eu ?_;(with_reducible refine(kT.calls Zh rA _ A5.out).mono ?_);rintro e w' ⟨rfl,⟨nd,rfl⟩⟩;refine⟨_,rfl,?_⟩;refine hK.out _ _ (kY xJ) (fun hHeld=>?_);clear hK K;refine eP ?_;repeat(first|refine fA ?_)
  refine iM (fun K hK=>?_);refine dV Tryz.func164 aK rfl #[.int .i64 Lv,.int .i64 2] (by rfl) rfl rfl eu ?_;(with_reducible refine(eT.calls k Lv 2 sP _ A9.out).mono ?_);rintro e Jv ⟨rfl,hb⟩;refine⟨_,rfl,?_⟩;replace xJ:=iG (g:=rC) hb;replace HB:=dS hb;(try clear hb)
  (try clear hb2)
  (try clear hk)
  (try clear hi)
  refine hK.out _ _ (kY xJ) (fun hHeld=>?_);clear hK K;refine eP ?_;repeat(first|refine fA ?_)
  refine iM (fun K hK=>?_);refine dV Tryz.func160 aK rfl #[.int .i64 Lu] (by rfl) rfl rfl eu ?_;(with_reducible refine(iI.calls Lu xI _ LU.out).mono ?_);rintro e w' ⟨rfl,⟨nd,rfl⟩⟩;refine⟨_,rfl,?_⟩;refine hK.out _ _ (kY xJ) (fun hHeld=>?_);clear hK K;refine eP ?_;repeat(first|refine fA ?_)
  refine iM (fun K hK=>?_);refine dV Tryz.func164 aK rfl #[.int .i64 Lt,.int .i64 4] (by rfl) rfl rfl eu ?_;(with_reducible refine(eT.calls k Lt 4 El _ V5.out).mono ?_);rintro e Jv ⟨rfl,hb⟩;refine⟨_,rfl,?_⟩;replace xJ:=iG (g:=rC) hb;replace HB:=dS hb;(try clear hb)
  (try clear hb2)
  (try clear hk)
  (try clear hi)
  refine hK.out _ _ (kY xJ) (fun hHeld=>?_);clear hK K;refine eP ?_;repeat(first|refine fA ?_)
  refine iM (fun K hK=>?_);refine dV Tryz.func165 aK rfl #[.agg #[.int .i64 Lt,.int .i64 Lu,.int .i64 Lv,.int .i64 OW,.int .i64 OX,.int .i64 OY]] (by rfl) rfl rfl eu ?_;(with_reducible refine(iY.calls k Lt Lu Lv OW OX OY Ls _ A18.out).mono ?_);rintro e Jv ⟨rfl,hb⟩;refine⟨_,rfl,?_⟩;replace xJ:=iG (g:=rC) hb;replace HB:=dS hb;(try clear hb)
  (try clear hb2)
  (try clear hk)
  (try clear hi)
  refine hK.out _ _ (kY xJ) (fun hHeld=>?_);clear hK K;refine eP ?_;repeat(first|refine fA ?_)
  refine mW (iR HT_.out aK) ?_;try go_wp2
  go_ret;exact⟨nG,dN⟩
 ·obtain rfl:=cu H;go_enter Tryz.func117,Tryz.ntmps117;go_wp2_with(first|((with_reducible refine ag (f:=161) rfl ?_);refine aG (some 7) rfl rfl Tryz.func161 aK rfl #[.int .i64 a0] rfl eu ?_;(with_reducible refine(cO.calls k a0 Lt Lu Lv OW OX OY false _ A2.out).mono ?_);rintro e NQ ⟨rfl,hb⟩;refine⟨_,rfl,?_⟩;replace HB:=dS hb;(try clear hb))|((with_reducible refine aY (N:=3) rfl ?_);refine jX #[.int .i64 0,.int .i64 0,.int .i64 0,.int .i64 0,.int .i64 0,.int .i64 0] 117 ?_;intro rC hg ku hbox hb;have xJ:=ae.mk (hbox);have am9:=jL hg;have ana:=jL hg;replace HB:=dS hb;clear hb hbox hg;obtain⟨_,_,_,_,_,_⟩:=kY xJ;obtain⟨_,_,_,_,_,_⟩:=qK xJ));go_ret;exact⟨nG,dN⟩

end Go.Proofs.YtfhllanhldbkkaaGreatDoor.P
