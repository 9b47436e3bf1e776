import Derived.Test.YtfhllanhldbkkaaGreatDoorPx0
import Derived.Test.YtfhllanhldbkkaaGreatDoorPximpl01a
import Derived.Test.YtfhllanhldbkkaaGreatDoorWC
import Derived.Test.YtfhllanhldbkkaaGreatDoorPxliba
namespace Go.Proofs.YtfhllanhldbkkaaGreatDoor.P
set_option maxHeartbeats 8000000
set_option maxRecDepth 100000
open Go.RowKit Go.Proofs.YtfhllanhldbkkaaGreatDoorW.ax Go.Proofs.YtfhllanhldbkkaaGreatDoorW.aD Go.Proofs.YtfhllanhldbkkaaGreatDoorW.aH
attribute [local go_sem] nZ oh qI qJ mq mr om oo   -- for this text's walks alone
set_option linter.unusedVariables false
set_option linter.unusedSimpArgs false

def gp.f (k:Nat) (aA:Int) (aC:Int) (aI:Int) (bD:Int) (aU:Int) (bZ:Int):Option (Bool):=(dz.f aA 1970 9999).bind fun ajn=>(if ajn=true then((dz.f aC 1 12).bind fun ajo=>(if ajo=true then((fM.f k aA aC).bind fun SK=>((dz.f aI 1 SK).bind fun ajp=>(if ajp=true then((dz.f bD 0 23).bind fun ajq=>(if ajq=true then((dz.f aU 0 59).bind fun ajr=>(if ajr=true then((dz.f bZ 0 59).bind fun afj=>(some afj)) else(some false))) else(some false))) else(some false)))) else(some false))) else(some false))
def gp.T1 : Bool×List (List Nat×List Nat):=(true,[([],[]),([0],[0]),([1],[1]),([2,2],[2]),([3],[3]),([4,3],[3,4]),([5,3,3],[3,5]),([3,6],[3,6]),([7,6],[7]),([8],[8]),([9,8],[8,9]),([8],[8]),([11,8],[8,11]),([8],[8]),([13,8],[8,13]),([12,14,8,8],[8,12,14]),([10,15,15,8],[8,10,15]),([8,16],[8,16]),([17,16],[17]),([18],[18]),([19,18],[18,19]),([20,18,18],[18,20]),([18,21],[18,21]),([22,21],[22]),([23],[23]),([24,23],[23,24]),([25,23,23],[23,25]),([23,26],[23,26]),([27,26],[27]),([28],[28]),([29,28],[28,29]),([30,28,28],[28,30]),([28,31],[28,31]),([32,31,0,1,2,3,4,5,6,7,8,9,10,11,12,13,14,15,16,17,18,19,20,21,22,23,24,25,26,27,28,29,30,31,32],[32])])
def gp.B1 : List Nat:=[0,1,3,7,15,31,63,127,255,511,1023,511,2559,511,8703,31231,65535,131071,262143,524287,1048575,2097151,4194303,8388607,16777215,33554431,67108863,134217727,268435455,536870911,1073741823,2147483647,4294967295,8589934591]
theorem gp.FC : rP .any (opsOf Tryz.f173 1)=gp.T1:=by kernel_rfl
theorem gp.yI : kD gp.T1.2 gp.B1=true:=by kernel_rfl
theorem gp.e0 {p:Prop} (h:p:=by
  obtain rfl:=cu H
  go_enter Tryz.func173,Tryz.ntmps173
  try go_wp2_with(((with_reducible refine aY (N:=1) rfl ?_);refine jX #[.int .i64 aA,.int .i64 aC,.int .i64 aI,.int .i64 bD,.int .i64 aU,.int .i64 bZ] 117 ?_;intro Pt hg jm hbox hb;have Am:=ae.mk (hbox);have atA:=jL hg;have atB:=jL hg;replace HB:=dS hb;clear hb hbox hg))
  replace Am:=ae.mk (bJ Am.out)
  replace HB:=ae.mk (di HB.out)
  refine lL (n:=34) (S:=fun w'=>w'.cell? ⟨Pt,0,none⟩=some (.int .i64 aA)∧w'.cell? ⟨Pt,1,none⟩=some (.int .i64 aC)∧w'.cell? ⟨Pt,2,none⟩=some (.int .i64 aI)∧w'.cell? ⟨Pt,3,none⟩=some (.int .i64 bD)∧w'.cell? ⟨Pt,4,none⟩=some (.int .i64 aU)∧w'.cell? ⟨Pt,5,none⟩=some (.int .i64 bZ)) (ds:=[]) (kY Am) (fun hHeld=>?_);refine fu gp.FC gp.yI (fun HT_ HW_=>?_)
  generalize jm.drew=ku at Am HB hHeld ⊢
  repeat(first|refine nU ?_ (hy:=Or.inl ⟨by rfl,VI⟩)|refine fA ?_|(refine iM (fun K hK=>?_);refine dV Tryz.func65 aK rfl #[.int .i64 aA,.int .i64 1970,.int .i64 9999] (by rfl) rfl rfl eu ?_;(with_reducible refine(dz.calls aA 1970 9999 false _ A2.out).mono ?_);rintro e w' ⟨rfl,⟨nd,rfl⟩⟩;refine⟨_,rfl,?_⟩;refine hK.out _ _ (kY Am) (fun hHeld=>?_);clear hK K;refine eP ?_)|(refine iM (fun K hK=>?_);refine dV Tryz.func65 aK rfl #[.int .i64 aA,.int .i64 1970,.int .i64 9999] (by rfl) rfl rfl eu ?_;(with_reducible refine(dz.calls aA 1970 9999 true _ A2.out).mono ?_);rintro e w' ⟨rfl,⟨nd,rfl⟩⟩;refine⟨_,rfl,?_⟩;refine hK.out _ _ (kY Am) (fun hHeld=>?_);clear hK K;refine eP ?_)|(refine iM (fun K hK=>?_);refine dV Tryz.func65 aK rfl #[.int .i64 aC,.int .i64 1,.int .i64 12] (by rfl) rfl rfl eu ?_;(with_reducible refine(dz.calls aC 1 12 false _ A4.out).mono ?_);rintro e w' ⟨rfl,⟨nd,rfl⟩⟩;refine⟨_,rfl,?_⟩;refine hK.out _ _ (kY Am) (fun hHeld=>?_);clear hK K;refine eP ?_)|(refine iM (fun K hK=>?_);refine dV Tryz.func65 aK rfl #[.int .i64 aC,.int .i64 1,.int .i64 12] (by rfl) rfl rfl eu ?_;(with_reducible refine(dz.calls aC 1 12 true _ A4.out).mono ?_);rintro e w' ⟨rfl,⟨nd,rfl⟩⟩;refine⟨_,rfl,?_⟩;refine hK.out _ _ (kY Am) (fun hHeld=>?_);clear hK K;refine eP ?_)|(refine iM (fun K hK=>?_);refine dV Tryz.func175 aK rfl #[.int .i64 aA,.int .i64 aC] (by rfl) rfl rfl eu ?_;(with_reducible refine(fM.calls k aA aC SK _ A6.out).mono ?_);rintro e w' ⟨rfl,⟨nd,rfl⟩⟩;refine⟨_,rfl,?_⟩;refine hK.out _ _ (kY Am) (fun hHeld=>?_);clear hK K;refine eP ?_)|(refine iM (fun K hK=>?_);refine dV Tryz.func65 aK rfl #[.int .i64 aI,.int .i64 1,.int .i64 SK] (by rfl) rfl rfl eu ?_;(with_reducible refine(dz.calls aI 1 SK false _ A7.out).mono ?_);rintro e w' ⟨rfl,⟨nd,rfl⟩⟩;refine⟨_,rfl,?_⟩;refine hK.out _ _ (kY Am) (fun hHeld=>?_);clear hK K;refine eP ?_)|(refine iM (fun K hK=>?_);refine dV Tryz.func65 aK rfl #[.int .i64 aI,.int .i64 1,.int .i64 SK] (by rfl) rfl rfl eu ?_;(with_reducible refine(dz.calls aI 1 SK true _ A7.out).mono ?_);rintro e w' ⟨rfl,⟨nd,rfl⟩⟩;refine⟨_,rfl,?_⟩;refine hK.out _ _ (kY Am) (fun hHeld=>?_);clear hK K;refine eP ?_)|(refine iM (fun K hK=>?_);refine dV Tryz.func65 aK rfl #[.int .i64 bD,.int .i64 0,.int .i64 23] (by rfl) rfl rfl eu ?_;(with_reducible refine(dz.calls bD 0 23 false _ A9.out).mono ?_);rintro e w' ⟨rfl,⟨nd,rfl⟩⟩;refine⟨_,rfl,?_⟩;refine hK.out _ _ (kY Am) (fun hHeld=>?_);clear hK K;refine eP ?_)|(refine iM (fun K hK=>?_);refine dV Tryz.func65 aK rfl #[.int .i64 bD,.int .i64 0,.int .i64 23] (by rfl) rfl rfl eu ?_;(with_reducible refine(dz.calls bD 0 23 true _ A9.out).mono ?_);rintro e w' ⟨rfl,⟨nd,rfl⟩⟩;refine⟨_,rfl,?_⟩;refine hK.out _ _ (kY Am) (fun hHeld=>?_);clear hK K;refine eP ?_)|(refine iM (fun K hK=>?_);refine dV Tryz.func65 aK rfl #[.int .i64 aU,.int .i64 0,.int .i64 59] (by rfl) rfl rfl eu ?_;(with_reducible refine(dz.calls aU 0 59 false _ UG.out).mono ?_);rintro e w' ⟨rfl,⟨nd,rfl⟩⟩;refine⟨_,rfl,?_⟩;refine hK.out _ _ (kY Am) (fun hHeld=>?_);clear hK K;refine eP ?_)|(refine iM (fun K hK=>?_);refine dV Tryz.func65 aK rfl #[.int .i64 aU,.int .i64 0,.int .i64 59] (by rfl) rfl rfl eu ?_;(with_reducible refine(dz.calls aU 0 59 true _ UG.out).mono ?_);rintro e w' ⟨rfl,⟨nd,rfl⟩⟩;refine⟨_,rfl,?_⟩;refine hK.out _ _ (kY Am) (fun hHeld=>?_);clear hK K;refine eP ?_)|(refine iM (fun K hK=>?_);refine dV Tryz.func65 aK rfl #[.int .i64 bZ,.int .i64 0,.int .i64 59] (by rfl) rfl rfl eu ?_;(with_reducible refine(dz.calls bZ 0 59 afj _ QF.out).mono ?_);rintro e w' ⟨rfl,⟨nd,rfl⟩⟩;refine⟨_,rfl,?_⟩;refine hK.out _ _ (kY Am) (fun hHeld=>?_);clear hK K;refine eP ?_))
  refine mW (iR HT_.out aK) ?_
  try go_wp2
  go_ret
  exact⟨nG,dN⟩):p:=h
theorem gp.calls (k:Nat) (aA aC:Int) (aI bD:Int) (aU bZ:Int) (r:Bool) (w:World) (h:gp.f k aA aC aI bD aU bZ=some r) :
  Calls Tryz.prog 173 #[.agg #[.int .i64 aA,.int .i64 aC,.int .i64 aI,.int .i64 bD,.int .i64 aU,.int .i64 bZ]] w fun e w'=>e = .returned (.bool r)∧Below w.heap.size w w':=by
 have GH:=Tryz.underlying117;have HB:=ae.mk (Below.refl w.heap.size w);have H:=h;clear h;unfold gp.f at H;replace H:=gD H;obtain⟨ajn,A2,H⟩:=H;replace H:=gB H;rcases H with⟨rfl,H⟩|⟨rfl,H⟩
 ·replace H:=gD H;obtain⟨ajo,A4,H⟩:=H;replace H:=gB H;rcases H with⟨rfl,H⟩|⟨rfl,H⟩
  ·replace H:=gD H;obtain⟨SK,A6,H⟩:=H;replace H:=gD H;obtain⟨ajp,A7,H⟩:=H;replace H:=gB H;rcases H with⟨rfl,H⟩|⟨rfl,H⟩
   ·replace H:=gD H;obtain⟨ajq,A9,H⟩:=H;replace H:=gB H;rcases H with⟨rfl,H⟩|⟨rfl,H⟩
    ·replace H:=gD H;obtain⟨ajr,UG,H⟩:=H;replace H:=gB H;rcases H with⟨rfl,H⟩|⟨rfl,H⟩
     ·replace H:=gD H;obtain⟨afj,QF,H⟩:=H;exact gp.e0
     ·exact gp.e0
    ·exact gp.e0
   ·exact gp.e0
  ·exact gp.e0
 ·exact gp.e0


def jc.f (a0:Int):Option (Int):=some (wrap64 ((wrap64 ((wrap64 ((wrap64 ((wrap64 (365*(wrap64 (a0-1970))))+(wrap64 (Int.tdiv (wrap64 (a0-1)) 4))))-(wrap64 (Int.tdiv (wrap64 (a0-1)) 100))))+(wrap64 (Int.tdiv (wrap64 (a0-1)) 400))))-477))
theorem jc.calls (a0 r:Int) (w:World) (h:jc.f a0=some r) :
  Calls Tryz.prog 174 #[.int .i64 a0] w fun e w'=>e = .returned (.int .i64 r)∧ed w w':=by
 have H:=h;clear h;unfold jc.f at H;obtain rfl:=cu H;go_enter Tryz.func174,Tryz.ntmps174;go_wp2;go_ret;exact⟨fI,lG⟩

def fQ.l0 : Nat→Int→Int→Int→Int→Int→Int→Int→Int→Option (Int×Bool)
 |0,_,_,_,_,_,_,_,_=>none
 |k+1,x4,x5,XX,XY,afk,XZ,X0,X3=>if x5<XY then((fM.f k XX x5).bind fun U9=>(fQ.l0 k (wrap64 (x4+U9)) (wrap64 (x5+1)) XX XY afk XZ X0 X3)) else(some (wrap64 ((wrap64 ((wrap64 ((wrap64 (86400*x4))+(wrap64 (3600*XZ))))+(wrap64 (60*X0))))+X3),true))
def fQ.f (k:Nat) (aA:Int) (aC:Int) (aI:Int) (bD:Int) (aU:Int) (bZ:Int):Option (Int×Bool):=(gp.f k aA aC aI bD aU bZ).bind fun ajs=>(if ajs=true then((jc.f aA).bind fun Va=>(fQ.l0 k (wrap64 ((wrap64 (Va+aI))-1)) 1 aA aC aI bD aU bZ)) else(some (0,false)))
theorem fQ.calls (k:Nat) (aA aC:Int) (aI bD:Int) (aU bZ r1:Int) (r2:Bool) (w:World) (h:fQ.f k aA aC aI bD aU bZ=some (r1,r2)) :
  Calls Tryz.prog 135 #[.agg #[.int .i64 aA,.int .i64 aC,.int .i64 aI,.int .i64 bD,.int .i64 aU,.int .i64 bZ]] w fun e w'=>e = .returned (.tuple #[.int .i64 r1,.bool r2])∧Below w.heap.size w w':=by
 have GH:=Tryz.underlying117;have HB:=ae.mk (Below.refl w.heap.size w);have H:=h;clear h;unfold fQ.f at H;replace H:=gD H;obtain⟨ajs,A2,H⟩:=H;replace H:=gB H;rcases H with⟨rfl,H⟩|⟨rfl,H⟩
 ·replace H:=gD H;obtain⟨Va,A4,H⟩:=H;have H':=ae.mk H;clear H;go_enter Tryz.func135,Tryz.ntmps135;go_wp2_with(first|((with_reducible refine aY (N:=1) rfl ?_);refine jX #[.int .i64 aA,.int .i64 aC,.int .i64 aI,.int .i64 bD,.int .i64 aU,.int .i64 bZ] 117 ?_;intro FD hg w5 hbox hb;have dw:=ae.mk (hbox);have SL:=jL hg;have SN:=jL hg;replace HB:=dS hb;clear hb hbox hg;have aac:=Nl dw;have aad:=Nn dw;have aae:=WH dw;have aaf:=Zo dw;have aag:=WI dw;have aah:=Rt dw;have aai:=aM dw.out 0;have aaj:=aM dw.out 1;have aak:=aM dw.out 2;have aal:=aM dw.out 3;have aam:=aM dw.out 4;have aan:=aM dw.out 5)|(go_at_call 173;(with_reducible refine(gp.calls k aA aC aI bD aU bZ true _ A2.out).mono ?_);rintro e w7 ⟨rfl,hb⟩;replace dw:=iG (g:=FD) hb;replace HB:=dS hb;(try clear hb);have aao:=Nl dw;have aap:=Nn dw;have aaq:=WH dw;have aar:=Zo dw;have aas:=WI dw;have aat:=Rt dw;have aau:=aM dw.out 0;have aav:=aM dw.out 1;have aaw:=aM dw.out 2;have aax:=aM dw.out 3;have aay:=aM dw.out 4;have aaz:=aM dw.out 5)|(go_at_call 174;(with_reducible refine(jc.calls aA Va _ A4.out).mono ?_);rintro e w' ⟨rfl,⟨nd,rfl⟩⟩;(try first|exact⟨rfl,_,World.drewN_drewN _ _ _⟩|exact⟨rfl,_,Eq.trans (World.drewN_drewN _ _ _) (congrArg (World.drewN _) (Nat.add_assoc _ _ _))⟩)));repeat(go_quiet (first|((with_reducible refine aY (N:=1) rfl ?_);refine jX #[.int .i64 aA,.int .i64 aC,.int .i64 aI,.int .i64 bD,.int .i64 aU,.int .i64 bZ] 117 ?_;intro FD hg w5 hbox hb;have dw:=ae.mk (hbox);have SL:=jL hg;have SN:=jL hg;replace HB:=dS hb;clear hb hbox hg;have aac:=Nl dw;have aad:=Nn dw;have aae:=WH dw;have aaf:=Zo dw;have aag:=WI dw;have aah:=Rt dw;have aai:=aM dw.out 0;have aaj:=aM dw.out 1;have aak:=aM dw.out 2;have aal:=aM dw.out 3;have aam:=aM dw.out 4;have aan:=aM dw.out 5)|(go_at_call 173;(with_reducible refine(gp.calls k aA aC aI bD aU bZ true _ A2.out).mono ?_);rintro e w7 ⟨rfl,hb⟩;replace dw:=iG (g:=FD) hb;replace HB:=dS hb;(try clear hb);have aao:=Nl dw;have aap:=Nn dw;have aaq:=WH dw;have aar:=Zo dw;have aas:=WI dw;have aat:=Rt dw;have aau:=aM dw.out 0;have aav:=aM dw.out 1;have aaw:=aM dw.out 2;have aax:=aM dw.out 3;have aay:=aM dw.out 4;have aaz:=aM dw.out 5)|(go_at_call 174;(with_reducible refine(jc.calls aA Va _ A4.out).mono ?_);rintro e w' ⟨rfl,⟨nd,rfl⟩⟩;(try first|exact⟨rfl,_,World.drewN_drewN _ _ _⟩|exact⟨rfl,_,Eq.trans (World.drewN_drewN _ _ _) (congrArg (World.drewN _) (Nat.add_assoc _ _ _))⟩)));try go_wp2_with(first|((with_reducible refine aY (N:=1) rfl ?_);refine jX #[.int .i64 aA,.int .i64 aC,.int .i64 aI,.int .i64 bD,.int .i64 aU,.int .i64 bZ] 117 ?_;intro FD hg w5 hbox hb;have o7:=dS hb;have qG:=ae.mk (hbox);have Bi:=jL hg;have R8:=jL hg;clear HB;have HB:=o7;have dw:=qG;have SL:=Bi;have SN:=R8;clear o7 qG Bi R8;clear hb hbox hg;have aac:=Nl dw;have aad:=Nn dw;have aae:=WH dw;have aaf:=Zo dw;have aag:=WI dw;have aah:=Rt dw;have aai:=aM dw.out 0;have aaj:=aM dw.out 1;have aak:=aM dw.out 2;have aal:=aM dw.out 3;have aam:=aM dw.out 4;have aan:=aM dw.out 5)|(go_at_call 173;(with_reducible refine(gp.calls k aA aC aI bD aU bZ true _ A2.out).mono ?_);rintro e w7 ⟨rfl,hb⟩;have o7:=iG (g:=FD) hb;have qG:=dS hb;clear dw;clear HB;have dw:=o7;have HB:=qG;clear o7 qG;(try clear hb);have aao:=Nl dw;have aap:=Nn dw;have aaq:=WH dw;have aar:=Zo dw;have aas:=WI dw;have aat:=Rt dw;have aau:=aM dw.out 0;have aav:=aM dw.out 1;have aaw:=aM dw.out 2;have aax:=aM dw.out 3;have aay:=aM dw.out 4;have aaz:=aM dw.out 5)|(go_at_call 174;(with_reducible refine(jc.calls aA Va _ A4.out).mono ?_);rintro e w' ⟨rfl,⟨nd,rfl⟩⟩;(try first|exact⟨rfl,_,World.drewN_drewN _ _ _⟩|exact⟨rfl,_,Eq.trans (World.drewN_drewN _ _ _) (congrArg (World.drewN _) (Nat.add_assoc _ _ _))⟩))))
  go_loopg [4,5] k (fun kq v4 v5 w'=>∃(fT:Int) (dJ:Int),v4 = .int .i64 fT∧v5 = .int .i64 dJ∧ae (fQ.l0 kq fT dJ aA aC aI bD aU bZ=some (r1,r2))∧ae (kq≤k)∧ae (w'.heap[FD]? = some (.cells #[.int .i64 aA,.int .i64 aC,.int .i64 aI,.int .i64 bD,.int .i64 aU,.int .i64 bZ] 117 (0,0)))∧ae (Below w.heap.size w w'))
  case atStart=>exact⟨(wrap64 ((wrap64 (Va+aI))-1)),(1),fI,fI,H',⟨Nat.le_refl _⟩,⟨yg⟩,⟨dN⟩⟩
  case round=>
   clear H';try clear aac
   try clear aad
   try clear aae
   try clear aaf
   try clear aag
   try clear aah
   try clear aao
   try clear aap
   try clear aaq
   try clear aar
   try clear aas
   try clear aat
   try clear aai
   try clear aaj
   try clear aak
   try clear aal
   try clear aam
   try clear aan
   try clear aau
   try clear aav
   try clear aaw
   try clear aax
   try clear aay
   try clear aaz
   obtain⟨fT,dJ,rfl,rfl,HA,qj,dw,HB⟩:=hrel;cases gk with
   |zero=>exact absurd HA.out (by simp[fQ.l0])
   |succ k1=>
    have H:=HA.out;clear HA;simp only[fQ.l0] at H;replace H:=gI H;rcases H with⟨-,xY,-,H⟩|⟨-,xY,-,H⟩
    ·replace H:=gD H;obtain⟨U9,PS,H⟩:=H;have H':=ae.mk H;clear H;obtain⟨_,_,_,_,_,_⟩:=kY dw;obtain⟨_,_,_,_,_,_⟩:=qK dw;go_wp2_with(first|(go_at_call 175;(with_reducible refine(fM.calls k1 aA dJ U9 _ PS.out).mono ?_);rintro e w' ⟨rfl,⟨nd,rfl⟩⟩;(try first|exact⟨rfl,_,World.drewN_drewN _ _ _⟩|exact⟨rfl,_,Eq.trans (World.drewN_drewN _ _ _) (congrArg (World.drewN _) (Nat.add_assoc _ _ _))⟩)));repeat(go_quiet (first|(go_at_call 175;(with_reducible refine(fM.calls k1 aA dJ U9 _ PS.out).mono ?_);rintro e w' ⟨rfl,⟨nd,rfl⟩⟩;(try first|exact⟨rfl,_,World.drewN_drewN _ _ _⟩|exact⟨rfl,_,Eq.trans (World.drewN_drewN _ _ _) (congrArg (World.drewN _) (Nat.add_assoc _ _ _))⟩)));try go_wp2_with(first|(go_at_call 175;(with_reducible refine(fM.calls k1 aA dJ U9 _ PS.out).mono ?_);rintro e w' ⟨rfl,⟨nd,rfl⟩⟩;(try first|exact⟨rfl,_,World.drewN_drewN _ _ _⟩|exact⟨rfl,_,Eq.trans (World.drewN_drewN _ _ _) (congrArg (World.drewN _) (Nat.add_assoc _ _ _))⟩))))
     go_roundg k1
     case measure=>have:=qj.out;omega
     case rel=>exact⟨(wrap64 (fT+U9)),(wrap64 (dJ+1)),fI,fI,H',⟨by have:=qj.out;omega⟩,⟨yg⟩,⟨dN⟩⟩
    ·simp only[Option.some.injEq,Prod.mk.injEq] at H;obtain⟨rfl,rfl⟩:=H;obtain⟨_,_,_,_,_,_⟩:=kY dw;obtain⟨_,_,_,_,_,_⟩:=qK dw;go_wp2;repeat(go_quiet (fail);try go_wp2)
     go_ret2;exact⟨nG,dN⟩
 ·simp only[Option.some.injEq,Prod.mk.injEq] at H;obtain⟨rfl,rfl⟩:=H;go_enter Tryz.func135,Tryz.ntmps135;go_wp2_with(first|((with_reducible refine aY (N:=1) rfl ?_);refine jX #[.int .i64 aA,.int .i64 aC,.int .i64 aI,.int .i64 bD,.int .i64 aU,.int .i64 bZ] 117 ?_;intro FD hg w13 hbox hb;have dw:=ae.mk (hbox);have SL:=jL hg;have SN:=jL hg;replace HB:=dS hb;clear hb hbox hg;have abr:=Nl dw;have abt:=Nn dw;have abu:=WH dw;have QW:=Zo dw;have QX:=WI dw;have QY:=Rt dw;have abv:=aM dw.out 0;have abw:=aM dw.out 1;have abx:=aM dw.out 2;have aby:=aM dw.out 3;have abz:=aM dw.out 4;have abA:=aM dw.out 5)|(go_at_call 173;(with_reducible refine(gp.calls k aA aC aI bD aU bZ false _ A2.out).mono ?_);rintro e w15 ⟨rfl,hb⟩;replace dw:=iG (g:=FD) hb;replace HB:=dS hb;(try clear hb)));repeat(go_quiet (first|((with_reducible refine aY (N:=1) rfl ?_);refine jX #[.int .i64 aA,.int .i64 aC,.int .i64 aI,.int .i64 bD,.int .i64 aU,.int .i64 bZ] 117 ?_;intro FD hg w13 hbox hb;have dw:=ae.mk (hbox);have SL:=jL hg;have SN:=jL hg;replace HB:=dS hb;clear hb hbox hg;have abr:=Nl dw;have abt:=Nn dw;have abu:=WH dw;have QW:=Zo dw;have QX:=WI dw;have QY:=Rt dw;have abv:=aM dw.out 0;have abw:=aM dw.out 1;have abx:=aM dw.out 2;have aby:=aM dw.out 3;have abz:=aM dw.out 4;have abA:=aM dw.out 5)|(go_at_call 173;(with_reducible refine(gp.calls k aA aC aI bD aU bZ false _ A2.out).mono ?_);rintro e w15 ⟨rfl,hb⟩;replace dw:=iG (g:=FD) hb;replace HB:=dS hb;(try clear hb)));try go_wp2_with(first|((with_reducible refine aY (N:=1) rfl ?_);refine jX #[.int .i64 aA,.int .i64 aC,.int .i64 aI,.int .i64 bD,.int .i64 aU,.int .i64 bZ] 117 ?_;intro FD hg w13 hbox hb;have o7:=dS hb;have qG:=ae.mk (hbox);have Bi:=jL hg;have R8:=jL hg;clear HB;have HB:=o7;have dw:=qG;have SL:=Bi;have SN:=R8;clear o7 qG Bi R8;clear hb hbox hg;have abr:=Nl dw;have abt:=Nn dw;have abu:=WH dw;have QW:=Zo dw;have QX:=WI dw;have QY:=Rt dw;have abv:=aM dw.out 0;have abw:=aM dw.out 1;have abx:=aM dw.out 2;have aby:=aM dw.out 3;have abz:=aM dw.out 4;have abA:=aM dw.out 5)|(go_at_call 173;(with_reducible refine(gp.calls k aA aC aI bD aU bZ false _ A2.out).mono ?_);rintro e w15 ⟨rfl,hb⟩;have o7:=iG (g:=FD) hb;have qG:=dS hb;clear dw;clear HB;have dw:=o7;have HB:=qG;clear o7 qG;(try clear hb))))
  go_ret2;exact⟨nG,dN⟩


mutual
def dI.l0 : Nat→Int→Int→Int→Int→Int→Int→Int→Option (Int×Int×Int×Int×Int×Int)
 |0,_,_,_,_,_,_,_=>none
 |k+1,x3,Ec,GJ,OA,Lb,Lc,Ld=>(jc.f (wrap64 (Ec+1))).bind fun abB=>(if abB≤x3 then(dI.l0 k x3 (wrap64 (Ec+1)) GJ OA Lb Lc Ld) else((jc.f Ec).bind fun abC=>(dI.l1 k (wrap64 (x3-abC)) Ec GJ OA Lb Lc Ld)))
def dI.l1 : Nat→Int→Int→Int→Int→Int→Int→Int→Option (Int×Int×Int×Int×Int×Int)
 |0,_,_,_,_,_,_,_=>none
 |k+1,x3,Ec,GJ,OA,Lb,Lc,Ld=>(fM.f k Ec GJ).bind fun Vb=>(if x3≥Vb then((fM.f k Ec GJ).bind fun abD=>(dI.l1 k (wrap64 (x3-abD)) Ec (wrap64 (GJ+1)) OA Lb Lc Ld)) else(some (Ec,GJ,wrap64 (x3+1),Lb,Lc,Ld)))
end
def dI.f (k:Nat) (a0:Int):Option (Int×Int×Int×Int×Int×Int):=dI.l0 k (wrap64 (Int.tdiv a0 86400)) (wrap64 (1970+(wrap64 (Int.tdiv (wrap64 (Int.tdiv a0 86400)) 366)))) 1 0 (wrap64 (Int.tdiv (Int.tmod a0 86400) 3600)) (Int.tmod (wrap64 (Int.tdiv (Int.tmod a0 86400) 60)) 60) (Int.tmod (Int.tmod a0 86400) 60)
theorem dI.calls (k:Nat) (a0 r1:Int) (r2 r3:Int) (r4 r5 r6:Int) (w:World) (h:dI.f k a0=some (r1,r2,r3,r4,r5,r6)) :
  Calls Tryz.prog 176 #[.int .i64 a0] w fun e w'=>e = .returned (.agg #[.int .i64 r1,.int .i64 r2,.int .i64 r3,.int .i64 r4,.int .i64 r5,.int .i64 r6])∧Below w.heap.size w w':=by
 have GH:=Tryz.underlying117;have HB:=ae.mk (Below.refl w.heap.size w);have H:=h;clear h;unfold dI.f at H;rw[show Int.tmod (Int.tmod a0 86400) 60=Int.tmod a0 60 from by first|exact Int.tmod_tmod_of_dvd a0 ak|simp] at H;have H':=ae.mk H;clear H;go_enter Tryz.func176,Tryz.ntmps176;go_wp2_with(first|((with_reducible refine aY (N:=2) rfl ?_);refine jX #[.int .i64 0,.int .i64 0,.int .i64 0,.int .i64 0,.int .i64 0,.int .i64 0] 117 ?_;intro JE hg w2 hbox hb;have uA:=ae.mk (hbox);have atC:=jL hg;replace HB:=dS hb;clear hb hbox hg)|((with_reducible refine aY (N:=5) rfl ?_);refine jX #[.int .i64 0,.int .i64 0,.int .i64 0,.int .i64 0,.int .i64 0,.int .i64 0] 117 ?_;intro Ed hg w3 hbox hb;have mD:=ae.mk (hbox);have atD:=jL hg;have zT:=J3 (g:=JE) hg;have Fu:=LG zT;replace uA:=iG (g:=JE) hb;replace HB:=dS hb;clear hb hbox hg;have ayZ:=Fu.out;have ay0:=zT.out;obtain⟨_,_,_,_,_,_⟩:=kY mD;obtain⟨_,_,_,_,_,_⟩:=qK mD));go_loopg [] k (fun kq w'=>∃(jw:Int),ae (dI.l0 kq (wrap64 (Int.tdiv a0 86400)) jw 1 0 (wrap64 (Int.tdiv (Int.tmod a0 86400) 3600)) (Int.tmod (wrap64 (Int.tdiv (Int.tmod a0 86400) 60)) 60) (Int.tmod a0 60)=some (r1,r2,r3,r4,r5,r6))∧ae (kq≤k)∧ae (w'.heap[JE]? = some (.cells #[.int .i64 0,.int .i64 0,.int .i64 0,.int .i64 0,.int .i64 0,.int .i64 0] 117 (0,0)))∧ae (w'.heap[Ed]? = some (.cells #[.int .i64 jw,.int .i64 1,.int .i64 0,.int .i64 (wrap64 (Int.tdiv (Int.tmod a0 86400) 3600)),.int .i64 (Int.tmod (wrap64 (Int.tdiv (Int.tmod a0 86400) 60)) 60),.int .i64 (Int.tmod a0 60)] 117 (0,0)))∧ae (Below w.heap.size w w'))
 case atStart=>exact⟨(wrap64 (1970+(wrap64 (Int.tdiv (wrap64 (Int.tdiv a0 86400)) 366)))),H',⟨Nat.le_refl _⟩,⟨yg⟩,⟨yg⟩,⟨dN⟩⟩
 case round=>
  clear H';obtain⟨jw,HA,qj,uA,mD,HB⟩:=hrel;cases gk with
  |zero=>exact absurd HA.out (by simp[dI.l0])
  |succ k1=>
   have H:=HA.out;clear HA;simp only[dI.l0] at H;replace H:=gD H;obtain⟨abB,A6,H⟩:=H;replace H:=gI H;rcases H with⟨-,uR,-,H⟩|⟨-,uR,-,H⟩
   ·have H':=ae.mk H;clear H;have anH:=Fu.out;have anI:=zT.out;obtain⟨_,_,_⟩:=VG mD;have atE:wr.cell? ⟨Ed,3,none⟩=some (.int .i64 (wrap64 (Int.tdiv (Int.tmod a0 86400) 3600))):=(ai mD.out 3).trans rfl;have atF:wr.cell? ⟨Ed,4,none⟩=some (.int .i64 (Int.tmod (wrap64 (Int.tdiv (Int.tmod a0 86400) 60)) 60)):=(ai mD.out 4).trans rfl;have atG:=Rt mD;obtain⟨_,_,_,_,_,_⟩:=qK mD;go_wp2_with(first|((with_reducible refine ag (f:=174) rfl ?_);refine aG (some 24) rfl rfl Tryz.func174 aK rfl #[.int .i64 (wrap64 (jw+1))] rfl eu ?_;(with_reducible refine(jc.calls (wrap64 (jw+1)) abB _ A6.out).mono ?_);rintro e w' ⟨rfl,⟨nd,rfl⟩⟩;refine⟨_,rfl,?_⟩;(try(rw[ma wr];generalize hq_:World.drewN wr _=wr;have o7:ae (wr.heap[JE]? = some (.cells #[.int .i64 0,.int .i64 0,.int .i64 0,.int .i64 0,.int .i64 0,.int .i64 0] 117 (0,0))):=⟨ahx⟩;have qG:ae (wr.heap[Ed]? = some (.cells #[.int .i64 jw,.int .i64 1,.int .i64 0,.int .i64 (wrap64 (Int.tdiv (Int.tmod a0 86400) 3600)),.int .i64 (Int.tmod (wrap64 (Int.tdiv (Int.tmod a0 86400) 60)) 60),.int .i64 (Int.tmod a0 60)] 117 (0,0))):=⟨ahy⟩;have Bi:ae (Below w.heap.size w wr):=⟨by rw[← hq_];exact dN⟩;clear uA mD HB hq_;have uA:=o7;have mD:=qG;have HB:=Bi;clear o7 qG Bi;obtain⟨_,_,_,_,_,_⟩:=kY uA;obtain⟨_,_,_,_,_,_⟩:=qK uA;obtain⟨_,_,_,_,_,_⟩:=kY mD;obtain⟨_,_,_,_,_,_⟩:=qK mD))));go_roundg k1
    case measure=>have:=qj.out;omega
    case rel=>exact⟨(wrap64 (jw+1)),H',⟨by have:=qj.out;omega⟩,⟨yg⟩,⟨yg⟩,⟨dN⟩⟩
   ·replace H:=gD H;obtain⟨abC,PS,H⟩:=H;have H':=ae.mk H;clear H;have aps:=Fu.out;have apt:=zT.out;obtain⟨_,_,_⟩:=VG mD;have abE:wr.cell? ⟨Ed,3,none⟩=some (.int .i64 (wrap64 (Int.tdiv (Int.tmod a0 86400) 3600))):=(ai mD.out 3).trans rfl;have abF:wr.cell? ⟨Ed,4,none⟩=some (.int .i64 (Int.tmod (wrap64 (Int.tdiv (Int.tmod a0 86400) 60)) 60)):=(ai mD.out 4).trans rfl;have abG:=Rt mD;obtain⟨_,_,_,_,_,_⟩:=qK mD;go_wp2_with(first|((with_reducible refine ag (f:=174) rfl ?_);refine aG (some 24) rfl rfl Tryz.func174 aK rfl #[.int .i64 (wrap64 (jw+1))] rfl eu ?_;(with_reducible refine(jc.calls (wrap64 (jw+1)) abB _ A6.out).mono ?_);rintro e w' ⟨rfl,⟨nd,rfl⟩⟩;refine⟨_,rfl,?_⟩)|((with_reducible refine ag (f:=174) rfl ?_);refine aG (some 34) rfl rfl Tryz.func174 aK rfl #[.int .i64 jw] rfl eu ?_;(with_reducible refine(jc.calls jw abC _ PS.out).mono ?_);rintro e w' ⟨rfl,⟨nd,rfl⟩⟩;refine⟨_,rfl,?_⟩));go_loopg [3] k1 (fun kq v3 w'=>∃(l8:Int) (nN:Int),v3 = .int .i64 l8∧ae (dI.l1 kq l8 jw nN 0 (wrap64 (Int.tdiv (Int.tmod a0 86400) 3600)) (Int.tmod (wrap64 (Int.tdiv (Int.tmod a0 86400) 60)) 60) (Int.tmod a0 60)=some (r1,r2,r3,r4,r5,r6))∧ae (kq≤k1)∧ae (w'.heap[JE]? = some (.cells #[.int .i64 0,.int .i64 0,.int .i64 0,.int .i64 0,.int .i64 0,.int .i64 0] 117 (0,0)))∧ae (w'.heap[Ed]? = some (.cells #[.int .i64 jw,.int .i64 nN,.int .i64 0,.int .i64 (wrap64 (Int.tdiv (Int.tmod a0 86400) 3600)),.int .i64 (Int.tmod (wrap64 (Int.tdiv (Int.tmod a0 86400) 60)) 60),.int .i64 (Int.tmod a0 60)] 117 (0,0)))∧ae (Below w.heap.size w w'))
    case atStart=>exact⟨(wrap64 ((wrap64 (Int.tdiv a0 86400))-abC)),(1),fI,H',⟨Nat.le_refl _⟩,⟨yg⟩,⟨yg⟩,⟨dN⟩⟩
    case round=>
     clear H';try clear uR
     try clear abE
     try clear abF
     try clear abG
     obtain⟨l8,nN,rfl,HA,Eo,uA,mD,HB⟩:=hrel;cases gk with
     |zero=>exact absurd HA.out (by simp[dI.l1])
     |succ k2=>
      have H:=HA.out;clear HA;simp only[dI.l1] at H;replace H:=gD H;obtain⟨Vb,QF,H⟩:=H;replace H:=gI H;rcases H with⟨c14,-,-,H⟩|⟨c14,-,-,H⟩
      ·have Ma:decide (Vb≤l8)=true:=aT c14;clear c14;replace H:=gD H;obtain⟨abD,V5,H⟩:=H;have H':=ae.mk H;clear H;have awx:=Fu.out;have awy:=zT.out;obtain⟨_,_,_⟩:=VG mD;have asv:wr.cell? ⟨Ed,3,none⟩=some (.int .i64 (wrap64 (Int.tdiv (Int.tmod a0 86400) 3600))):=(ai mD.out 3).trans rfl;have asw:wr.cell? ⟨Ed,4,none⟩=some (.int .i64 (Int.tmod (wrap64 (Int.tdiv (Int.tmod a0 86400) 60)) 60)):=(ai mD.out 4).trans rfl;have asx:=Rt mD;obtain⟨_,_,_,_,_,_⟩:=qK mD;go_wp2_with(first|((with_reducible refine ag (f:=175) rfl ?_);refine aG (some 41) rfl rfl Tryz.func175 aK rfl #[.int .i64 jw,.int .i64 nN] rfl eu ?_;(with_reducible refine(fM.calls k2 jw nN Vb _ QF.out).mono ?_);rintro e w' ⟨rfl,⟨nd,rfl⟩⟩;refine⟨_,rfl,?_⟩;(try(rw[ma wr];generalize hq_:World.drewN wr _=wr;have o7:ae (wr.heap[JE]? = some (.cells #[.int .i64 0,.int .i64 0,.int .i64 0,.int .i64 0,.int .i64 0,.int .i64 0] 117 (0,0))):=⟨ahx⟩;have qG:ae (wr.heap[Ed]? = some (.cells #[.int .i64 jw,.int .i64 nN,.int .i64 0,.int .i64 (wrap64 (Int.tdiv (Int.tmod a0 86400) 3600)),.int .i64 (Int.tmod (wrap64 (Int.tdiv (Int.tmod a0 86400) 60)) 60),.int .i64 (Int.tmod a0 60)] 117 (0,0))):=⟨ahy⟩;have Bi:ae (Below w.heap.size w wr):=⟨by rw[← hq_];exact dN⟩;clear uA mD HB hq_;have uA:=o7;have mD:=qG;have HB:=Bi;clear o7 qG Bi;obtain⟨_,_,_,_,_,_⟩:=kY uA;obtain⟨_,_,_,_,_,_⟩:=qK uA;obtain⟨_,_,_,_,_,_⟩:=kY mD;obtain⟨_,_,_,_,_,_⟩:=qK mD)))|((with_reducible refine ag (f:=175) rfl ?_);refine aG (some 48) rfl rfl Tryz.func175 aK rfl #[.int .i64 jw,.int .i64 nN] rfl eu ?_;(with_reducible refine(fM.calls k2 jw nN abD _ V5.out).mono ?_);rintro e w' ⟨rfl,⟨nd,rfl⟩⟩;refine⟨_,rfl,?_⟩;(try(rw[ma wr];generalize hq_:World.drewN wr _=wr;have o7:ae (wr.heap[JE]? = some (.cells #[.int .i64 0,.int .i64 0,.int .i64 0,.int .i64 0,.int .i64 0,.int .i64 0] 117 (0,0))):=⟨ahx⟩;have qG:ae (wr.heap[Ed]? = some (.cells #[.int .i64 jw,.int .i64 nN,.int .i64 0,.int .i64 (wrap64 (Int.tdiv (Int.tmod a0 86400) 3600)),.int .i64 (Int.tmod (wrap64 (Int.tdiv (Int.tmod a0 86400) 60)) 60),.int .i64 (Int.tmod a0 60)] 117 (0,0))):=⟨ahy⟩;have Bi:ae (Below w.heap.size w wr):=⟨by rw[← hq_];exact dN⟩;clear uA mD HB hq_;have uA:=o7;have mD:=qG;have HB:=Bi;clear o7 qG Bi;obtain⟨_,_,_,_,_,_⟩:=kY uA;obtain⟨_,_,_,_,_,_⟩:=qK uA;obtain⟨_,_,_,_,_,_⟩:=kY mD;obtain⟨_,_,_,_,_,_⟩:=qK mD))));go_roundg k2
       case measure=>have:=qj.out;have:=Eo.out;omega
       case rel=>exact⟨(wrap64 (l8-abD)),(wrap64 (nN+1)),fI,H',⟨VQ⟩,⟨yg⟩,⟨yg⟩,⟨dN⟩⟩
      ·have Ma:decide (Vb≤l8)=false:=aN c14;clear c14;simp only[Option.some.injEq,Prod.mk.injEq] at H;obtain⟨rfl,rfl,rfl,rfl,rfl,rfl⟩:=H;have aiP:=Fu.out;have aiQ:=zT.out;obtain⟨_,_,_⟩:=VG mD;have ahY:wr.cell? ⟨Ed,3,none⟩=some (.int .i64 (wrap64 (Int.tdiv (Int.tmod a0 86400) 3600))):=(ai mD.out 3).trans rfl;have ahZ:wr.cell? ⟨Ed,4,none⟩=some (.int .i64 (Int.tmod (wrap64 (Int.tdiv (Int.tmod a0 86400) 60)) 60)):=(ai mD.out 4).trans rfl;have ah0:=Rt mD;obtain⟨_,_,_,_,_,_⟩:=qK mD;go_wp2_with(first|((with_reducible refine ag (f:=175) rfl ?_);refine aG (some 41) rfl rfl Tryz.func175 aK rfl #[.int .i64 jw,.int .i64 nN] rfl eu ?_;(with_reducible refine(fM.calls k2 jw nN Vb _ QF.out).mono ?_);rintro e w' ⟨rfl,⟨nd,rfl⟩⟩;refine⟨_,rfl,?_⟩;(try(rw[ma wr];generalize hq_:World.drewN wr _=wr;have o7:ae (wr.heap[JE]? = some (.cells #[.int .i64 0,.int .i64 0,.int .i64 0,.int .i64 0,.int .i64 0,.int .i64 0] 117 (0,0))):=⟨ahx⟩;have qG:ae (wr.heap[Ed]? = some (.cells #[.int .i64 jw,.int .i64 nN,.int .i64 0,.int .i64 (wrap64 (Int.tdiv (Int.tmod a0 86400) 3600)),.int .i64 (Int.tmod (wrap64 (Int.tdiv (Int.tmod a0 86400) 60)) 60),.int .i64 (Int.tmod a0 60)] 117 (0,0))):=⟨ahy⟩;have Bi:ae (Below w.heap.size w wr):=⟨by rw[← hq_];exact dN⟩;clear uA mD HB hq_;have uA:=o7;have mD:=qG;have HB:=Bi;clear o7 qG Bi;obtain⟨_,_,_,_,_,_⟩:=kY uA;obtain⟨_,_,_,_,_,_⟩:=qK uA;obtain⟨_,_,_,_,_,_⟩:=kY mD;obtain⟨_,_,_,_,_,_⟩:=qK mD));obtain⟨_,_,_,_,_,_⟩:=kY uA;obtain⟨_,_,_,_,_,_⟩:=qK uA));refine bodyPost_ret (results_cell_row rfl _ _ JE 117 #[.int .i64 jw,.int .i64 nN,.int .i64 (wrap64 (l8+1)),.int .i64 (wrap64 (Int.tdiv (Int.tmod a0 86400) 3600)),.int .i64 (Int.tmod (wrap64 (Int.tdiv (Int.tmod a0 86400) 60)) 60),.int .i64 (Int.tmod a0 60)] (0,0) _ rfl (by(with_reducible repeat(first|refine dm ?_ _|refine bJ ?_|refine dD ?_ _));refine lK (cs:=#[.int .i64 jw,.int .i64 nN,.int .i64 (wrap64 (l8+1)),.int .i64 (wrap64 (Int.tdiv (Int.tmod a0 86400) 3600)),.int .i64 (Int.tmod (wrap64 (Int.tdiv (Int.tmod a0 86400) 60)) 60),.int .i64 0]) ?_ 5 _ rfl;(with_reducible repeat(first|refine dm ?_ _|refine bJ ?_|refine dD ?_ _));refine lK (cs:=#[.int .i64 jw,.int .i64 nN,.int .i64 (wrap64 (l8+1)),.int .i64 (wrap64 (Int.tdiv (Int.tmod a0 86400) 3600)),.int .i64 0,.int .i64 0]) ?_ 4 _ rfl;(with_reducible repeat(first|refine dm ?_ _|refine bJ ?_|refine dD ?_ _));refine lK (cs:=#[.int .i64 jw,.int .i64 nN,.int .i64 (wrap64 (l8+1)),.int .i64 0,.int .i64 0,.int .i64 0]) ?_ 3 _ rfl;(with_reducible repeat(first|refine dm ?_ _|refine bJ ?_|refine dD ?_ _));refine lK (cs:=#[.int .i64 jw,.int .i64 nN,.int .i64 0,.int .i64 0,.int .i64 0,.int .i64 0]) ?_ 2 _ rfl;(with_reducible repeat(first|refine dm ?_ _|refine bJ ?_|refine dD ?_ _));refine lK (cs:=#[.int .i64 jw,.int .i64 0,.int .i64 0,.int .i64 0,.int .i64 0,.int .i64 0]) ?_ 1 _ rfl;(with_reducible repeat(first|refine dm ?_ _|refine bJ ?_|refine dD ?_ _));refine lK (cs:=#[.int .i64 0,.int .i64 0,.int .i64 0,.int .i64 0,.int .i64 0,.int .i64 0]) ?_ 0 _ rfl;(with_reducible repeat(first|refine dm ?_ _|refine bJ ?_|refine dD ?_ _));refine wT ?_ zT.out _;(with_reducible repeat(first|refine dm ?_ _|refine bJ ?_|refine dD ?_ _));exact uA.out) Tryz.underlying117 rfl aK) rfl ?_;exact⟨nG,dN⟩

def vv.f  : Option (List ByteArray):=some (([(⟨#[77,111,110,100,97,121]⟩:af),(⟨#[84,117,101,115,100,97,121]⟩:af),(⟨#[87,101,100,110,101,115,100,97,121]⟩:af),(⟨#[84,104,117,114,115,100,97,121]⟩:af),(⟨#[70,114,105,100,97,121]⟩:af),(⟨#[83,97,116,117,114,100,97,121]⟩:af),(⟨#[83,117,110,100,97,121]⟩:af)]:List ByteArray))
theorem vv.calls  (r:List ByteArray) (w:World) (h:vv.f  = some r) :
  Calls Tryz.prog 177 #[] w fun e w'=>∃ PV:Value,e = .returned (PV)∧Kd.R Kd.string 9 w' w.heap.size (fun _=>True) PV r∧Below w.heap.size w w':=by
 have HB:=ae.mk (Below.refl w.heap.size w);have H:=h;clear h;unfold vv.f at H;obtain⟨apu,SQ⟩:∃ y_:List ByteArray,y_=(([(⟨#[77,111,110,100,97,121]⟩:af),(⟨#[84,117,101,115,100,97,121]⟩:af),(⟨#[87,101,100,110,101,115,100,97,121]⟩:af),(⟨#[84,104,117,114,115,100,97,121]⟩:af),(⟨#[70,114,105,100,97,121]⟩:af),(⟨#[83,97,116,117,114,100,97,121]⟩:af),(⟨#[83,117,110,100,97,121]⟩:af)]:List ByteArray)):=⟨_,rfl⟩;replace H:(some apu)=some r:=by first|(rw[SQ];with_reducible exact H)|(have rq:=(aj _ _).symm.trans H;rw[SQ];with_reducible exact rq)|(have rq:=(aj _ _).symm.trans H;with_reducible exact rq)|with_reducible exact H|(rw[SQ];exact H)|exact H
 have afl:=ae.mk SQ;clear SQ;obtain rfl:=cu H;go_enter Tryz.func177,Tryz.ntmps177;go_wp2_with(((with_reducible refine aY (N:=1) rfl ?_);refine Kd.Wz Kd.string _ 9 ?hg (N:=1) ?hd (xs:=([(⟨#[77,111,110,100,97,121]⟩:af),(⟨#[84,117,101,115,100,97,121]⟩:af),(⟨#[87,101,100,110,101,115,100,97,121]⟩:af),(⟨#[84,104,117,114,115,100,97,121]⟩:af),(⟨#[70,114,105,100,97,121]⟩:af),(⟨#[83,97,116,117,114,100,97,121]⟩:af),(⟨#[83,117,110,100,97,121]⟩:af)]:List ByteArray)) (inner:=[.string (⟨#[77,111,110,100,97,121]⟩:af),.string (⟨#[84,117,101,115,100,97,121]⟩:af),.string (⟨#[87,101,100,110,101,115,100,97,121]⟩:af),.string (⟨#[84,104,117,114,115,100,97,121]⟩:af),.string (⟨#[70,114,105,100,97,121]⟩:af),.string (⟨#[83,97,116,117,114,100,97,121]⟩:af),.string (⟨#[83,117,110,100,97,121]⟩:af)]) (ok:=fun _=>True) (okp:=fun _=>True) ?hr ?hp (fun _ hk=>hk) trivial (Below.refl _ _) (Nat.le_refl _) (by simp) ?_;(case hd=>rfl);(case hg=>rfl);(case hr=>first|(go_simp;done)|(go_simp;rfl));(case hp=>exact(jK.one (show Kd.M Kd.string _ _ _ (⟨#[77,111,110,100,97,121]⟩:af) [.string (⟨#[77,111,110,100,97,121]⟩:af)] from rfl) (jK.one (show Kd.M Kd.string _ _ _ (⟨#[84,117,101,115,100,97,121]⟩:af) [.string (⟨#[84,117,101,115,100,97,121]⟩:af)] from rfl) (jK.one (show Kd.M Kd.string _ _ _ (⟨#[87,101,100,110,101,115,100,97,121]⟩:af) [.string (⟨#[87,101,100,110,101,115,100,97,121]⟩:af)] from rfl) (jK.one (show Kd.M Kd.string _ _ _ (⟨#[84,104,117,114,115,100,97,121]⟩:af) [.string (⟨#[84,104,117,114,115,100,97,121]⟩:af)] from rfl) (jK.one (show Kd.M Kd.string _ _ _ (⟨#[70,114,105,100,97,121]⟩:af) [.string (⟨#[70,114,105,100,97,121]⟩:af)] from rfl) (jK.one (show Kd.M Kd.string _ _ _ (⟨#[83,97,116,117,114,100,97,121]⟩:af) [.string (⟨#[83,97,116,117,114,100,97,121]⟩:af)] from rfl) (jK.one (show Kd.M Kd.string _ _ _ (⟨#[83,117,110,100,97,121]⟩:af) [.string (⟨#[83,117,110,100,97,121]⟩:af)] from rfl) (jK.none _ _)))))))));intro awz jm ho2 hb hg_ hnew_;clear hg_ hnew_;(first|rw[← afl.out] at ho2|(simp only[Int.reduceToNat] at ho2;rw[← afl.out] at ho2));have atH:=ae.mk (Kd.iT ho2 (bY dN));replace HB:=dS hb;clear hb ho2));go_ret;exact⟨_,nG,Ah,dN⟩


def lh.f (a0:Int):Option (Int):=(iy.f a0).bind fun ajt=>(if ajt=true then(some (Int.tmod (wrap64 ((wrap64 (Int.tdiv a0 86400))+3)) 7)) else(some (-1)))
theorem lh.e0 {p:Prop} (h:p:=by
  obtain rfl:=cu H
  go_enter Tryz.func178,Tryz.ntmps178
  go_wp2_with(first|((with_reducible refine ag (f:=37) rfl ?_);refine aG (some 4) rfl rfl Tryz.func37 aK rfl #[.int .i64 a0] rfl eu ?_;(with_reducible refine(iy.calls a0 false _ A2.out).mono ?_);rintro e w' ⟨rfl,⟨nd,rfl⟩⟩;refine⟨_,rfl,?_⟩)|((with_reducible refine ag (f:=37) rfl ?_);refine aG (some 4) rfl rfl Tryz.func37 aK rfl #[.int .i64 a0] rfl eu ?_;(with_reducible refine(iy.calls a0 true _ A2.out).mono ?_);rintro e w' ⟨rfl,⟨nd,rfl⟩⟩;refine⟨_,rfl,?_⟩))
  go_ret
  exact⟨fI,lG⟩):p:=h
theorem lh.calls (a0 r:Int) (w:World) (h:lh.f a0=some r) :
  Calls Tryz.prog 178 #[.int .i64 a0] w fun e w'=>e = .returned (.int .i64 r)∧ed w w':=by
 have H:=h;clear h;unfold lh.f at H;replace H:=gD H;obtain⟨ajt,A2,H⟩:=H;replace H:=gB H;rcases H with⟨rfl,H⟩|⟨rfl,H⟩
 ·exact lh.e0
 ·exact lh.e0

def dP.l0 : Nat→Int→Int→ByteArray→Option (ByteArray)
 |0,_,_,_=>none
 |k+1,x0,x1,x5=>if x1>0 then((ig.f (Int.tmod x0 10)).bind fun Vd=>(if Vd.size+x5.size≤9223372036854775807 then(dP.l0 k (wrap64 (Int.tdiv x0 10)) (wrap64 (x1-1)) (Vd++x5)) else(none))) else(some x5)
def dP.f (k:Nat) (a0:Int) (a1:Int):Option (ByteArray):=dP.l0 k a0 a1 (⟨#[]⟩:af)
theorem dP.calls (k:Nat) (a0 a1:Int) (r:ByteArray) (w:World) (h:dP.f k a0 a1=some r) (HT0:pY w) :
  Calls Tryz.prog 179 #[.int .i64 a0,.int .i64 a1] w fun e w'=>e = .returned (.string r)∧Below w.heap.size w w':=by
 have HT:=ae.mk HT0;clear HT0;have HB:=ae.mk (Below.refl w.heap.size w);have H:=h;clear h;unfold dP.f at H;have H':=ae.mk H;clear H;go_enter Tryz.func179,Tryz.ntmps179;go_wp2;go_loopg [0,1,5] k (fun kq v0 v1 v5 w'=>∃(wS:Int) (NR:Int) (dJ:ByteArray),v0 = .int .i64 wS∧v1 = .int .i64 NR∧v5 = .string dJ∧ae (dP.l0 kq wS NR dJ=some r)∧ae (kq≤k)∧ae (Below w.heap.size w w'))
 case atStart=>exact⟨(a0),(a1),((⟨#[]⟩:af)),fI,fI,fI,H',⟨Nat.le_refl _⟩,⟨dN⟩⟩
 case round=>
  clear H';obtain⟨wS,NR,dJ,rfl,rfl,rfl,HA,qj,HB⟩:=hrel;cases gk with
  |zero=>exact absurd HA.out (by simp[dP.l0])
  |succ k1=>
   have H:=HA.out;clear HA;simp only[dP.l0] at H;replace H:=gI H;rcases H with⟨c3,-,-,H⟩|⟨c3,-,-,H⟩
   ·have gM:decide (0<NR)=true:=aT c3;clear c3;replace H:=gD H;obtain⟨Vd,A4,H⟩:=H;replace H:=gN H;obtain⟨c5,Al,qh,H⟩:=H;try have ah1:(9223372036854775807<Vd.size+dJ.size)=False:=eq_false (Nat.not_lt.2 c5)
    have H':=ae.mk H;clear H;go_wp2_with(((with_reducible refine ag (f:=111) rfl ?_);refine aG (some 12) rfl rfl Tryz.func111 aK rfl #[.int .i64 (Int.tmod wS 10)] rfl eu ?_;(with_reducible refine(ig.calls (Int.tmod wS 10) Vd _ A4.out ?hT).mono ?_);(case hT=>exact gJ HT);rintro e jm ⟨rfl,hb⟩;refine⟨_,rfl,?_⟩;replace HB:=dS hb;(try clear hb)));go_roundg k1
    case measure=>have:=qj.out;omega
    case rel=>exact⟨(wrap64 (Int.tdiv wS 10)),(wrap64 (NR-1)),(Vd++dJ),fI,fI,fI,H',⟨by have:=qj.out;omega⟩,⟨dN⟩⟩
   ·have gM:decide (0<NR)=false:=aN c3;clear c3;obtain rfl:=cu H;go_wp2;go_ret;exact⟨nG,dN⟩

def kE.f (k:Nat) (aA:Int) (aC:Int) (aI:Int) (bD:Int) (aU:Int) (bZ:Int):Option (ByteArray):=(dP.f k bD 2).bind fun Il=>(if Il.size+1≤9223372036854775807 then((dP.f k aU 2).bind fun JR=>(if(Il++(⟨#[58]⟩:af)).size+JR.size≤9223372036854775807 then(if((Il++(⟨#[58]⟩:af))++JR).size+1≤9223372036854775807 then((dP.f k bZ 2).bind fun Ve=>(if(((Il++(⟨#[58]⟩:af))++JR)++(⟨#[58]⟩:af)).size+Ve.size≤9223372036854775807 then(some ((((Il++(⟨#[58]⟩:af))++JR)++(⟨#[58]⟩:af))++Ve)) else(none))) else(none)) else(none))) else(none))
def kE.T1 : Bool×List (List Nat×List Nat):=(true,[([],[]),([0],[0]),([1],[1]),([2],[2]),([],[]),([4],[4]),([5,2],[5]),([3,6],[3,6]),([7],[7]),([],[]),([9],[9]),([10,6],[10]),([8,11],[8,11]),([12,11,0,1,2,3,4,5,6,7,8,9,10,11,12],[12])])
def kE.B1 : List Nat:=[0,1,3,7,0,16,55,127,255,0,512,1655,4095,8191]
theorem kE.FC : rP .any (opsOf Tryz.f180 1)=kE.T1:=by kernel_rfl
theorem kE.yI : kD kE.T1.2 kE.B1=true:=by kernel_rfl
theorem kE.calls (k:Nat) (aA aC:Int) (aI bD:Int) (aU bZ:Int) (r:ByteArray) (w:World) (h:kE.f k aA aC aI bD aU bZ=some r) (HT0:pY w) :
  Calls Tryz.prog 180 #[.agg #[.int .i64 aA,.int .i64 aC,.int .i64 aI,.int .i64 bD,.int .i64 aU,.int .i64 bZ]] w fun e w'=>e = .returned (.string r)∧Below w.heap.size w w':=by
 have HT:=ae.mk HT0;clear HT0;have GH:=Tryz.underlying117;have HB:=ae.mk (Below.refl w.heap.size w);have H:=h;clear h;unfold kE.f at H;replace H:=gD H;obtain⟨Il,A2,H⟩:=H;replace H:=gI H;rcases H with⟨c3,uX,gM,H⟩|⟨c3,-,-,H⟩
 ·try have Ui:(9223372036854775807<Il.size+1)=False:=eq_false (Nat.not_lt.2 c3)
  replace H:=gD H;obtain⟨JR,A4,H⟩:=H;replace H:=gN H;obtain⟨c5,Al,qh,H⟩:=H;try have ah1:(9223372036854775807<(Il++(⟨#[58]⟩:af)).size+JR.size)=False:=eq_false (Nat.not_lt.2 c5)
  try have alX:(9223372036854775807<Il.size+1+JR.size)=False:=by have h_:=c5;simp only[ByteArray.size_append] at h_;exact eq_false (Nat.not_lt.2 h_)
  replace H:=gN H;obtain⟨c6,yK,nW,H⟩:=H;try have afm:(9223372036854775807<((Il++(⟨#[58]⟩:af))++JR).size+1)=False:=eq_false (Nat.not_lt.2 c6)
  try have apv:(9223372036854775807<Il.size+1+JR.size+1)=False:=by have h_:=c6;simp only[ByteArray.size_append] at h_;exact eq_false (Nat.not_lt.2 h_)
  replace H:=gD H;obtain⟨Ve,A7,H⟩:=H;replace H:=gN H;obtain⟨c8,Iu,tO,H⟩:=H;try have alY:(9223372036854775807<(((Il++(⟨#[58]⟩:af))++JR)++(⟨#[58]⟩:af)).size+Ve.size)=False:=eq_false (Nat.not_lt.2 c8)
  try have atI:(9223372036854775807<Il.size+1+JR.size+1+Ve.size)=False:=by have h_:=c8;simp only[ByteArray.size_append] at h_;exact eq_false (Nat.not_lt.2 h_)
  obtain rfl:=cu H;go_enter Tryz.func180,Tryz.ntmps180;try go_wp2_with(((with_reducible refine aY (N:=1) rfl ?_);refine jX #[.int .i64 aA,.int .i64 aC,.int .i64 aI,.int .i64 bD,.int .i64 aU,.int .i64 bZ] 117 ?_;intro JF hg jm hbox hb;have Iw:=ae.mk (hbox);have atJ:=jL hg;replace HB:=dS hb;clear hb hbox hg))
  replace Iw:=ae.mk (bJ Iw.out);replace HB:=ae.mk (di HB.out);refine lL (n:=14) (S:=fun w'=>w'.cell? ⟨JF,0,none⟩=some (.int .i64 aA)∧w'.cell? ⟨JF,1,none⟩=some (.int .i64 aC)∧w'.cell? ⟨JF,2,none⟩=some (.int .i64 aI)∧w'.cell? ⟨JF,3,none⟩=some (.int .i64 bD)∧w'.cell? ⟨JF,4,none⟩=some (.int .i64 aU)∧w'.cell? ⟨JF,5,none⟩=some (.int .i64 bZ)) (ds:=[]) (kY Iw) (fun hHeld=>?_);refine fu kE.FC kE.yI (fun HT_ HW_=>?_);generalize jm.drew=ku at Iw HB hHeld ⊢;repeat(first|refine nU ?_ (hy:=Or.inl ⟨by rfl,VI⟩)|refine fA ?_)
  refine dn 4 (some 7) ?_;refine iC 5 (some 8) (hy:=Or.inl ⟨by rfl,VI⟩) ?_;refine dn 9 (some 12) ?_;refine iC 10 (some 13) (hy:=Or.inl ⟨by rfl,VI⟩) ?_;refine iM (fun K hK=>?_);refine dV Tryz.func179 aK rfl #[.int .i64 bD,.int .i64 2] (by rfl) rfl rfl eu ?_;with_reducible refine(dP.calls k bD 2 Il _ A2.out ?hT).mono ?_
  case hT=>exact gJ HT
  rintro e pU ⟨rfl,hb⟩;refine⟨_,rfl,?_⟩;replace Iw:=iG (g:=JF) hb;replace HB:=dS hb;(try clear hb)
  refine hK.out _ _ (kY Iw) (fun hHeld=>?_);clear hK K;refine eP ?_;repeat(first|refine fA ?_)
  refine iM (fun K hK=>?_);refine dV Tryz.func179 aK rfl #[.int .i64 aU,.int .i64 2] (by rfl) rfl rfl eu ?_;with_reducible refine(dP.calls k aU 2 JR _ A4.out ?hT).mono ?_
  case hT=>exact gJ HT
  rintro e pU ⟨rfl,hb⟩;refine⟨_,rfl,?_⟩;replace Iw:=iG (g:=JF) hb;replace HB:=dS hb;(try clear hb)
  refine hK.out _ _ (kY Iw) (fun hHeld=>?_);clear hK K;refine eP ?_;repeat(first|refine fA ?_)
  refine iM (fun K hK=>?_);refine dV Tryz.func179 aK rfl #[.int .i64 bZ,.int .i64 2] (by rfl) rfl rfl eu ?_;with_reducible refine(dP.calls k bZ 2 Ve _ A7.out ?hT).mono ?_
  case hT=>exact gJ HT
  rintro e pU ⟨rfl,hb⟩;refine⟨_,rfl,?_⟩;replace Iw:=iG (g:=JF) hb;replace HB:=dS hb;(try clear hb)
  refine hK.out _ _ (kY Iw) (fun hHeld=>?_);clear hK K;refine eP ?_;repeat(first|refine fA ?_)
  refine mW (iR HT_.out aK) ?_;try go_wp2
  go_ret;exact⟨nG,dN⟩
 ·exact absurd H (by simp)

end Go.Proofs.YtfhllanhldbkkaaGreatDoor.P
