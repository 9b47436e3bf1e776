import Derived.Test.YtfhllanhldbkkaaGreatDoorPxspec01a
set_option maxHeartbeats 8000000
set_option maxRecDepth 100000
namespace Go.Proofs.YtfhllanhldbkkaaGreatDoor.P
open Go.RowKit Go.Proofs.YtfhllanhldbkkaaGreatDoorW.aW Go.Proofs.YtfhllanhldbkkaaGreatDoorW.eQ Go.Proofs.YtfhllanhldbkkaaGreatDoorW.fO
attribute [local go_sem] kV kW mE mF jP jQ kX kY dZ E8 E9 Fa Fb oU oV
set_option linter.unusedVariables false
set_option linter.unusedSimpArgs false

def lq.f (a0:Int):Option (Bool):=if a0>=0 then(some (decide (a0<=253402300799))) else(some false)
theorem lq.calls (a0:Int) (r:Bool) (w:World) (h:lq.f a0=some r) :
  Calls Tryz.prog 31 #[.int .i64 a0] w fun e w'=>e = .returned (.bool r)/\bL w w':=by
 unfold lq.f at h;exact uA
@[reducible,instance] def lq.c:=jM.of 0 Tryz.func31 @lq.calls

def aV.l0 : Nat->ByteArray->Int->Int->Option (Int)
 |0,_,_,_=>none
 |k+1,x0,x3,x4=>if x4<(x0.size:Int) then(if 0<=x4 then(if(bt x0 x4)=32 then(aV.l0 k x0 (wrap64 (x3*10)) (wrap64 (x4+1))) else((dQ.f (bt x0 x4)).bind fun ayd=>(if ayd=true then(aV.l0 k x0 (wrap64 ((wrap64 (x3*10))+(((bt x0 x4)-48)%256))) (wrap64 (x4+1))) else(some (-1))))) else(none)) else(some x3)
def aV.f (k:Nat) (a0:ByteArray):Option (Int):=aV.l0 k a0 0 0
theorem aV.calls (k:Nat) (a0:ByteArray) (r:Int) (w:World) (h:aV.f k a0=some r) :
  Calls Tryz.prog 115 #[.string a0] w fun e w'=>e = .returned (.int .i64 r)/\bL w w':=by
 have H:=ae.mk h;clear h;unfold aV.f at H;go_enter Tryz.func115,Tryz.ntmps115;go_wp2;go_loopg [3,4] k (fun kq v3 v4 w'=>∃(jD:Int) (gJ:Int),v3 = .int .i64 jD/\v4 = .int .i64 gJ/\ae (aV.l0 kq a0 jD gJ=some r)/\ae (kq<=k)/\bL w w')
 case atStart=>exact⟨(0),(0),kD,kD,H,⟨Nat.le_refl _⟩,TP⟩
 case round=>
  clear H;obtain⟨jD,gJ,rfl,rfl,HA,mh,⟨m1,rfl⟩⟩:=hrel;cases gk with
  |zero=>exact absurd HA.out (by simp[aV.l0])
  |succ k1=>
   have H:=HA;clear HA;simp only[aV.l0] at H;exact uW
@[reducible,instance] def aV.c:=jM.of 0 Tryz.func115 @aV.calls

def iP.f (a0:Int):Option (ByteArray):=if 0<=(wrap64 ((wrap64 (3*a0))-3)) then(if(wrap64 ((wrap64 (3*a0))-3))<=(wrap64 (3*a0)) then(if(wrap64 (3*a0))<=36 then(some ((⟨#[74,97,110,70,101,98,77,97,114,65,112,114,77,97,121,74,117,110,74,117,108,65,117,103,83,101,112,79,99,116,78,111,118,68,101,99]⟩:af).extract ((wrap64 ((wrap64 (3*a0))-3)):Int).toNat ((wrap64 (3*a0)):Int).toNat)) else(none)) else(none)) else(none)
theorem iP.calls (a0:Int) (r:ByteArray) (w:World) (h:iP.f a0=some r) :
  Calls Tryz.prog 160 #[.int .i64 a0] w fun e w'=>e = .returned (.string r)/\bL w w':=by
 have H:=ae.mk h;clear h;unfold iP.f at H;obtain⟨ji2,an4⟩:∃ j_:Int,(wrap64 ((wrap64 (3*a0))-3))=j_:=⟨_,rfl⟩;(first|rw[an4] at H|simp only[an4] at H ⊢)
 have aHs:(IntKind.i64.wrap ((wrap64 (3*a0))-3))=ji2:=(jJ _).trans an4;rcases GM H with⟨-,GI,nS,H⟩|⟨c3,-,-,H⟩
 ·obtain⟨-,Kh,yE,H⟩:=Ci H;obtain⟨-,LW,xW,H⟩:=Ci H;obtain rfl:=gK H.out;go_enter Tryz.func160,Tryz.ntmps160;go_wp2;go_ret;exact⟨by first|rfl|(simp;done)|(simp only[<- an4] <;> (first|rfl|simp))|(simp[*];done),TP⟩
 ·exact absurd H.out (by simp)
@[reducible,instance] def iP.c:=jM.of 0 Tryz.func160 @iP.calls

def eX.l0 : Nat->ByteArray->Int->Option (Int)
 |0,_,_=>none
 |k+1,x0,x3=>if x3<=12 then((iP.f x3).bind fun aye=>(if aye.toList=x0.toList then(some x3) else(eX.l0 k x0 (wrap64 (x3+1))))) else(some (-1))
def eX.f (k:Nat) (a0:ByteArray):Option (Int):=eX.l0 k a0 1
theorem eX.calls (k:Nat) (a0:ByteArray) (r:Int) (w:World) (h:eX.f k a0=some r) :
  Calls Tryz.prog 116 #[.string a0] w fun e w'=>e = .returned (.int .i64 r)/\bL w w':=by
 have H:=ae.mk h;clear h;unfold eX.f at H;go_enter Tryz.func116,Tryz.ntmps116;go_wp2;go_loopg [3] k (fun kq v3 w'=>∃(jD:Int),v3 = .int .i64 jD/\ae (eX.l0 kq a0 jD=some r)/\ae (kq<=k)/\bL w w')
 case atStart=>exact⟨(1),kD,H,⟨Nat.le_refl _⟩,TP⟩
 case round=>
  clear H;obtain⟨jD,rfl,HA,mh,⟨m1,rfl⟩⟩:=hrel;cases gk with
  |zero=>exact absurd HA.out (by simp[eX.l0])
  |succ k1=>
   have H:=HA;clear HA;simp only[eX.l0] at H;exact uW
@[reducible,instance] def eX.c:=jM.of 0 Tryz.func116 @eX.calls

def qJ.f (a0:Int):Option (Bool):=if(Int.tmod a0 4)=0 then(if(Int.tmod a0 100)=0 then(some ((Int.tmod a0 400)==0)) else(some true)) else(some false)
theorem qJ.calls (a0:Int) (r:Bool) (w:World) (h:qJ.f a0=some r) :
  Calls Tryz.prog 227 #[.int .i64 a0] w fun e w'=>e = .returned (.bool r)/\bL w w':=by
 unfold qJ.f at h;exact uA
@[reducible,instance] def qJ.c:=jM.of 0 Tryz.func227 @qJ.calls


def nP.f (a0:Int) (a1:Int):Option (Int):=if a1=2 then((qJ.f a0).bind fun ayf=>(if ayf=true then(some 29) else(some 28))) else(if a1=4 then(some 30) else(if a1=6 then(some 30) else(if a1=9 then(some 30) else(if a1=11 then(some 30) else(some 31)))))
theorem nP.calls (a0 a1 r:Int) (w:World) (h:nP.f a0 a1=some r) :
  Calls Tryz.prog 204 #[.int .i64 a0,.int .i64 a1] w fun e w'=>e = .returned (.int .i64 r)/\bL w w':=by
 unfold nP.f at h;exact uA
@[reducible,instance] def nP.c:=jM.of 0 Tryz.func204 @nP.calls

end Go.Proofs.YtfhllanhldbkkaaGreatDoor.P
namespace Go.Proofs.YtfhllanhldbkkaaGreatDoor.P
open Go.RowKit Go.Proofs.YtfhllanhldbkkaaGreatDoorW.aW Go.Proofs.YtfhllanhldbkkaaGreatDoorW.eQ Go.Proofs.YtfhllanhldbkkaaGreatDoorW.fO
attribute [local go_sem] kV kW mE mF jP jQ kX kY   -- for this text's walks alone
set_option linter.unusedVariables false
set_option linter.unusedSimpArgs false

def eU.f (az:Int) (aA:Int) (aC:Int) (bI:Int) (aG:Int) (bH:Int):Option (Bool):=if az>=1970 then(if az<=9999 then(if aA>=1 then(if aA<=12 then(if aC>=1 then((nP.f az aA).bind fun akH=>(if aC<=akH then(if bI>=0 then(if bI<=23 then(if aG>=0 then(if aG<=59 then(if bH>=0 then(some (decide (bH<=59))) else(some false)) else(some false)) else(some false)) else(some false)) else(some false)) else(some false))) else(some false)) else(some false)) else(some false)) else(some false)) else(some false)
def eU.T1 : Bool×List (List Nat×List Nat):=(true,[([],[]),([0],[0]),([1],[1]),([2],[2]),([3],[3]),([4,3],[3,4]),([5,3],[3,5]),([3,6],[3,6]),([7,3],[7]),([8],[8]),([9,8],[8,9]),([10,8],[8,10]),([8,11],[8,11]),([12,8],[12]),([13],[13]),([14,13],[13,14]),([15,13],[13,15]),([13,16],[13,16]),([17,13],[17]),([18],[18]),([19,18],[18,19]),([20,18],[18,20]),([18,21],[18,21]),([22,18],[22]),([23],[23]),([24,23],[23,24]),([23],[23]),([26,23],[23,26]),([23],[23]),([28,23],[23,28]),([27,29,23,23],[23,27,29]),([25,30,23],[23,25,30]),([23,31],[23,31]),([32,30],[32]),([33],[33]),([34,33],[33,34]),([35,33],[33,35]),([33,36],[33,36]),([37,33],[37]),([38],[38]),([39,38],[38,39]),([40,38],[38,40]),([38,41],[38,41]),([42,38],[42]),([43],[43]),([44,43],[43,44]),([45,43],[43,45]),([43,46],[43,46]),([47,43],[47]),([48],[48]),([49,48],[48,49]),([50,48],[48,50]),([48,51],[48,51]),([52,48],[52]),([53],[53]),([54,53],[53,54]),([55,53],[53,55]),([53,56],[53,56]),([57,53],[57]),([58],[58]),([59,58],[58,59]),([60,58],[58,60]),([58,61],[58,61]),([62,58,0,1,2,3,4,5,6,7,8,9,10,11,12,13,14,15,16,17,18,19,20,21,22,23,24,25,26,27,28,29,30,31,32,33,34,35,36,37,38,39,40,41,42,43,44,45,46,47,48,49,50,51,52,53,54,55,56,57,58,59,60,61,62],[62])])
def eU.B1 : List Nat:=[0,1,3,7,15,31,63,127,255,511,1023,2047,4095,8191,16383,32767,65535,131071,262143,524287,1048575,2097151,4194303,8388607,16777215,33554431,16777215,83886079,16777215,285212671,1023410175,2147483647,4294967295,8589934591,17179869183,34359738367,68719476735,137438953471,274877906943,549755813887,1099511627775,2199023255551,4398046511103,8796093022207,17592186044415,35184372088831,70368744177663,140737488355327,281474976710655,562949953421311,1125899906842623,2251799813685247,4503599627370495,9007199254740991,18014398509481983,36028797018963967,72057594037927935,144115188075855871,288230376151711743,576460752303423487,1152921504606846975,2305843009213693951,4611686018427387903,9223372036854775807]
theorem eU.El : pX .any (opsOf Tryz.f202 1)=eU.T1:=by kernel_rfl
theorem eU.xn : jK eU.T1.2 eU.B1=true:=by kernel_rfl
theorem eU.e0 {p:Prop} (h:p:=by
  obtain rfl:=gK H.out
  go_enter Tryz.func202,Tryz.ntmps202
  try go_wp2_with(((with_reducible refine vJ 1 rfl ?_);refine qo #[.int .i64 az,.int .i64 aA,.int .i64 aC,.int .i64 bI,.int .i64 aG,.int .i64 bH] 117 ?_;intro Rq hg mo hbox hb;have VX:=ae.mk (hbox);have aDK:=rE hg;replace HB:=iC hb;clear hb hbox hg))
  replace VX:=ae.mk (dh VX.out)
  replace HB:=ae.mk (bn HB.out)
  refine kJ (n:=64) (S:=fun w'=>w'.cell? ⟨Rq,0,none⟩=some (.int .i64 az)/\w'.cell? ⟨Rq,1,none⟩=some (.int .i64 aA)/\w'.cell? ⟨Rq,2,none⟩=some (.int .i64 aC)/\w'.cell? ⟨Rq,3,none⟩=some (.int .i64 bI)/\w'.cell? ⟨Rq,4,none⟩=some (.int .i64 aG)/\w'.cell? ⟨Rq,5,none⟩=some (.int .i64 bH)) (ds:=[]) (pY VX) (fun hHeld=>?_);refine dY eU.El eU.xn (fun HT_ HW_=>?_)
  generalize mo.drew=mV at VX HB hHeld ⊢
  repeat(first|refine mr ?_ (hy:=Or.inl ⟨by rfl,YE⟩)|refine ek ?_|(refine gV (fun K hK=>?_);refine lQ Tryz.func204 eB rfl #[.int .i64 az,.int .i64 aA] (by rfl) rfl rfl Iu ?_;(with_reducible refine(nP.calls az aA akH _ A7.out).mono ?_);rintro e w' ⟨rfl,⟨nd,rfl⟩⟩;refine⟨_,rfl,?_⟩;refine hK.out _ _ (pY VX) (fun hHeld=>?_);clear hK K;refine dI ?_))
  refine lh (gP HT_.out eB) ?_
  try go_wp2
  go_ret
  exact⟨su,dL⟩):p:=h
theorem eU.calls (az aA:Int) (aC bI:Int) (aG bH:Int) (r:Bool) (w:World) (h:eU.f az aA aC bI aG bH=some r) :
  Calls Tryz.prog 202 #[.agg #[.int .i64 az,.int .i64 aA,.int .i64 aC,.int .i64 bI,.int .i64 aG,.int .i64 bH]] w fun e w'=>e = .returned (.bool r)/\Below w.heap.size w w':=by
 have FR:=Tryz.underlying117;have HB:=ae.mk (Below.refl w.heap.size w);have H:=ae.mk h;clear h;unfold eU.f at H;rcases GM H with⟨-,xU,-,H⟩|⟨-,xU,-,H⟩
 ·rcases GM H with⟨-,nS,-,H⟩|⟨-,nS,-,H⟩
  ·rcases GM H with⟨-,yE,-,H⟩|⟨-,yE,-,H⟩
   ·rcases GM H with⟨-,xW,-,H⟩|⟨-,xW,-,H⟩
    ·rcases GM H with⟨-,xV,-,H⟩|⟨-,xV,-,H⟩
     ·obtain⟨akH,A7,H⟩:=xE H;rcases GM H with⟨-,zS,-,H⟩|⟨-,zS,-,H⟩
      ·rcases GM H with⟨-,LH,-,H⟩|⟨-,LH,-,H⟩
       ·rcases GM H with⟨-,Cm,-,H⟩|⟨-,Cm,-,H⟩
        ·rcases GM H with⟨-,EA,-,H⟩|⟨-,EA,-,H⟩
         ·rcases GM H with⟨-,Ab,-,H⟩|⟨-,Ab,-,H⟩
          ·rcases GM H with⟨-,zi,-,H⟩|⟨-,zi,-,H⟩
           ·exact eU.e0
           ·exact eU.e0
          ·exact eU.e0
         ·exact eU.e0
        ·exact eU.e0
       ·exact eU.e0
      ·exact eU.e0
     ·exact eU.e0
    ·exact eU.e0
   ·exact eU.e0
  ·exact eU.e0
 ·exact eU.e0
@[reducible,instance] def eU.c:=jM.of 0 Tryz.func202 @eU.calls

end Go.Proofs.YtfhllanhldbkkaaGreatDoor.P
namespace Go.Proofs.YtfhllanhldbkkaaGreatDoor.P
open Go.RowKit Go.Proofs.YtfhllanhldbkkaaGreatDoorW.aW Go.Proofs.YtfhllanhldbkkaaGreatDoorW.eQ Go.Proofs.YtfhllanhldbkkaaGreatDoorW.fO
attribute [local go_sem] kV kW mE mF jP jQ kX kY dZ E8 E9 Fa Fb oU oV
set_option linter.unusedVariables false
set_option linter.unusedSimpArgs false

def mJ.f (a0:Int):Option (Int):=(qJ.f a0).bind fun ayg=>(if ayg=true then(some 366) else(some 365))
theorem mJ.calls (a0 r:Int) (w:World) (h:mJ.f a0=some r) :
  Calls Tryz.prog 203 #[.int .i64 a0] w fun e w'=>e = .returned (.int .i64 r)/\bL w w':=by
 unfold mJ.f at h;exact uA
@[reducible,instance] def mJ.c:=jM.of 0 Tryz.func203 @mJ.calls

mutual
def cB.l0 : Nat->Int->Int->Int->Int->Int->Int->Int->Int->Option (Int×Bool)
 |0,_,_,_,_,_,_,_,_=>none
 |k+1,x4,x5,Jf,Mo,Qc,Mq,Mr,Ms=>if x5<Jf then((mJ.f x5).bind fun ayh=>(cB.l0 k (wrap64 (x4+ayh)) (wrap64 (x5+1)) Jf Mo Qc Mq Mr Ms)) else(cB.l1 k x4 1 Jf Mo Qc Mq Mr Ms)
def cB.l1 : Nat->Int->Int->Int->Int->Int->Int->Int->Int->Option (Int×Bool)
 |0,_,_,_,_,_,_,_,_=>none
 |k+1,x4,x6,Jf,Mo,Qc,Mq,Mr,Ms=>if x6<Mo then((nP.f Jf x6).bind fun ayi=>(cB.l1 k (wrap64 (x4+ayi)) (wrap64 (x6+1)) Jf Mo Qc Mq Mr Ms)) else(some (wrap64 ((wrap64 ((wrap64 ((wrap64 ((wrap64 ((wrap64 (x4*24))+Mq))*60))+Mr))*60))+Ms),true))
end
def cB.f (k:Nat) (az:Int) (aA:Int) (aC:Int) (bI:Int) (aG:Int) (bH:Int):Option (Int×Bool):=(eU.f az aA aC bI aG bH).bind fun ayj=>(if ayj=true then(cB.l0 k (wrap64 (aC-1)) 1970 az aA aC bI aG bH) else(some (0,false)))
theorem cB.calls (k:Nat) (az aA:Int) (aC bI:Int) (aG bH r1:Int) (r2:Bool) (w:World) (h:cB.f k az aA aC bI aG bH=some (r1,r2)) :
  Calls Tryz.prog 159 #[.agg #[.int .i64 az,.int .i64 aA,.int .i64 aC,.int .i64 bI,.int .i64 aG,.int .i64 bH]] w fun e w'=>e = .returned (.tuple #[.int .i64 r1,.bool r2])/\Below w.heap.size w w':=by
 have FR:=Tryz.underlying117;have HB:=ae.mk (Below.refl w.heap.size w);have H:=ae.mk h;clear h;unfold cB.f at H;rcases D6 H with⟨A2,H⟩|⟨A2,H⟩
 ·go_enter Tryz.func159,Tryz.ntmps159;go_wp2_with(first|((with_reducible refine vJ 1 rfl ?_);refine qo #[.int .i64 az,.int .i64 aA,.int .i64 aC,.int .i64 bI,.int .i64 aG,.int .i64 bH] 117 ?_;intro aea hg w4 hbox hb;have Ba:=ae.mk (hbox);have aDL:=rE hg;replace HB:=iC hb;clear hb hbox hg;obtain⟨_,_,_,_,_,_⟩:=pY Ba;obtain⟨_,_,_,_,_,_⟩:=Le Ba)|((with_reducible refine lS 202 rfl ?_);refine vI 8 rfl Tryz.func202 (eU.calls az aA aC bI aG bH true _ A2.out) fun w6 hb _=>?_;replace Ba:=jr (g:=aea) hb;replace HB:=iC hb;(try clear hb);obtain⟨_,_,_,_,_,_⟩:=pY Ba;obtain⟨_,_,_,_,_,_⟩:=Le Ba));go_loopg [4,5] k (fun kq v4 v5 w'=>∃(gJ:Int) (gH:Int),v4 = .int .i64 gJ/\v5 = .int .i64 gH/\ae (cB.l0 kq gJ gH az aA aC bI aG bH=some (r1,r2))/\ae (kq<=k)/\ae (w'.heap[aea]? = some (.cells #[.int .i64 az,.int .i64 aA,.int .i64 aC,.int .i64 bI,.int .i64 aG,.int .i64 bH] 117 (0,0)))/\ae (Below w.heap.size w w'))
  case atStart=>exact⟨(wrap64 (aC-1)),(1970),kD,kD,H,⟨Nat.le_refl _⟩,⟨yz⟩,⟨dL⟩⟩
  case round=>
   clear H;obtain⟨gJ,gH,rfl,rfl,HA,mh,Ba,HB⟩:=hrel;cases gk with
   |zero=>exact absurd HA.out (by simp[cB.l0])
   |succ k1=>
    have H:=HA;clear HA;simp only[cB.l0] at H;rcases GM H with⟨-,zS,-,H⟩|⟨-,zS,-,H⟩
    ·exact uW
    ·obtain⟨_,_,_,_,_,_⟩:=pY Ba;obtain⟨_,_,_,_,_,_⟩:=Le Ba;go_wp2;go_loopg [4,6] k1 (fun kq v4 v6 w'=>∃(lF:Int) (ib:Int),v4 = .int .i64 lF/\v6 = .int .i64 ib/\ae (cB.l1 kq lF ib az aA aC bI aG bH=some (r1,r2))/\ae (kq<=k1)/\ae (w'.heap[aea]? = some (.cells #[.int .i64 az,.int .i64 aA,.int .i64 aC,.int .i64 bI,.int .i64 aG,.int .i64 bH] 117 (0,0)))/\ae (Below w.heap.size w w'))
     case atStart=>exact⟨(gJ),(1),kD,kD,H,⟨Nat.le_refl _⟩,⟨yz⟩,⟨dL⟩⟩
     case round=>
      clear H;try clear zS
      obtain⟨lF,ib,rfl,rfl,HA,Cv,Ba,HB⟩:=hrel;cases gk with
      |zero=>exact absurd HA.out (by simp[cB.l1])
      |succ k2=>
       have H:=HA;clear HA;simp only[cB.l1] at H;exact uW
 ·exact uE
@[reducible,instance] def cB.c:=jM.of 0 Tryz.func159 @cB.calls


def ja.f (k:Nat) (a0:Int) (a1:Int) (a2:Int) (a3:ByteArray):Option (Int):=if 0<=2 then(if 2<=(a3.size:Int) then((aV.f k (a3.extract 0 2)).bind fun Yq=>(if 3<=5 then(if 5<=(a3.size:Int) then((aV.f k (a3.extract 3 5)).bind fun Yr=>(if 6<=8 then(if 8<=(a3.size:Int) then((aV.f k (a3.extract 6 8)).bind fun Yt=>((cB.f k a0 a1 a2 Yq Yr Yt).bind fun akI=>(if akI.2=true then(some akI.1) else(some (-1))))) else(none)) else(none))) else(none)) else(none))) else(none)) else(none)
def ja.T1 : Bool×List (List Nat×List Nat):=(true,[([],[]),([],[]),([],[]),([],[]),([3],[3]),([4],[4]),([],[]),([6],[6]),([7,5],[7]),([],[]),([9],[9]),([10,8],[10]),([0,1,2,5,8,11],[0,1,2,5,8,11]),([12,11],[12]),([13],[13]),([14],[14]),([14],[14]),([15,13,0,1,2,3,4,5,6,7,8,9,10,11,12,13,14,15],[15]),([16,17,0,1,2,3,4,5,6,7,8,9,10,11,12,13,14,15,16,17],[16])])
def ja.B1 : List Nat:=[0,0,0,0,8,24,0,64,248,0,512,2040,4095,8191,16383,32767,32767,65535,262143]
theorem ja.El : pX .any (opsOf Tryz.f114 1)=ja.T1:=by kernel_rfl
theorem ja.xn : jK ja.T1.2 ja.B1=true:=by kernel_rfl
theorem ja.calls (k:Nat) (a0 a1 a2:Int) (a3:ByteArray) (r:Int) (w:World) (h:ja.f k a0 a1 a2 a3=some r) :
  Calls Tryz.prog 114 #[.int .i64 a0,.int .i64 a1,.int .i64 a2,.string a3] w fun e w'=>e = .returned (.int .i64 r)/\Below w.heap.size w w':=by
 have FR:=Tryz.underlying117;have HB:=ae.mk (Below.refl w.heap.size w);have H:=h;clear h;unfold ja.f at H;replace H:=gI H;rcases H with⟨-,LW,xW,H⟩|⟨c5,-,-,H⟩
 ·replace H:=gN H;obtain⟨-,M8,xV,H⟩:=H;replace H:=gD H;obtain⟨Yq,A7,H⟩:=H;replace H:=gN H;obtain⟨-,Zy,zS,H⟩:=H;replace H:=gN H;obtain⟨-,aiM,LH,H⟩:=H;replace H:=gD H;obtain⟨Yr,A10,H⟩:=H;replace H:=gN H;obtain⟨-,aa8,EA,H⟩:=H;replace H:=gN H;obtain⟨-,Nk,Ab,H⟩:=H;replace H:=gD H;obtain⟨Yt,A13,H⟩:=H;replace H:=gD H;obtain⟨⟨aq5,aHt⟩,A14,H⟩:=H;dsimp only at H;replace H:=gB H;rcases H with⟨rfl,H⟩|⟨rfl,H⟩
  ·obtain rfl:=gK H;go_enter Tryz.func114,Tryz.ntmps114;try go_wp2
   replace HB:=ae.mk (bn HB.out);refine kJ (n:=19) (S:=fun w'=>True) (ds:=[]) trivial (fun hHeld=>?_);refine dY ja.El ja.xn (fun HT_ HW_=>?_);generalize w.drew=mo at HB hHeld ⊢;repeat(first|refine ek ?_)
   refine bN 6 (some 18) ?_;refine bN 7 (some 19) ?_;refine bN 9 (some 21) ?_;refine bN 10 (some 22) ?_;refine gV (fun K hK=>?_);refine Iw Tryz.func115 (aV.calls k (a3.extract 0 2) Yq _ A7.out) fun nd=>?_;refine hK.out _ _ trivial (fun hHeld=>?_);clear hK K;refine dI ?_;refine gV (fun K hK=>?_);refine Iw Tryz.func115 (aV.calls k (a3.extract 3 5) Yr _ A10.out) fun nd=>?_;refine hK.out _ _ trivial (fun hHeld=>?_);clear hK K;refine dI ?_;refine gV (fun K hK=>?_);refine Iw Tryz.func115 (aV.calls k (a3.extract 6 8) Yt _ A13.out) fun nd=>?_;refine hK.out _ _ trivial (fun hHeld=>?_);clear hK K;refine dI ?_;repeat(first|refine ek ?_)
   refine gV (fun K hK=>?_);refine EC Tryz.func159 (cB.calls k a0 a1 a2 Yq Yr Yt aq5 true _ A14.out) fun mV hb=>?_;replace HB:=iC hb;(try clear hb)
   refine hK.out _ _ trivial (fun hHeld=>?_);clear hK K;refine dI ?_;repeat(first|refine ek ?_)
   refine lh (gP HT_.out eB) ?_;try go_wp2
   go_ret;exact⟨su,dL⟩
  ·obtain rfl:=gK H;go_enter Tryz.func114,Tryz.ntmps114;try go_wp2
   replace HB:=ae.mk (bn HB.out);refine kJ (n:=19) (S:=fun w'=>True) (ds:=[]) trivial (fun hHeld=>?_);refine dY ja.El ja.xn (fun HT_ HW_=>?_);generalize w.drew=mo at HB hHeld ⊢;repeat(first|refine ek ?_)
   refine bN 6 (some 18) ?_;refine bN 7 (some 19) ?_;refine bN 9 (some 21) ?_;refine bN 10 (some 22) ?_;refine gV (fun K hK=>?_);refine Iw Tryz.func115 (aV.calls k (a3.extract 0 2) Yq _ A7.out) fun nd=>?_;refine hK.out _ _ trivial (fun hHeld=>?_);clear hK K;refine dI ?_;refine gV (fun K hK=>?_);refine Iw Tryz.func115 (aV.calls k (a3.extract 3 5) Yr _ A10.out) fun nd=>?_;refine hK.out _ _ trivial (fun hHeld=>?_);clear hK K;refine dI ?_;refine gV (fun K hK=>?_);refine Iw Tryz.func115 (aV.calls k (a3.extract 6 8) Yt _ A13.out) fun nd=>?_;refine hK.out _ _ trivial (fun hHeld=>?_);clear hK K;refine dI ?_;repeat(first|refine ek ?_)
   refine gV (fun K hK=>?_);refine EC Tryz.func159 (cB.calls k a0 a1 a2 Yq Yr Yt aq5 false _ A14.out) fun mV hb=>?_;replace HB:=iC hb;(try clear hb)
   refine hK.out _ _ trivial (fun hHeld=>?_);clear hK K;refine dI ?_;repeat(first|refine ek ?_)
   refine lh (gP HT_.out eB) ?_;try go_wp2
   go_ret;exact⟨su,dL⟩
 ·exact absurd H (by simp)
@[reducible,instance] def ja.c:=jM.of 0 Tryz.func114 @ja.calls


mutual
def cO.l0 : Nat->Int->Int->Int->Int->Int->Int->Int->Option (Int×Int×Int×Int×Int×Int×Bool)
 |0,_,_,_,_,_,_,_=>none
 |k+1,x4,BP,F5,Qd,Mt,Mv,Mw=>(mJ.f BP).bind fun afs=>(if x4>=afs then((mJ.f BP).bind fun aft=>(cO.l0 k (wrap64 (x4-aft)) (wrap64 (BP+1)) F5 Qd Mt Mv Mw)) else(cO.l1 k x4 BP F5 Qd Mt Mv Mw))
def cO.l1 : Nat->Int->Int->Int->Int->Int->Int->Int->Option (Int×Int×Int×Int×Int×Int×Bool)
 |0,_,_,_,_,_,_,_=>none
 |k+1,x4,BP,F5,Qd,Mt,Mv,Mw=>(nP.f BP F5).bind fun ayk=>(if x4>=ayk then((nP.f BP F5).bind fun ayl=>(cO.l1 k (wrap64 (x4-ayl)) BP (wrap64 (F5+1)) Qd Mt Mv Mw)) else(some (BP,F5,wrap64 (x4+1),Mt,Mv,Mw,true)))
end
def cO.f (k:Nat) (a0:Int):Option (Int×Int×Int×Int×Int×Int×Bool):=(lq.f a0).bind fun aym=>(if aym=true then(cO.l0 k (wrap64 (Int.tdiv a0 86400)) 1970 1 0 (Int.tmod (wrap64 (Int.tdiv a0 3600)) 24) (Int.tmod (wrap64 (Int.tdiv a0 60)) 60) (Int.tmod a0 60)) else(some (0,0,0,0,0,0,false)))
theorem cO.calls (k:Nat) (a0 r1:Int) (r2 r3:Int) (r4 r5 r6:Int) (r7:Bool) (w:World) (h:cO.f k a0=some (r1,r2,r3,r4,r5,r6,r7)) :
  Calls Tryz.prog 161 #[.int .i64 a0] w fun e w'=>e = .returned (.tuple #[.agg #[.int .i64 r1,.int .i64 r2,.int .i64 r3,.int .i64 r4,.int .i64 r5,.int .i64 r6],.bool r7])/\Below w.heap.size w w':=by
 have FR:=Tryz.underlying117;have HB:=ae.mk (Below.refl w.heap.size w);have H:=ae.mk h;clear h;unfold cO.f at H;rcases D6 H with⟨A2,H⟩|⟨A2,H⟩
 ·go_enter Tryz.func161,Tryz.ntmps161;go_wp2_with(first|((with_reducible refine vJ 2 rfl ?_);refine qo #[.int .i64 0,.int .i64 0,.int .i64 0,.int .i64 0,.int .i64 0,.int .i64 0] 117 ?_;intro Oz hg w4 hbox hb;have Ba:=ae.mk (hbox);have aDM:=rE hg;replace HB:=iC hb;clear hb hbox hg)|((with_reducible refine lS 31 rfl ?_);refine MW 7 rfl Tryz.func31 (lq.calls a0 true _ A2.out) fun nd=>?_;(try(rw[qW w4];generalize hq_:World.drewN w4 _=w4;have qb:ae (w4.heap[Oz]? = some (.cells #[.int .i64 0,.int .i64 0,.int .i64 0,.int .i64 0,.int .i64 0,.int .i64 0] 117 (0,0))):=⟨ase⟩;have qU:ae (Below w.heap.size w w4):=⟨by rw[<- hq_];exact dL⟩;clear Ba HB hq_;have Ba:=qb;have HB:=qU;clear qb qU)))|((with_reducible refine vJ 5 rfl ?_);refine qo #[.int .i64 0,.int .i64 0,.int .i64 0,.int .i64 0,.int .i64 0,.int .i64 0] 117 ?_;intro Mx hg w5 hbox hb;have Bb:=ae.mk (hbox);have aDN:=rE hg;have G7:=O9 (g:=Oz) hg;have MB:=QD G7;replace Ba:=jr (g:=Oz) hb;replace HB:=iC hb;clear hb hbox hg;have aAv:=MB.out;have aAw:=G7.out;obtain⟨_,_,_,_,_,_⟩:=pY Bb;obtain⟨_,_,_,_,_,_⟩:=Le Bb));go_loopg [4] k (fun kq v4 w'=>∃(gJ:Int) (tF:Int),v4 = .int .i64 gJ/\ae (cO.l0 kq gJ tF 1 0 (Int.tmod (wrap64 (Int.tdiv a0 3600)) 24) (Int.tmod (wrap64 (Int.tdiv a0 60)) 60) (Int.tmod a0 60)=some (r1,r2,r3,r4,r5,r6,r7))/\ae (kq<=k)/\ae (w'.heap[Oz]? = some (.cells #[.int .i64 0,.int .i64 0,.int .i64 0,.int .i64 0,.int .i64 0,.int .i64 0] 117 (0,0)))/\ae (w'.heap[Mx]? = some (.cells #[.int .i64 tF,.int .i64 1,.int .i64 0,.int .i64 (Int.tmod (wrap64 (Int.tdiv a0 3600)) 24),.int .i64 (Int.tmod (wrap64 (Int.tdiv a0 60)) 60),.int .i64 (Int.tmod a0 60)] 117 (0,0)))/\ae (Below w.heap.size w w'))
  case atStart=>exact⟨(wrap64 (Int.tdiv a0 86400)),(1970),kD,H,⟨Nat.le_refl _⟩,⟨yz⟩,⟨yz⟩,⟨dL⟩⟩
  case round=>
   clear H;obtain⟨gJ,tF,rfl,HA,mh,Ba,Bb,HB⟩:=hrel;cases gk with
   |zero=>exact absurd HA.out (by simp[cO.l0])
   |succ k1=>
    have H:=HA;clear HA;simp only[cO.l0] at H;obtain⟨afs,A8,H⟩:=xE H;rcases GM H with⟨-,LH,-,H⟩|⟨-,LH,-,H⟩
    ·obtain⟨aft,A10,H⟩:=xE H;have awe:=MB.out;have awf:=G7.out;obtain⟨_,_,_⟩:=asc Bb;have aeQ:wr.cell? ⟨Mx,3,none⟩=some (.int .i64 (Int.tmod (wrap64 (Int.tdiv a0 3600)) 24)):=(ag Bb.out 3).trans rfl;have aeR:wr.cell? ⟨Mx,4,none⟩=some (.int .i64 (Int.tmod (wrap64 (Int.tdiv a0 60)) 60)):=(ag Bb.out 4).trans rfl;have aeS:=Pb Bb;obtain⟨_,_,_,_,_,_⟩:=Le Bb;go_wp2_with(first|((with_reducible refine lS 203 rfl ?_);refine MW 24 rfl Tryz.func203 (mJ.calls tF afs _ A8.out) fun nd=>?_;(try(rw[qW wr];generalize hq_:World.drewN wr _=wr;have qb:ae (wr.heap[Oz]? = some (.cells #[.int .i64 0,.int .i64 0,.int .i64 0,.int .i64 0,.int .i64 0,.int .i64 0] 117 (0,0))):=⟨ase⟩;have qU:ae (wr.heap[Mx]? = some (.cells #[.int .i64 tF,.int .i64 1,.int .i64 0,.int .i64 (Int.tmod (wrap64 (Int.tdiv a0 3600)) 24),.int .i64 (Int.tmod (wrap64 (Int.tdiv a0 60)) 60),.int .i64 (Int.tmod a0 60)] 117 (0,0))):=⟨auB⟩;have I5:ae (Below w.heap.size w wr):=⟨by rw[<- hq_];exact dL⟩;clear Ba Bb HB hq_;have Ba:=qb;have Bb:=qU;have HB:=I5;clear qb qU I5;obtain⟨_,_,_,_,_,_⟩:=pY Ba;obtain⟨_,_,_,_,_,_⟩:=Le Ba;obtain⟨_,_,_,_,_,_⟩:=pY Bb;obtain⟨_,_,_,_,_,_⟩:=Le Bb)))|((with_reducible refine lS 203 rfl ?_);refine MW 29 rfl Tryz.func203 (mJ.calls tF aft _ A10.out) fun nd=>?_;(try(rw[qW wr];generalize hq_:World.drewN wr _=wr;have qb:ae (wr.heap[Oz]? = some (.cells #[.int .i64 0,.int .i64 0,.int .i64 0,.int .i64 0,.int .i64 0,.int .i64 0] 117 (0,0))):=⟨ase⟩;have qU:ae (wr.heap[Mx]? = some (.cells #[.int .i64 tF,.int .i64 1,.int .i64 0,.int .i64 (Int.tmod (wrap64 (Int.tdiv a0 3600)) 24),.int .i64 (Int.tmod (wrap64 (Int.tdiv a0 60)) 60),.int .i64 (Int.tmod a0 60)] 117 (0,0))):=⟨auB⟩;have I5:ae (Below w.heap.size w wr):=⟨by rw[<- hq_];exact dL⟩;clear Ba Bb HB hq_;have Ba:=qb;have Bb:=qU;have HB:=I5;clear qb qU I5;obtain⟨_,_,_,_,_,_⟩:=pY Ba;obtain⟨_,_,_,_,_,_⟩:=Le Ba;obtain⟨_,_,_,_,_,_⟩:=pY Bb;obtain⟨_,_,_,_,_,_⟩:=Le Bb))));go_roundg k1
     case measure=>have:=mh.out;omega
     case rel=>exact⟨(wrap64 (gJ-aft)),(wrap64 (tF+1)),kD,H,⟨by have:=mh.out;omega⟩,⟨yz⟩,⟨yz⟩,⟨dL⟩⟩
    ·have avp:=MB.out;have avq:=G7.out;obtain⟨_,_,_⟩:=asc Bb;have an5:wr.cell? ⟨Mx,3,none⟩=some (.int .i64 (Int.tmod (wrap64 (Int.tdiv a0 3600)) 24)):=(ag Bb.out 3).trans rfl;have an6:wr.cell? ⟨Mx,4,none⟩=some (.int .i64 (Int.tmod (wrap64 (Int.tdiv a0 60)) 60)):=(ag Bb.out 4).trans rfl;have an7:=Pb Bb;obtain⟨_,_,_,_,_,_⟩:=Le Bb;go_wp2_with(first|((with_reducible refine lS 203 rfl ?_);refine MW 24 rfl Tryz.func203 (mJ.calls tF afs _ A8.out) fun nd=>?_));go_loopg [4] k1 (fun kq v4 w'=>∃(lF:Int) (OA:Int),v4 = .int .i64 lF/\ae (cO.l1 kq lF tF OA 0 (Int.tmod (wrap64 (Int.tdiv a0 3600)) 24) (Int.tmod (wrap64 (Int.tdiv a0 60)) 60) (Int.tmod a0 60)=some (r1,r2,r3,r4,r5,r6,r7))/\ae (kq<=k1)/\ae (w'.heap[Oz]? = some (.cells #[.int .i64 0,.int .i64 0,.int .i64 0,.int .i64 0,.int .i64 0,.int .i64 0] 117 (0,0)))/\ae (w'.heap[Mx]? = some (.cells #[.int .i64 tF,.int .i64 OA,.int .i64 0,.int .i64 (Int.tmod (wrap64 (Int.tdiv a0 3600)) 24),.int .i64 (Int.tmod (wrap64 (Int.tdiv a0 60)) 60),.int .i64 (Int.tmod a0 60)] 117 (0,0)))/\ae (Below w.heap.size w w'))
     case atStart=>exact⟨(gJ),(1),kD,H,⟨Nat.le_refl _⟩,⟨yz⟩,⟨yz⟩,⟨dL⟩⟩
     case round=>
      clear H;try clear c9
      try clear LH
      try clear an5
      try clear an6
      try clear an7
      obtain⟨lF,OA,rfl,HA,Cv,Ba,Bb,HB⟩:=hrel;cases gk with
      |zero=>exact absurd HA.out (by simp[cO.l1])
      |succ k2=>
       have H:=HA;clear HA;simp only[cO.l1] at H;exact uW
 ·exact uE
@[reducible,instance] def cO.c:=jM.of 0 Tryz.func161 @cO.calls


def lK.f (a0:Int):Option (Int):=(lq.f a0).bind fun ayn=>(if ayn=true then(some (Int.tmod (wrap64 ((wrap64 (Int.tdiv a0 86400))+3)) 7)) else(some (-1)))
theorem lK.calls (a0 r:Int) (w:World) (h:lK.f a0=some r) :
  Calls Tryz.prog 163 #[.int .i64 a0] w fun e w'=>e = .returned (.int .i64 r)/\bL w w':=by
 unfold lK.f at h;exact uA
@[reducible,instance] def lK.c:=jM.of 0 Tryz.func163 @lK.calls

def jZ.f (a0:Int):Option (ByteArray):=if a0=0 then(some (⟨#[77,111,110,100,97,121]⟩:af)) else(if a0=1 then(some (⟨#[84,117,101,115,100,97,121]⟩:af)) else(if a0=2 then(some (⟨#[87,101,100,110,101,115,100,97,121]⟩:af)) else(if a0=3 then(some (⟨#[84,104,117,114,115,100,97,121]⟩:af)) else(if a0=4 then(some (⟨#[70,114,105,100,97,121]⟩:af)) else(if a0=5 then(some (⟨#[83,97,116,117,114,100,97,121]⟩:af)) else(some (⟨#[83,117,110,100,97,121]⟩:af)))))))
theorem jZ.calls (a0:Int) (r:ByteArray) (w:World) (h:jZ.f a0=some r) :
  Calls Tryz.prog 162 #[.int .i64 a0] w fun e w'=>e = .returned (.string r)/\bL w w':=by
 unfold jZ.f at h;exact uA
@[reducible,instance] def jZ.c:=jM.of 0 Tryz.func162 @jZ.calls

def eD.l0 : Nat->Int->ByteArray->Option (ByteArray)
 |0,_,_=>none
 |k+1,x1,x5=>if(x5.size:Int)<x1 then(if 1+x5.size<=9223372036854775807 then(eD.l0 k x1 ((⟨#[48]⟩:af)++x5)) else(none)) else(some x5)
def eD.f (k:Nat) (a0:Int) (a1:Int):Option (ByteArray):=(bX.f k a0).bind fun afu=>(eD.l0 k a1 afu)
theorem eD.calls (k:Nat) (a0 a1:Int) (r:ByteArray) (w:World) (h:eD.f k a0 a1=some r) :
  Calls Tryz.prog 164 #[.int .i64 a0,.int .i64 a1] w fun e w'=>e = .returned (.string r)/\Below w.heap.size w w':=by
 have HB:=ae.mk (Below.refl w.heap.size w);have H:=ae.mk h;clear h;unfold eD.f at H;obtain⟨afu,A3,H⟩:=xE H;go_enter Tryz.func164,Tryz.ntmps164;go_wp2_with(first|((with_reducible refine lS 102 rfl ?_);refine vI 7 rfl Tryz.func102 (bX.calls k a0 afu _ A3.out) fun w4 hb HB=>?_;clear hb));go_loopg [5] k (fun kq v5 w'=>∃(gH:ByteArray),v5 = .string gH/\ae (eD.l0 kq a1 gH=some r)/\ae (kq<=k)/\ae (Below w.heap.size w w'))
 case atStart=>exact⟨(afu),kD,H,⟨Nat.le_refl _⟩,⟨dL⟩⟩
 case round=>
  clear H;obtain⟨gH,rfl,HA,mh,HB⟩:=hrel;cases gk with
  |zero=>exact absurd HA.out (by simp[eD.l0])
  |succ k1=>
   have H:=HA;clear HA;simp only[eD.l0] at H;exact uW
@[reducible,instance] def eD.c:=jM.of 0 Tryz.func164 @eD.calls


def iy.f (k:Nat) (az:Int) (aA:Int) (aC:Int) (bI:Int) (aG:Int) (bH:Int):Option (ByteArray):=(eD.f k bI 2).bind fun VY=>(if VY.size+1<=9223372036854775807 then((eD.f k aG 2).bind fun Yu=>(if(VY++(⟨#[58]⟩:af)).size+Yu.size<=9223372036854775807 then(if((VY++(⟨#[58]⟩:af))++Yu).size+1<=9223372036854775807 then((eD.f k bH 2).bind fun afv=>(if(((VY++(⟨#[58]⟩:af))++Yu)++(⟨#[58]⟩:af)).size+afv.size<=9223372036854775807 then(some ((((VY++(⟨#[58]⟩:af))++Yu)++(⟨#[58]⟩:af))++afv)) else(none))) else(none)) else(none))) else(none))
def iy.T1 : Bool×List (List Nat×List Nat):=(true,[([],[]),([0],[0]),([1],[1]),([2],[2]),([],[]),([4],[4]),([5,2],[5]),([3,6],[3,6]),([7],[7]),([],[]),([9],[9]),([10,6],[10]),([8,11],[8,11]),([12,11,0,1,2,3,4,5,6,7,8,9,10,11,12],[12])])
def iy.B1 : List Nat:=[0,1,3,7,0,16,55,127,255,0,512,1655,4095,8191]
theorem iy.El : pX .any (opsOf Tryz.f165 1)=iy.T1:=by kernel_rfl
theorem iy.xn : jK iy.T1.2 iy.B1=true:=by kernel_rfl
theorem iy.calls (k:Nat) (az aA:Int) (aC bI:Int) (aG bH:Int) (r:ByteArray) (w:World) (h:iy.f k az aA aC bI aG bH=some r) :
  Calls Tryz.prog 165 #[.agg #[.int .i64 az,.int .i64 aA,.int .i64 aC,.int .i64 bI,.int .i64 aG,.int .i64 bH]] w fun e w'=>e = .returned (.string r)/\Below w.heap.size w w':=by
 have FR:=Tryz.underlying117;have HB:=ae.mk (Below.refl w.heap.size w);have H:=ae.mk h;clear h;unfold iy.f at H;obtain⟨VY,A2,H⟩:=xE H;rcases GM H with⟨c3,GI,nS,H⟩|⟨c3,-,-,H⟩
 ·try have ac7:=eq_false (Nat.not_lt.2 c3)
  obtain⟨Yu,A4,H⟩:=xE H;obtain⟨c5,LW,xW,H⟩:=Ci H;try have awi:=eq_false (Nat.not_lt.2 c5)
  try(have U8:=c5;simp only[ByteArray.size_append,yP,List.length_cons,List.length_nil,Nat.zero_add,Nat.reduceAdd] at U8;replace U8:=eq_false (Nat.not_lt.2 U8))
  obtain⟨c6,M8,xV,H⟩:=Ci H;try have awj:=eq_false (Nat.not_lt.2 c6)
  try(have U9:=c6;simp only[ByteArray.size_append,yP,List.length_cons,List.length_nil,Nat.zero_add,Nat.reduceAdd] at U9;replace U9:=eq_false (Nat.not_lt.2 U9))
  obtain⟨afv,A7,H⟩:=xE H;obtain⟨c8,Zy,zS,H⟩:=Ci H;try have as0:=eq_false (Nat.not_lt.2 c8)
  try(have adS:=c8;simp only[ByteArray.size_append,yP,List.length_cons,List.length_nil,Nat.zero_add,Nat.reduceAdd] at adS;replace adS:=eq_false (Nat.not_lt.2 adS))
  obtain rfl:=gK H.out;go_enter Tryz.func165,Tryz.ntmps165;try go_wp2_with(((with_reducible refine vJ 1 rfl ?_);refine qo #[.int .i64 az,.int .i64 aA,.int .i64 aC,.int .i64 bI,.int .i64 aG,.int .i64 bH] 117 ?_;intro Kv hg mo hbox hb;have Ba:=ae.mk (hbox);have aDO:=rE hg;replace HB:=iC hb;clear hb hbox hg))
  replace Ba:=ae.mk (dh Ba.out);replace HB:=ae.mk (bn HB.out);refine kJ (n:=14) (S:=fun w'=>w'.cell? ⟨Kv,0,none⟩=some (.int .i64 az)/\w'.cell? ⟨Kv,1,none⟩=some (.int .i64 aA)/\w'.cell? ⟨Kv,2,none⟩=some (.int .i64 aC)/\w'.cell? ⟨Kv,3,none⟩=some (.int .i64 bI)/\w'.cell? ⟨Kv,4,none⟩=some (.int .i64 aG)/\w'.cell? ⟨Kv,5,none⟩=some (.int .i64 bH)) (ds:=[]) (pY Ba) (fun hHeld=>?_);refine dY iy.El iy.xn (fun HT_ HW_=>?_);generalize mo.drew=mV at Ba HB hHeld ⊢;repeat(first|refine mr ?_ (hy:=Or.inl ⟨by rfl,YE⟩)|refine ek ?_)
  refine bN 4 (some 7) ?_;refine fQ 5 (some 8) (hy:=Or.inl ⟨by rfl,YE⟩) ?_;refine bN 9 (some 12) ?_;refine fQ 10 (some 13) (hy:=Or.inl ⟨by rfl,YE⟩) ?_;refine gV (fun K hK=>?_);refine EC Tryz.func164 (eD.calls k bI 2 VY _ A2.out) fun tT hb=>?_;replace Ba:=jr (g:=Kv) hb;replace HB:=iC hb;(try clear hb)
  refine hK.out _ _ (pY Ba) (fun hHeld=>?_);clear hK K;refine dI ?_;repeat(first|refine ek ?_)
  refine gV (fun K hK=>?_);refine EC Tryz.func164 (eD.calls k aG 2 Yu _ A4.out) fun tT hb=>?_;replace Ba:=jr (g:=Kv) hb;replace HB:=iC hb;(try clear hb)
  refine hK.out _ _ (pY Ba) (fun hHeld=>?_);clear hK K;refine dI ?_;repeat(first|refine ek ?_)
  refine gV (fun K hK=>?_);refine EC Tryz.func164 (eD.calls k bH 2 afv _ A7.out) fun tT hb=>?_;replace Ba:=jr (g:=Kv) hb;replace HB:=iC hb;(try clear hb)
  refine hK.out _ _ (pY Ba) (fun hHeld=>?_);clear hK K;refine dI ?_;repeat(first|refine ek ?_)
  refine lh (gP HT_.out eB) ?_;try go_wp2
  go_ret;exact⟨su,dL⟩
 ·exact absurd H.out (by simp)
@[reducible,instance] def iy.c:=jM.of 0 Tryz.func165 @iy.calls


def gp.f (k:Nat) (a0:Int):Option (ByteArray):=(cO.f k a0).bind fun Ib=>(if Ib.2.2.2.2.2.2=true then((lK.f a0).bind fun afw=>((jZ.f afw).bind fun yK=>(if 0<=3 then(if 3<=(yK.size:Int) then(if(yK.extract 0 3).size+2<=9223372036854775807 then((eD.f k Ib.2.2.1 2).bind fun BQ=>(if((yK.extract 0 3)++(⟨#[44,32]⟩:af)).size+BQ.size<=9223372036854775807 then(if(((yK.extract 0 3)++(⟨#[44,32]⟩:af))++BQ).size+1<=9223372036854775807 then((iP.f Ib.2.1).bind fun F6=>(if((((yK.extract 0 3)++(⟨#[44,32]⟩:af))++BQ)++(⟨#[32]⟩:af)).size+F6.size<=9223372036854775807 then(if(((((yK.extract 0 3)++(⟨#[44,32]⟩:af))++BQ)++(⟨#[32]⟩:af))++F6).size+1<=9223372036854775807 then((eD.f k Ib.1 4).bind fun MC=>(if((((((yK.extract 0 3)++(⟨#[44,32]⟩:af))++BQ)++(⟨#[32]⟩:af))++F6)++(⟨#[32]⟩:af)).size+MC.size<=9223372036854775807 then(if(((((((yK.extract 0 3)++(⟨#[44,32]⟩:af))++BQ)++(⟨#[32]⟩:af))++F6)++(⟨#[32]⟩:af))++MC).size+1<=9223372036854775807 then((iy.f k Ib.1 Ib.2.1 Ib.2.2.1 Ib.2.2.2.1 Ib.2.2.2.2.1 Ib.2.2.2.2.2.1).bind fun VZ=>(if((((((((yK.extract 0 3)++(⟨#[44,32]⟩:af))++BQ)++(⟨#[32]⟩:af))++F6)++(⟨#[32]⟩:af))++MC)++(⟨#[32]⟩:af)).size+VZ.size<=9223372036854775807 then(if(((((((((yK.extract 0 3)++(⟨#[44,32]⟩:af))++BQ)++(⟨#[32]⟩:af))++F6)++(⟨#[32]⟩:af))++MC)++(⟨#[32]⟩:af))++VZ).size+4<=9223372036854775807 then(some ((((((((((yK.extract 0 3)++(⟨#[44,32]⟩:af))++BQ)++(⟨#[32]⟩:af))++F6)++(⟨#[32]⟩:af))++MC)++(⟨#[32]⟩:af))++VZ)++(⟨#[32,71,77,84]⟩:af))) else(none)) else(none))) else(none)) else(none))) else(none)) else(none))) else(none)) else(none))) else(none)) else(none)) else(none)))) else(some (⟨#[]⟩:af)))
def gp.T4 : Bool×List (List Nat×List Nat):=(true,[([],[]),([0],[0]),([1,1],[1]),([2],[2]),([3],[3]),([],[]),([5],[5]),([6,2],[6]),([4,7],[4,7]),([8],[8]),([],[]),([10],[10]),([11,7],[11]),([9,12],[9,12]),([13],[13]),([],[]),([15],[15]),([16,12],[16]),([14,17],[14,17]),([18],[18]),([],[]),([20,17],[20]),([19,21],[19,21]),([22],[22]),([23,21,0,1,2,3,4,5,6,7,8,9,10,11,12,13,14,15,16,17,18,19,20,21,22,23],[23])])
def gp.B4 : List Nat:=[0,1,3,7,15,0,32,103,255,511,0,1024,3303,8191,16383,0,32768,105703,262143,524287,0,1285351,4194303,8388607,16777215]
theorem gp.Y5 : pX .any (opsOf Tryz.f117 4)=gp.T4:=by kernel_rfl
theorem gp.Pw : jK gp.T4.2 gp.B4=true:=by kernel_rfl
theorem gp.calls (k:Nat) (a0:Int) (r:ByteArray) (w:World) (h:gp.f k a0=some r) :
  Calls Tryz.prog 117 #[.int .i64 a0] w fun e w'=>e = .returned (.string r)/\Below w.heap.size w w':=by
 have FR:=Tryz.underlying117;have HB:=ae.mk (Below.refl w.heap.size w);have H:=h;clear h;unfold gp.f at H;replace H:=gD H;obtain⟨⟨Sq,Sr,Su,V3,V4,V5,aHu⟩,A2,H⟩:=H;dsimp only at H;replace H:=gB H;rcases H with⟨rfl,H⟩|⟨rfl,H⟩
 ·replace H:=gD H;obtain⟨afw,A4,H⟩:=H;replace H:=gD H;obtain⟨yK,A5,H⟩:=H;replace H:=gN H;obtain⟨-,M8,xV,H⟩:=H;replace H:=gN H;obtain⟨-,Zt,Am,H⟩:=H;replace H:=gN H;obtain⟨c8,Zy,zS,H⟩:=H;try have as0:=eq_false (Nat.not_lt.2 c8)
  try have c8m:(9223372036854775807<min 3 yK.size+2)=False:=by have h_:=as0;simpa only[ByteArray.size_extract,Nat.sub_zero] using h_
  replace H:=gD H;obtain⟨BQ,A9,H⟩:=H;replace H:=gN H;obtain⟨c10,aeY,Cm,H⟩:=H;try have aqP:=eq_false (Nat.not_lt.2 c10)
  try(have afx:=c10;simp only[ByteArray.size_append,yP,List.length_cons,List.length_nil,Nat.zero_add,Nat.reduceAdd] at afx;replace afx:=eq_false (Nat.not_lt.2 afx))
  try have aJr:(9223372036854775807<min 3 yK.size+2+BQ.size)=False:=by have h_:=afx;simpa only[ByteArray.size_extract,Nat.sub_zero] using h_
  replace H:=gN H;obtain⟨c11,aa8,EA,H⟩:=H;try have aiO:=eq_false (Nat.not_lt.2 c11)
  try(have Sm:=c11;simp only[ByteArray.size_append,yP,List.length_cons,List.length_nil,Nat.zero_add,Nat.reduceAdd] at Sm;replace Sm:=eq_false (Nat.not_lt.2 Sm))
  try have aBH:(9223372036854775807<min 3 yK.size+2+BQ.size+1)=False:=by have h_:=Sm;simpa only[ByteArray.size_extract,Nat.sub_zero] using h_
  replace H:=gD H;obtain⟨F6,Y3,H⟩:=H;replace H:=gN H;obtain⟨c13,GX,zi,H⟩:=H;try have aiP:=eq_false (Nat.not_lt.2 c13)
  try(have I7:=c13;simp only[ByteArray.size_append,yP,List.length_cons,List.length_nil,Nat.zero_add,Nat.reduceAdd] at I7;replace I7:=eq_false (Nat.not_lt.2 I7))
  try have aBI:(9223372036854775807<min 3 yK.size+2+BQ.size+1+F6.size)=False:=by have h_:=I7;simpa only[ByteArray.size_extract,Nat.sub_zero] using h_
  replace H:=gN H;obtain⟨c14,R5,FV,H⟩:=H;try have aeZ:=eq_false (Nat.not_lt.2 c14)
  try(have I8:=c14;simp only[ByteArray.size_append,yP,List.length_cons,List.length_nil,Nat.zero_add,Nat.reduceAdd] at I8;replace I8:=eq_false (Nat.not_lt.2 I8))
  try have awu:(9223372036854775807<min 3 yK.size+2+BQ.size+1+F6.size+1)=False:=by have h_:=I8;simpa only[ByteArray.size_extract,Nat.sub_zero] using h_
  replace H:=gD H;obtain⟨MC,A15,H⟩:=H;replace H:=gN H;obtain⟨c16,KX,DD,H⟩:=H;try have awK:=eq_false (Nat.not_lt.2 c16)
  try(have R9:=c16;simp only[ByteArray.size_append,yP,List.length_cons,List.length_nil,Nat.zero_add,Nat.reduceAdd] at R9;replace R9:=eq_false (Nat.not_lt.2 R9))
  try have aJs:(9223372036854775807<min 3 yK.size+2+BQ.size+1+F6.size+1+MC.size)=False:=by have h_:=R9;simpa only[ByteArray.size_extract,Nat.sub_zero] using h_
  replace H:=gN H;obtain⟨c17,I6,BG,H⟩:=H;try have ax4:=eq_false (Nat.not_lt.2 c17)
  try(have Sn:=c17;simp only[ByteArray.size_append,yP,List.length_cons,List.length_nil,Nat.zero_add,Nat.reduceAdd] at Sn;replace Sn:=eq_false (Nat.not_lt.2 Sn))
  try have aJt:(9223372036854775807<min 3 yK.size+2+BQ.size+1+F6.size+1+MC.size+1)=False:=by have h_:=Sn;simpa only[ByteArray.size_extract,Nat.sub_zero] using h_
  replace H:=gD H;obtain⟨VZ,Zq,H⟩:=H;replace H:=gN H;obtain⟨c19,Py,KY,H⟩:=H;try have awv:=eq_false (Nat.not_lt.2 c19)
  try(have PN:=c19;simp only[ByteArray.size_append,yP,List.length_cons,List.length_nil,Nat.zero_add,Nat.reduceAdd] at PN;replace PN:=eq_false (Nat.not_lt.2 PN))
  try have aBK:(9223372036854775807<min 3 yK.size+2+BQ.size+1+F6.size+1+MC.size+1+VZ.size)=False:=by have h_:=PN;simpa only[ByteArray.size_extract,Nat.sub_zero] using h_
  replace H:=gN H;obtain⟨c20,Nn,KZ,H⟩:=H;try have ae0:=eq_false (Nat.not_lt.2 c20)
  try(have I9:=c20;simp only[ByteArray.size_append,yP,List.length_cons,List.length_nil,Nat.zero_add,Nat.reduceAdd] at I9;replace I9:=eq_false (Nat.not_lt.2 I9))
  try have aww:(9223372036854775807<min 3 yK.size+2+BQ.size+1+F6.size+1+MC.size+1+VZ.size+4)=False:=by have h_:=I9;simpa only[ByteArray.size_extract,Nat.sub_zero] using h_
  obtain rfl:=gK H;go_enter Tryz.func117,Tryz.ntmps117;try go_wp2_with(first|((with_reducible refine lS 161 rfl ?_);refine vI 7 rfl Tryz.func161 (cO.calls k a0 Sq Sr Su V3 V4 V5 true _ A2.out) fun mo hb HB=>?_;clear hb)|((with_reducible refine vJ 3 rfl ?_);refine qo #[.int .i64 0,.int .i64 0,.int .i64 0,.int .i64 0,.int .i64 0,.int .i64 0] 117 ?_;intro qa hg mV hbox hb;have Ba:=ae.mk (hbox);have aDP:=rE hg;replace HB:=iC hb;clear hb hbox hg;obtain⟨_,_,_,_,_,_⟩:=pY Ba;obtain⟨_,_,_,_,_,_⟩:=Le Ba))
  have yJ:ae (((((((mV.setCell ⟨qa,0,none⟩ (.int .i64 Sq)).setCell ⟨qa,1,none⟩ (.int .i64 Sr)).setCell ⟨qa,2,none⟩ (.int .i64 Su)).setCell ⟨qa,3,none⟩ (.int .i64 V3)).setCell ⟨qa,4,none⟩ (.int .i64 V4)).setCell ⟨qa,5,none⟩ (.int .i64 V5)).heap[qa]? = some (.cells #[.int .i64 Sq,.int .i64 Sr,.int .i64 Su,.int .i64 V3,.int .i64 V4,.int .i64 V5] 117 (0,0))):=⟨yz⟩;have yc:ae (Below w.heap.size w ((((((mV.setCell ⟨qa,0,none⟩ (.int .i64 Sq)).setCell ⟨qa,1,none⟩ (.int .i64 Sr)).setCell ⟨qa,2,none⟩ (.int .i64 Su)).setCell ⟨qa,3,none⟩ (.int .i64 V3)).setCell ⟨qa,4,none⟩ (.int .i64 V4)).setCell ⟨qa,5,none⟩ (.int .i64 V5))):=⟨dL⟩;(try clear Ba)
  (try clear HB)
  generalize((((((mV.setCell ⟨qa,0,none⟩ (.int .i64 Sq)).setCell ⟨qa,1,none⟩ (.int .i64 Sr)).setCell ⟨qa,2,none⟩ (.int .i64 Su)).setCell ⟨qa,3,none⟩ (.int .i64 V3)).setCell ⟨qa,4,none⟩ (.int .i64 V4)).setCell ⟨qa,5,none⟩ (.int .i64 V5))=GH at yJ yc ⊢;have Ba:=yJ;have HB:=yc;clear yJ yc;replace Ba:=ae.mk (dh Ba.out);replace HB:=ae.mk (bn HB.out);refine kJ (n:=25) (S:=fun w'=>w'.cell? ⟨qa,0,none⟩=some (.int .i64 Sq)/\w'.cell? ⟨qa,1,none⟩=some (.int .i64 Sr)/\w'.cell? ⟨qa,2,none⟩=some (.int .i64 Su)/\w'.cell? ⟨qa,3,none⟩=some (.int .i64 V3)/\w'.cell? ⟨qa,4,none⟩=some (.int .i64 V4)/\w'.cell? ⟨qa,5,none⟩=some (.int .i64 V5)) (ds:=[]) (pY Ba) (fun hHeld=>?_);refine dY gp.Y5 gp.Pw (fun HT_ HW_=>?_);generalize GH.drew=LG at Ba HB hHeld ⊢;repeat(first|refine ek ?_)
  refine bN 5 (some 17) ?_;refine fQ 6 (some 18) (hy:=Or.inl ⟨by rfl,YE⟩) ?_;refine bN 10 (some 22) ?_;refine fQ 11 (some 23) (hy:=Or.inl ⟨by rfl,YE⟩) ?_;refine bN 15 (some 27) ?_;refine fQ 16 (some 28) (hy:=Or.inl ⟨by rfl,YE⟩) ?_;refine fQ 20 (some 32) (hy:=Or.inl ⟨by rfl,YE⟩) ?_;refine gV (fun K hK=>?_);refine Iw Tryz.func163 (lK.calls a0 afw _ A4.out) fun nd=>?_;refine hK.out _ _ (pY Ba) (fun hHeld=>?_);clear hK K;refine dI ?_;refine gV (fun K hK=>?_);refine Iw Tryz.func162 (jZ.calls afw yK _ A5.out) fun nd=>?_;refine hK.out _ _ (pY Ba) (fun hHeld=>?_);clear hK K;refine dI ?_;repeat(first|refine ek ?_)
  refine gV (fun K hK=>?_);refine EC Tryz.func164 (eD.calls k Su 2 BQ _ A9.out) fun M7 hb=>?_;replace Ba:=jr (g:=qa) hb;replace HB:=iC hb;(try clear hb)
  refine hK.out _ _ (pY Ba) (fun hHeld=>?_);clear hK K;refine dI ?_;repeat(first|refine ek ?_)
  refine gV (fun K hK=>?_);refine Iw Tryz.func160 (iP.calls Sr F6 _ Y3.out) fun nd=>?_;refine hK.out _ _ (pY Ba) (fun hHeld=>?_);clear hK K;refine dI ?_;repeat(first|refine ek ?_)
  refine gV (fun K hK=>?_);refine EC Tryz.func164 (eD.calls k Sq 4 MC _ A15.out) fun M7 hb=>?_;replace Ba:=jr (g:=qa) hb;replace HB:=iC hb;(try clear hb)
  refine hK.out _ _ (pY Ba) (fun hHeld=>?_);clear hK K;refine dI ?_;repeat(first|refine ek ?_)
  refine gV (fun K hK=>?_);refine EC Tryz.func165 (iy.calls k Sq Sr Su V3 V4 V5 VZ _ Zq.out) fun M7 hb=>?_;replace Ba:=jr (g:=qa) hb;replace HB:=iC hb;(try clear hb)
  refine hK.out _ _ (pY Ba) (fun hHeld=>?_);clear hK K;refine dI ?_;repeat(first|refine ek ?_)
  refine lh (gP HT_.out eB) ?_;try go_wp2
  go_ret;exact⟨su,dL⟩
 ·replace H:=ae.mk H;exact uE
@[reducible,instance] def gp.c:=jM.of 0 Tryz.func117 @gp.calls

end Go.Proofs.YtfhllanhldbkkaaGreatDoor.P
