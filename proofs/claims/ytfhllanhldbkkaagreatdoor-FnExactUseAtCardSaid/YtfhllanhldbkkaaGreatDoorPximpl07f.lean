import Derived.Test.YtfhllanhldbkkaaGreatDoorPximpl07b
set_option maxHeartbeats 8000000
set_option maxRecDepth 100000
namespace Go.Proofs.YtfhllanhldbkkaaGreatDoor.P
open Go.RowKit Go.Proofs.YtfhllanhldbkkaaGreatDoorW.aW Go.Proofs.YtfhllanhldbkkaaGreatDoorW.eQ Go.Proofs.YtfhllanhldbkkaaGreatDoorW.fO
attribute [local go_sem] kV kW mE mF jP jQ kX kY dZ E8 E9 Fa Fb oU oV
set_option linter.unusedVariables false
set_option linter.unusedSimpArgs false

def fA.j0 : Nat->Bool->ByteArray->Int->ByteArray->ByteArray->Bool->Option (Bool)
 |0,_,_,_,_,_,_=>none
 |k+1,x25,ae6,ae7,ae8,PU,ZB=>if x25=true then(some false) else((bE.f k PU).bind fun aBX=>(if aBX=true then((strings_Contains.f PU (⟨#[35]⟩:af)).bind fun aBY=>(if aBY=true then(some false) else(if ZB=true then((jh.f ae6 ae7 ae8 PU ZB).bind fun aBZ=>(some (decide ((aBZ.size:Int)<=200)))) else(if PU.toList=([]:aM) then((jh.f ae6 ae7 ae8 PU ZB).bind fun aB0=>(some (decide ((aB0.size:Int)<=200)))) else(some false))))) else(some false)))
def fA.f (k:Nat) (az:ByteArray) (aA:Int) (aC:ByteArray) (bI:ByteArray) (aG:Bool):Option (Bool):=(iW.f k az).bind fun aB1=>(if aB1=true then((dB.f aA 1 65535).bind fun aB2=>(if aB2=true then(if aC.toList=([]:aM) then(fA.j0 k true az aA aC bI aG) else((bu.f k aC).bind fun alK=>(fA.j0 k (alK.toList != aC.toList) az aA aC bI aG))) else(fA.j0 k true az aA aC bI aG))) else(fA.j0 k true az aA aC bI aG))
def fA.T1 : Bool×List (List Nat×List Nat):=(true,[([],[]),([0],[0]),([1],[1]),([2],[2]),([3,2],[3]),([4],[4]),([5,4],[4,5]),([6,4,4],[4,6]),([7,4],[4,7]),([4,8],[4,8]),([9,7],[9]),([10],[10]),([11,10],[10,11]),([12,10],[10,12]),([10,13],[10,13]),([14,10],[14]),([15],[15]),([16,15],[15,16]),([17,15,15],[15,17]),([15],[15]),([19,15],[15,19]),([18,20,15],[15,18,20]),([15,21],[15,21])])
def fA.B1 : List Nat:=[0,1,3,7,15,31,63,127,255,511,1023,2047,4095,8191,16383,32767,65535,131071,262143,65535,589823,2097151,4194303]
theorem fA.El : pX .any (opsOf Tryz.f153 1)=fA.T1:=by kernel_rfl
theorem fA.xn : jK fA.T1.2 fA.B1=true:=by kernel_rfl
theorem fA.e0 {p:Prop} (h:p:=by
  try go_wp2
  replace Ba:=ae.mk (dh Ba.out)
  replace HB:=ae.mk (bn HB.out)
  refine kJ (n:=23) (S:=fun w'=>w'.cell? ⟨FY,0,none⟩=some (.string az)/\w'.cell? ⟨FY,1,none⟩=some (.int .i64 aA)/\w'.cell? ⟨FY,2,none⟩=some (.string aC)/\w'.cell? ⟨FY,3,none⟩=some (.string bI)/\w'.cell? ⟨FY,4,none⟩=some (.bool aG)) (ds:=[]) (tL Ba) (fun hHeld=>?_);refine dY fA.El fA.xn (fun HT_ HW_=>?_)
  generalize w3.drew=mo at Ba HB hHeld ⊢
  repeat(first|refine mr ?_ (hy:=Or.inl ⟨by rfl,Dk⟩)|refine ek ?_|(refine gV (fun K hK=>?_);refine lQ Tryz.func198 eB rfl #[.string az] (by rfl) rfl rfl Iu ?_;(with_reducible refine(iW.calls k az false _ A4.out).mono ?_);rintro e Og ⟨rfl,hb⟩;refine⟨_,rfl,?_⟩;replace Ba:=jr (g:=FY) hb;replace HB:=iC hb;clear hb;refine hK.out _ _ (tL Ba) (fun hHeld=>?_);clear hK K;refine dI ?_)|(refine gV (fun K hK=>?_);refine lQ Tryz.func198 eB rfl #[.string az] (by rfl) rfl rfl Iu ?_;(with_reducible refine(iW.calls k az true _ A4.out).mono ?_);rintro e mV ⟨rfl,hb⟩;refine⟨_,rfl,?_⟩;replace Ba:=jr (g:=FY) hb;replace HB:=iC hb;clear hb;refine hK.out _ _ (tL Ba) (fun hHeld=>?_);clear hK K;refine dI ?_)|(refine gV (fun K hK=>?_);refine lQ Tryz.func65 eB rfl #[.int .i64 aA,.int .i64 1,.int .i64 65535] (by rfl) rfl rfl Iu ?_;(with_reducible refine(dB.calls aA 1 65535 false _ A6.out).mono ?_);rintro e w' ⟨rfl,⟨nd,rfl⟩⟩;refine⟨_,rfl,?_⟩;refine hK.out _ _ (tL Ba) (fun hHeld=>?_);clear hK K;refine dI ?_)|(refine gV (fun K hK=>?_);refine lQ Tryz.func65 eB rfl #[.int .i64 aA,.int .i64 1,.int .i64 65535] (by rfl) rfl rfl Iu ?_;(with_reducible refine(dB.calls aA 1 65535 true _ A6.out).mono ?_);rintro e w' ⟨rfl,⟨nd,rfl⟩⟩;refine⟨_,rfl,?_⟩;refine hK.out _ _ (tL Ba) (fun hHeld=>?_);clear hK K;refine dI ?_))
  refine lh (gP HT_.out eB) ?_
  try go_wp2
  go_meet
  case rel=>exact⟨_,(true),kD,H,⟨Ld⟩,⟨yz⟩,⟨dL⟩⟩):p:=h
theorem fA.calls (k:Nat) (az:ByteArray) (aA:Int) (aC bI:ByteArray) (aG r:Bool) (w:World) (h:fA.f k az aA aC bI aG=some r) (HT0:nN w) :
  Calls Tryz.prog 153 #[.agg #[.string az,.int .i64 aA,.string aC,.string bI,.bool aG]] w fun e w'=>e = .returned (.bool r)/\Below w.heap.size w w':=by
 have HT:=ae.mk HT0;clear HT0;have Ro:=Tryz.underlying92;have HB:=ae.mk (Below.refl w.heap.size w);have H:=ae.mk h;clear h;unfold fA.f at H;have vv:=H;clear H;go_enter Tryz.func153,Tryz.ntmps153;go_upto_region 1 with(first|((with_reducible refine vJ 1 rfl ?_);refine qo #[.string az,.int .i64 aA,.string aC,.string bI,.bool aG] 92 ?_;intro FY hg w3 hbox hb;have Ba:=ae.mk (hbox);have aGE:=rE hg;replace HB:=iC hb;clear hb hbox hg));(try simp only[Act.put,List.setIfInBounds_toArray,List.set_cons_zero,List.set_cons_succ])
 go_cut [25] (fun v25 wc=>∃(kq:Nat) (ajc:Bool),v25 = .bool ajc/\ae (fA.j0 kq ajc az aA aC bI aG=some r)/\ae (kq<=k)/\ae (wc.heap[FY]? = some (.cells #[.string az,.int .i64 aA,.string aC,.string bI,.bool aG] 92 (0,0)))/\ae (Below w.heap.size w wc))
 case first=>
  have H:=vv;clear vv;rcases D6 H with⟨A4,H⟩|⟨A4,H⟩
  ·rcases D6 H with⟨A6,H⟩|⟨A6,H⟩
   ·rcases GM H with⟨c8,-,-,H⟩|⟨c8,-,-,H⟩
    ·have zS:(aC.toList==([]:aM))=true:=beq_iff_eq.mpr c8;have adY:aC.toList.isEmpty=true:=List.isEmpty_iff.mpr c8;have Zy:(aC.toList != ([]:aM))=false:=bne_eq_false_iff_eq.mpr c8;clear c8;(first|rw[zS]|rw[adY]|(simp only[jJ,lY];rw[zS])|skip)
     exact fA.e0
    ·have zS:(aC.toList==([]:aM))=false:=beq_eq_false_iff_ne.mpr c8;have adY:aC.toList.isEmpty=false:=Bool.eq_false_iff.mpr (fun h_=>c8 (List.isEmpty_iff.mp h_));have Zy:(aC.toList != ([]:aM))=true:=bne_iff_ne.mpr c8;(first|rw[zS]|rw[adY]|(simp only[jJ,lY];rw[zS])|skip)
     obtain⟨alK,A11,H⟩:=xE H;try go_wp2
     replace Ba:=ae.mk (dh Ba.out);replace HB:=ae.mk (bn HB.out);refine kJ (n:=23) (S:=fun w'=>w'.cell? ⟨FY,0,none⟩=some (.string az)/\w'.cell? ⟨FY,1,none⟩=some (.int .i64 aA)/\w'.cell? ⟨FY,2,none⟩=some (.string aC)/\w'.cell? ⟨FY,3,none⟩=some (.string bI)/\w'.cell? ⟨FY,4,none⟩=some (.bool aG)) (ds:=[]) (tL Ba) (fun hHeld=>?_);refine dY fA.El fA.xn (fun HT_ HW_=>?_);generalize w3.drew=mo at Ba HB hHeld ⊢;repeat(first|refine mr ?_ (hy:=Or.inl ⟨by rfl,Dk⟩)|refine ek ?_)
     refine gV (fun K hK=>?_);refine EC Tryz.func198 (iW.calls k az true _ A4.out) fun tT hb=>?_;replace Ba:=jr (g:=FY) hb;replace HB:=iC hb;(try clear hb)
     refine hK.out _ _ (tL Ba) (fun hHeld=>?_);clear hK K;refine dI ?_;repeat(first|refine mr ?_ (hy:=Or.inl ⟨by rfl,Dk⟩)|refine ek ?_)
     refine gV (fun K hK=>?_);refine Iw Tryz.func65 (dB.calls aA 1 65535 true _ A6.out) fun nd=>?_;refine hK.out _ _ (tL Ba) (fun hHeld=>?_);clear hK K;refine dI ?_;repeat(first|refine mr ?_ (hy:=Or.inl ⟨by rfl,Dk⟩)|refine ek ?_)
     refine bN 19 (some 22) ?_;refine fQ 20 (some 23) (hy:=Or.inl ⟨by rfl,Dk⟩) ?_;refine gV (fun K hK=>?_);refine EC Tryz.func152 (bu.calls k aC alK _ A11.out) fun tT hb=>?_;replace Ba:=jr (g:=FY) hb;replace HB:=iC hb;(try clear hb)
     refine hK.out _ _ (tL Ba) (fun hHeld=>?_);clear hK K;refine dI ?_;repeat(first|refine ek ?_)
     refine lh (gP HT_.out eB) ?_;try go_wp2
     go_meet
     case rel=>exact⟨_,((alK.toList != aC.toList)),kD,H,⟨Ld⟩,⟨yz⟩,⟨dL⟩⟩
   ·exact fA.e0
  ·exact fA.e0
 case rest=>
  clear vv;obtain⟨kq,ajc,rfl,HA,Ch,Ba,HB⟩:=hcut;cases kq with
  |zero=>exact absurd HA.out (by simp[fA.j0])
  |succ vC=>
   have H:=HA;clear HA;simp only[fA.j0] at H;exact uW
@[reducible,instance] def fA.c:=jM.of 0 Tryz.func153 @fA.calls


mutual
def bB.j0 : Nat->ByteArray->Bool->Option (ByteArray×Int×ByteArray×ByteArray×Bool×Bool)
 |0,_,_=>none
 |k+1,x0,x34=>if x34=true then(some ((⟨#[]⟩:af),0,(⟨#[]⟩:af),(⟨#[]⟩:af),false,false)) else(if 7<=(x0.size:Int) then((strings_IndexAny.f (x0.extract 7 x0.size) (⟨#[47,63]⟩:af)).bind fun alL=>(if alL<0 then(bB.j1 k (x0.extract 7 x0.size) ((x0.extract 7 x0.size).size:Int)) else(bB.j1 k (x0.extract 7 x0.size) alL))) else(none))
def bB.j1 : Nat->ByteArray->Int->Option (ByteArray×Int×ByteArray×ByteArray×Bool×Bool)
 |0,_,_=>none
 |k+1,x4,x5=>if 0<=x5 then(if x5<=(x4.size:Int) then((strings_Cut.f (x4.extract 0 (x5:Int).toNat) (⟨#[58]⟩:af)).bind fun ajd=>((nY.f (x4.extract (x5:Int).toNat x4.size)).bind fun X7=>((jw.f ajd.1).bind fun abm=>(if ajd.2.2=true then((nA.f ajd.2.1).bind fun aqv=>(if aqv.2=true then(bB.j2 k abm aqv.1 X7.2.2.1 X7.2.2.2.1 X7.2.2.2.2) else(some ((⟨#[]⟩:af),0,(⟨#[]⟩:af),(⟨#[]⟩:af),false,false)))) else(bB.j2 k abm 80 X7.2.2.1 X7.2.2.2.1 X7.2.2.2.2))))) else(none)) else(none)
def bB.j2 : Nat->ByteArray->Int->ByteArray->ByteArray->Bool->Option (ByteArray×Int×ByteArray×ByteArray×Bool×Bool)
 |0,_,_,_,_,_=>none
 |k+1,PV,PW,Tg,PX,PY=>if Tg.toList=([]:aM) then(bB.j3 k PV PW (⟨#[47]⟩:af) PX PY) else(bB.j3 k PV PW Tg PX PY)
def bB.j3 : Nat->ByteArray->Int->ByteArray->ByteArray->Bool->Option (ByteArray×Int×ByteArray×ByteArray×Bool×Bool)
 |0,_,_,_,_,_=>none
 |k+1,PV,PW,Tg,PX,PY=>(bu.f k Tg).bind fun awS=>((fA.f k PV PW awS PX PY).bind fun aB3=>(if aB3=true then(some (PV,PW,awS,PX,PY,true)) else(some ((⟨#[]⟩:af),0,(⟨#[]⟩:af),(⟨#[]⟩:af),false,false))))
end
def bB.f (k:Nat) (a0:ByteArray):Option (ByteArray×Int×ByteArray×ByteArray×Bool×Bool):=if(a0.size:Int)>200 then(bB.j0 k a0 true) else((bE.f k a0).bind fun aB4=>(if aB4=true then((strings_Contains.f a0 (⟨#[35]⟩:af)).bind fun aB5=>(if aB5=true then(bB.j0 k a0 true) else(if(a0.size:Int)<7 then(bB.j0 k a0 true) else(if 0<=7 then(if 7<=(a0.size:Int) then((jw.f (a0.extract 0 7)).bind fun aB6=>(bB.j0 k a0 (aB6.toList != ([104,116,116,112,58,47,47]:aM)))) else(none)) else(none))))) else(bB.j0 k a0 true)))
theorem bB.calls (k:Nat) (a0 r1:ByteArray) (r2:Int) (r3 r4:ByteArray) (r5 r6:Bool) (w:World) (h:bB.f k a0=some (r1,r2,r3,r4,r5,r6)) (HT0:nN w) :
  Calls Tryz.prog 104 #[.string a0] w fun e w'=>e = .returned (.tuple #[.agg #[.string r1,.int .i64 r2,.string r3,.string r4,.bool r5],.bool r6])/\Below w.heap.size w w':=by
 have HT:=ae.mk HT0;clear HT0;have Ro:=Tryz.underlying92;have HB:=ae.mk (Below.refl w.heap.size w);have H:=h;clear h;unfold bB.f at H;have vv:=ae.mk H;clear H;go_enter Tryz.func104,Tryz.ntmps104;go_upto_region 1 with(first|((with_reducible refine vJ 2 rfl ?_);refine Iz #[.string (⟨#[]⟩:af),.int .i64 0,.string (⟨#[]⟩:af),.string (⟨#[]⟩:af),.bool false] 92 ?_;intro Ny hg w3 hbox hb;have Ba:=ae.mk (hbox);have aGF:=rE hg;replace HB:=iC hb;clear hb hbox hg));(try simp only[Act.put,List.setIfInBounds_toArray,List.set_cons_zero,List.set_cons_succ])
 go_cut [34] (fun v34 wc=>∃(kq:Nat) (aje:Bool),v34 = .bool aje/\ae (bB.j0 kq a0 aje=some (r1,r2,r3,r4,r5,r6))/\ae (kq<=k)/\ae (wc.heap[Ny]? = some (.cells #[.string (⟨#[]⟩:af),.int .i64 0,.string (⟨#[]⟩:af),.string (⟨#[]⟩:af),.bool false] 92 (0,0)))/\ae (Below w.heap.size w wc))
 case first=>
  have H:=vv;clear vv;exact uW
 case rest=>
  clear vv;obtain⟨kq,aje,rfl,HA,Ch,Ba,HB⟩:=hcut;cases kq with
  |zero=>exact absurd HA.out (by simp[bB.j0])
  |succ vC=>
   have H:=HA.out;clear HA;simp only[bB.j0] at H;replace H:=gB H;rcases H with⟨rfl,H⟩|⟨rfl,H⟩
   ·replace H:=ae.mk H;exact uW
   ·obtain⟨zp0,atd⟩:∃ z_:ByteArray,a0.extract 7 a0.size=z_:=⟨_,rfl⟩;rw[atd] at H;replace H:=gI H;rcases H with⟨-,KX,DD,H⟩|⟨c16,-,-,H⟩
    ·replace H:=gD H;obtain⟨alL,ZZ,H⟩:=H;have ate:=ae.mk H;clear H;go_upto_if 41 with(first|((with_reducible refine lS 149 rfl ?_);refine vI 39 rfl Tryz.func149 (strings_IndexAny.calls zp0 (⟨#[47,63]⟩:af) alL _ ZZ.out) fun w19 hb _=>?_;have qb:=jr (g:=Ny) hb;have qU:=iC hb;clear Ba;clear HB;have Ba:=qb;have HB:=qU;clear qb qU;(try clear hb)));(try simp only[Act.put,List.setIfInBounds_toArray,List.set_cons_zero,List.set_cons_succ])
     go_cut [5] (fun v5 wc=>∃(kq:Nat) (Vv:Int),v5 = .int .i64 Vv/\ae (bB.j1 kq zp0 Vv=some (r1,r2,r3,r4,r5,r6))/\ae (kq<=vC)/\ae (wc.heap[Ny]? = some (.cells #[.string (⟨#[]⟩:af),.int .i64 0,.string (⟨#[]⟩:af),.string (⟨#[]⟩:af),.bool false] 92 (0,0)))/\ae (Below w.heap.size w wc))
     case first=>
      have H:=ate;clear ate;exact uW
     case rest=>
      clear ate;try clear c16
      try clear DD
      try clear KX
      obtain⟨kq,Vv,rfl,HA,aIZ,Ba,HB⟩:=hcut;cases kq with
      |zero=>exact absurd HA.out (by simp[bB.j1])
      |succ aB7=>
       have H:=HA.out;clear HA;simp only[bB.j1] at H;replace H:=gN H;obtain⟨-,K3,Ac,H⟩:=H;replace H:=gN H;obtain⟨-,XW,RU,H⟩:=H;replace H:=gD H;obtain⟨⟨awT,aB8,aB9⟩,A23,H⟩:=H;dsimp only at H;have GZ:=eq_true (aX gq:0<=Vv);have Ck:=eq_true (aX gq:Vv<=(zp0.size:Int));replace H:=gD H;obtain⟨⟨awU,awV,alM,agC,agD⟩,A26,H⟩:=H;dsimp only at H;replace H:=gD H;obtain⟨abm,A27,H⟩:=H;have atf:=ae.mk H;clear H;go_upto_if 60 with(first|((with_reducible refine lS 86 rfl ?_);refine MW 48 rfl Tryz.func86 (strings_Cut.calls (zp0.extract 0 (Vv:Int).toNat) (⟨#[58]⟩:af) awT aB8 aB9 _ A23.out (kG HT)) fun nd=>?_;(try(rw[qW wc];generalize hq_:World.drewN wc _=wc;have qb:ae (wc.heap[Ny]? = some (.cells #[.string (⟨#[]⟩:af),.int .i64 0,.string (⟨#[]⟩:af),.string (⟨#[]⟩:af),.bool false] 92 (0,0))):=⟨by rw[<- hq_];exact(by(with_reducible repeat(first|refine jV ?_ _|refine dh ?_|refine kU ?_ _));exact Ba.out)⟩;have qU:ae (Below w.heap.size w wc):=⟨by rw[<- hq_];exact dL⟩;clear Ba HB hq_;have Ba:=qb;have HB:=qU;clear qb qU)))|((with_reducible refine lS 150 rfl ?_);refine vI 55 rfl Tryz.func150 (nY.calls (zp0.extract (Vv:Int).toNat zp0.size) awU awV alM agC agD _ A26.out (kG HT)) fun w29 hb _=>?_;have qb:=jr (g:=Ny) hb;have qU:=iC hb;clear Ba;clear HB;have Ba:=qb;have HB:=qU;clear qb qU;(try clear hb))|((with_reducible refine vJ 9 rfl ?_);refine Iz #[.string (⟨#[]⟩:af),.int .i64 0,.string (⟨#[]⟩:af),.string (⟨#[]⟩:af),.bool false] 92 ?_;intro ajf hg w30 hbox hb;have qb:=jr (g:=Ny) hb;have qU:=iC hb;have I5:=ae.mk (hbox);have UW:=rE hg;have n4_:=rE hg;have n5_:=O9 (g:=Ny) hg;have n6_:=QD n5_;clear Ba;clear HB;have Ba:=qb;have HB:=qU;have Bb:=I5;have aGG:=UW;have aGH:=n4_;have X8:=n5_;have X9:=n6_;clear qb qU I5 UW n4_ n5_ n6_;clear hb hbox hg;have aGI:=X9.out;have aGJ:=X8.out;obtain⟨_,_,_,_,_⟩:=tL Bb;obtain⟨_,_,_,_,_⟩:=agc Bb)|((with_reducible refine lS 89 rfl ?_);refine vI 57 rfl Tryz.func89 (jw.calls awT abm _ A27.out) fun w33 hb _=>?_;have qb:=jr (g:=Ny) hb;have qU:=jr (g:=ajf) (o:=.cells #[.string awU,.int .i64 awV,.string alM,.string agC,.bool agD] 92 (0,0)) hb;have I5:=iC hb;clear Ba;clear Bb;clear HB;have Ba:=qb;have Bb:=qU;have HB:=I5;clear qb qU I5;(try clear hb);obtain⟨_,_,_,_,_⟩:=tL Bb;obtain⟨_,_,_,_,_⟩:=agc Bb));(try simp only[Act.put,List.setIfInBounds_toArray,List.set_cons_zero,List.set_cons_succ])
       go_cut [] (fun wc=>∃(kq:Nat) (Oq:ByteArray) (Ot:Int) (Ou:ByteArray) (Ov:ByteArray) (Ow:Bool) (FZ:Int),ae (bB.j2 kq abm FZ alM agC agD=some (r1,r2,r3,r4,r5,r6))/\ae (kq<=aB7)/\ae (wc.heap[Ny]? = some (.cells #[.string Oq,.int .i64 Ot,.string Ou,.string Ov,.bool Ow] 92 (0,0)))/\ae (wc.heap[ajf]? = some (.cells #[.string abm,.int .i64 FZ,.string alM,.string agC,.bool agD] 92 (0,0)))/\ae (Below w.heap.size w wc))
       case first=>
        have H:=atf;clear atf;exact uW
       case rest=>
        clear atf;try clear c16
        try clear DD
        try clear KX
        try clear Ac
        try clear K3
        try clear RU
        try clear XW
        try clear GZ
        try clear Ck
        obtain⟨kq,Oq,Ot,Ou,Ov,Ow,FZ,HA,aI0,Ba,Bb,HB⟩:=hcut;cases kq with
        |zero=>exact absurd HA.out (by simp[bB.j2])
        |succ aCa=>
         have H:=HA.out;clear HA;simp only[bB.j2] at H;have atg:=ae.mk H;clear H;have aGK:=X9.out;have aGL:=X8.out;obtain⟨_,_,_,_,_⟩:=tL Bb;obtain⟨_,_,_,_,_⟩:=agc Bb;go_upto_if 73 with(fail);go_cut [] (fun wc=>∃(kq:Nat) (Ox:ByteArray),ae (bB.j3 kq abm FZ Ox agC agD=some (r1,r2,r3,r4,r5,r6))/\ae (kq<=aCa)/\ae (wc.heap[Ny]? = some (.cells #[.string Oq,.int .i64 Ot,.string Ou,.string Ov,.bool Ow] 92 (0,0)))/\ae (wc.heap[ajf]? = some (.cells #[.string abm,.int .i64 FZ,.string Ox,.string agC,.bool agD] 92 (0,0)))/\ae (Below w.heap.size w wc))
         case first=>
          have H:=atg;clear atg;exact uW
         case rest=>
          clear atg;try clear c16
          try clear DD
          try clear KX
          try clear Ac
          try clear K3
          try clear RU
          try clear XW
          try clear GZ
          try clear Ck
          obtain⟨kq,Ox,HA,aI1,Ba,Bb,HB⟩:=hcut;cases kq with
          |zero=>exact absurd HA.out (by simp[bB.j3])
          |succ aI2=>
           have H:=HA;clear HA;simp only[bB.j3] at H;exact uW
    ·exact absurd H (by simp)
@[reducible,instance] def bB.c:=jM.of 0 Tryz.func104 @bB.calls


def vw.f (k:Nat) (a0:ByteArray):Option (ByteArray×Bool):=(bB.f k a0).bind fun Ya=>(if Ya.2.2.2.2.2=true then((jh.f Ya.1 Ya.2.1 Ya.2.2.1 Ya.2.2.2.1 Ya.2.2.2.2.1).bind fun aCb=>(some (aCb,true))) else(some ((⟨#[]⟩:af),false)))
theorem vw.calls (k:Nat) (a0 r1:ByteArray) (r2:Bool) (w:World) (h:vw.f k a0=some (r1,r2)) (HT0:nN w) :
  Calls Tryz.prog 64 #[.string a0] w fun e w'=>e = .returned (.tuple #[.string r1,.bool r2])/\Below w.heap.size w w':=by
 have HT:=ae.mk HT0;clear HT0;have Ro:=Tryz.underlying92;unfold vw.f at h;exact uA
@[reducible,instance] def vw.c:=jM.of 0 Tryz.func64 @vw.calls

def lW.f (k:Nat) (a0:ByteArray):Option (Bool):=(vw.f k a0).bind fun aqw=>(if aqw.2=true then(some (aqw.1.toList==a0.toList)) else(some false))
theorem lW.calls (k:Nat) (a0:ByteArray) (r:Bool) (w:World) (h:lW.f k a0=some r) (HT0:nN w) :
  Calls Tryz.prog 36 #[.string a0] w fun e w'=>e = .returned (.bool r)/\Below w.heap.size w w':=by
 have HT:=ae.mk HT0;clear HT0;unfold lW.f at h;exact uA
@[reducible,instance] def lW.c:=jM.of 0 Tryz.func36 @lW.calls


mutual
def gU.j0 : Nat->ByteArray->Bool->Option (Int×Bool)
 |0,_,_=>none
 |k+1,x0,x12=>if x12=true then(some (0,false)) else(gU.l0 k x0 0 0)
def gU.l0 : Nat->ByteArray->Int->Int->Option (Int×Bool)
 |0,_,_,_=>none
 |k+1,x0,x4,x5=>if x5<(x0.size:Int) then(if 0<=x5 then(gU.l0 k x0 (mn 2147483648 (wrap64 ((wrap64 (10*x4))+(((bt x0 x5)-48)%256)))) (wrap64 (x5+1))) else(none)) else(some (x4,true))
end
def gU.f (k:Nat) (a0:ByteArray):Option (Int×Bool):=if a0.toList=([]:aM) then(gU.j0 k a0 true) else((dw.f k a0).bind fun awW=>(gU.j0 k a0 (!awW)))
theorem gU.calls (k:Nat) (a0:ByteArray) (r1:Int) (r2:Bool) (w:World) (h:gU.f k a0=some (r1,r2)) :
  Calls Tryz.prog 121 #[.string a0] w fun e w'=>e = .returned (.tuple #[.int .i64 r1,.bool r2])/\Below w.heap.size w w':=by
 have HB:=ae.mk (Below.refl w.heap.size w);have H:=h;clear h;unfold gU.f at H;have vv:=ae.mk H;clear H;go_enter Tryz.func121,Tryz.ntmps121;go_upto_region 1 with(fail);go_cut [12] (fun v12 wc=>∃(kq:Nat) (Vl:Bool),v12 = .bool Vl/\ae (gU.j0 kq a0 Vl=some (r1,r2))/\ae (kq<=k)/\ae (Below w.heap.size w wc))
 case first=>
  have H:=vv;clear vv;exact uW
 case rest=>
  clear vv;obtain⟨kq,Vl,rfl,HA,Ch,HB⟩:=hcut;cases kq with
  |zero=>exact absurd HA.out (by simp[gU.j0])
  |succ vC=>
   have H:=HA.out;clear HA;simp only[gU.j0] at H;replace H:=gB H;rcases H with⟨rfl,H⟩|⟨rfl,H⟩
   ·replace H:=ae.mk H;exact uW
   ·replace H:=ae.mk H;go_wp2;go_loopg [4,5] vC (fun kq v4 v5 w'=>∃(lF:Int) (pE:Int),v4 = .int .i64 lF/\v5 = .int .i64 pE/\ae (gU.l0 kq a0 lF pE=some (r1,r2))/\ae (kq<=vC)/\ae (Below w.heap.size w w'))
    case atStart=>exact⟨(0),(0),kD,kD,H,⟨Nat.le_refl _⟩,⟨dL⟩⟩
    case round=>
     clear H;obtain⟨lF,pE,rfl,rfl,HA,Cv,HB⟩:=hrel;cases gk with
     |zero=>exact absurd HA.out (by simp[gU.l0])
     |succ k2=>
      have H:=HA;clear HA;simp only[gU.l0] at H;exact uW
@[reducible,instance] def gU.c:=jM.of 0 Tryz.func121 @gU.calls

def iI.f (k:Nat) (a0:ByteArray) (a1:Int):Option (Int):=(gU.f k a0).bind fun ajg=>(if ajg.2=true then(some ajg.1) else(some a1))
theorem iI.calls (k:Nat) (a0:ByteArray) (a1 r:Int) (w:World) (h:iI.f k a0 a1=some r) :
  Calls Tryz.prog 79 #[.string a0,.int .i64 a1] w fun e w'=>e = .returned (.int .i64 r)/\Below w.heap.size w w':=by
 unfold iI.f at h;exact uA
@[reducible,instance] def iI.c:=jM.of 0 Tryz.func79 @iI.calls

end Go.Proofs.YtfhllanhldbkkaaGreatDoor.P
