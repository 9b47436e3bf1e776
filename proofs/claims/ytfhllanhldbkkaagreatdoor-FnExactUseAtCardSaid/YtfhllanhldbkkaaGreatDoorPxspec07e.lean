import Derived.Test.YtfhllanhldbkkaaGreatDoorPxspec07b
set_option maxHeartbeats 8000000
set_option maxRecDepth 100000
namespace Go.Proofs.YtfhllanhldbkkaaGreatDoor.P
open Go.RowKit Go.Proofs.YtfhllanhldbkkaaGreatDoorW.aW Go.Proofs.YtfhllanhldbkkaaGreatDoorW.eQ Go.Proofs.YtfhllanhldbkkaaGreatDoorW.fO
attribute [local go_sem] kV kW mE mF jP jQ kX kY dZ E8 E9 Fa Fb oU oV
set_option linter.unusedVariables false
set_option linter.unusedSimpArgs false

mutual
def bA.j0 : Nat->ByteArray->Bool->Option (Bool)
 |0,_,_=>none
 |k+1,x0,x14=>if x14=true then(some false) else((fH.f k x0 46).bind fun BR=>(bA.l0 k BR 0))
def bA.l0 : Nat->List ByteArray->Int->Option (Bool)
 |0,_,_=>none
 |k+1,x3,x4=>if x4<(x3.length:Int) then(if 0<=x4 then(if(ed ByteArray.empty x3 x4).toList=([]:aM) then(some false) else(bA.l1 k x3 x4 0)) else(none)) else(some true)
def bA.l1 : Nat->List ByteArray->Int->Int->Option (Bool)
 |0,_,_,_=>none
 |k+1,x3,x4,x5=>if 0<=x4 then(if x4<(x3.length:Int) then(if x5<((ed ByteArray.empty x3 x4).size:Int) then(if 0<=x5 then(if(bt (ed ByteArray.empty x3 x4) x5)>=97 then(if((bt (ed ByteArray.empty x3 x4) x5)<=122) then(bA.l1 k x3 x4 (wrap64 (x5+1))) else((dQ.f (bt (ed ByteArray.empty x3 x4) x5)).bind fun aD2=>(if aD2=true then(bA.l1 k x3 x4 (wrap64 (x5+1))) else(if(bt (ed ByteArray.empty x3 x4) x5)=45 then(bA.l1 k x3 x4 (wrap64 (x5+1))) else(some false))))) else((dQ.f (bt (ed ByteArray.empty x3 x4) x5)).bind fun aD3=>(if aD3=true then(bA.l1 k x3 x4 (wrap64 (x5+1))) else(if(bt (ed ByteArray.empty x3 x4) x5)=45 then(bA.l1 k x3 x4 (wrap64 (x5+1))) else(some false))))) else(none)) else(bA.l0 k x3 (wrap64 (x4+1)))) else(none)) else(none)
end
def bA.f (k:Nat) (a0:ByteArray):Option (Bool):=if(a0.size:Int)=0 then(bA.j0 k a0 true) else(bA.j0 k a0 (decide ((a0.size:Int)>60)))
theorem bA.e0 {p:Prop} (h:p:=by
  replace H:=ae.mk H
  have OB:0<=(lF:Int):=aX gq
  have OC:lF<(BR.length:Int):=aX gq
  obtain⟨V7,e305,ZL⟩:=Kd.iM (Kd.aJ jY.out).2.2 lF OB OC
  obtain rfl:Qi=V7:=(by injection e305)
  replace OB:=eq_true OB
  replace OC:=eq_true OC
  have V8:0<=(lF:Int):=aX gq
  have V9:lF<(BR.length:Int):=aX gq
  obtain⟨ack,e306,afW⟩:=Kd.iM (Kd.aJ jY.out).2.2 lF V8 V9
  obtain rfl:Qi=ack:=(by injection e306)
  replace V8:=eq_true V8
  replace V9:=eq_true V9
  have p16:0<=(wW:Int):=aX gq
  have q16:wW<((ed ByteArray.empty BR lF).size:Int):=aX gq
  have hx16:=dZ (ed ByteArray.empty BR lF) wW
  replace p16:=eq_true p16
  replace q16:=eq_true q16
  go_wp2_with(first|(go_at_call 77;(with_reducible refine(dQ.calls (bt (ed ByteArray.empty BR lF) wW) false _ A22.out).mono ?_);rintro e w' ⟨rfl,⟨nd,rfl⟩⟩)|(go_at_call 77;(with_reducible refine(dQ.calls (bt (ed ByteArray.empty BR lF) wW) true _ A22.out).mono ?_);rintro e w' ⟨rfl,⟨nd,rfl⟩⟩)|(go_at_call 77;(with_reducible refine(dQ.calls (bt (ed ByteArray.empty BR lF) wW) false _ A19.out).mono ?_);rintro e w' ⟨rfl,⟨nd,rfl⟩⟩)|(go_at_call 77;(with_reducible refine(dQ.calls (bt (ed ByteArray.empty BR lF) wW) true _ A19.out).mono ?_);rintro e w' ⟨rfl,⟨nd,rfl⟩⟩))
  go_roundg k3
  case measure=>have:=Ch.out;have:=Cv.out;have:=YI.out;omega
  case rel=>exact⟨(wrap64 (wW+1)),kD,H,⟨asg⟩,⟨wh⟩,⟨dL⟩⟩):p:=h
theorem bA.e1 {p:Prop} (h:p:=by
  obtain rfl:=gK H
  have OB:0<=(lF:Int):=aX gq
  have OC:lF<(BR.length:Int):=aX gq
  obtain⟨V7,e305,ZL⟩:=Kd.iM (Kd.aJ jY.out).2.2 lF OB OC
  obtain rfl:Qi=V7:=(by injection e305)
  replace OB:=eq_true OB
  replace OC:=eq_true OC
  have V8:0<=(lF:Int):=aX gq
  have V9:lF<(BR.length:Int):=aX gq
  obtain⟨ack,e306,afW⟩:=Kd.iM (Kd.aJ jY.out).2.2 lF V8 V9
  obtain rfl:Qi=ack:=(by injection e306)
  replace V8:=eq_true V8
  replace V9:=eq_true V9
  have p16:0<=(wW:Int):=aX gq
  have q16:wW<((ed ByteArray.empty BR lF).size:Int):=aX gq
  have hx16:=dZ (ed ByteArray.empty BR lF) wW
  replace p16:=eq_true p16
  replace q16:=eq_true q16
  go_wp2_with(first|(go_at_call 77;(with_reducible refine(dQ.calls (bt (ed ByteArray.empty BR lF) wW) false _ A22.out).mono ?_);rintro e w' ⟨rfl,⟨nd,rfl⟩⟩)|(go_at_call 77;(with_reducible refine(dQ.calls (bt (ed ByteArray.empty BR lF) wW) false _ A19.out).mono ?_);rintro e w' ⟨rfl,⟨nd,rfl⟩⟩))
  go_ret
  exact⟨su,dL⟩):p:=h
theorem bA.calls (k:Nat) (a0:ByteArray) (r:Bool) (w:World) (h:bA.f k a0=some r) :
  Calls Tryz.prog 183 #[.string a0] w fun e w'=>e = .returned (.bool r)/\Below w.heap.size w w':=by
 have HB:=ae.mk (Below.refl w.heap.size w);have H:=h;clear h;unfold bA.f at H;have vv:=ae.mk H;clear H;go_enter Tryz.func183,Tryz.ntmps183;go_upto_region 1 with(fail);go_cut [14] (fun v14 wc=>∃(kq:Nat) (VL:Bool),v14 = .bool VL/\ae (bA.j0 kq a0 VL=some r)/\ae (kq<=k)/\ae (Below w.heap.size w wc))
 case first=>
  have H:=vv.out;clear vv;replace H:=gI H;rcases H with⟨c3,-,-,H⟩|⟨c3,-,-,H⟩
  ·obtain⟨nS,GI⟩:=Cu c3;clear c3;(first|rw[nS]|(simp only[jJ,lY];rw[nS])|skip)
   replace H:=ae.mk H;go_wp2;go_meet
   case rel=>exact⟨_,(true),kD,H,⟨Ld⟩,⟨dL⟩⟩
  ·obtain⟨nS,GI⟩:=Di c3;(first|rw[nS]|(simp only[jJ,lY];rw[nS])|skip)
   replace H:=ae.mk H;go_wp2;go_meet
   case rel=>exact⟨_,(decide ((a0.size:Int)>60)),kD,H,⟨Ld⟩,⟨dL⟩⟩
 case rest=>
  clear vv;obtain⟨kq,VL,rfl,HA,Ch,HB⟩:=hcut;cases kq with
  |zero=>exact absurd HA.out (by simp[bA.j0])
  |succ vC=>
   have H:=HA.out;clear HA;simp only[bA.j0] at H;replace H:=gB H;rcases H with⟨rfl,H⟩|⟨rfl,H⟩
   ·obtain rfl:=gK H;go_wp2;go_ret;exact⟨su,dL⟩
   ·replace H:=gD H;obtain⟨BR,A5,H⟩:=H;replace H:=ae.mk H;go_wp2_with(first|((with_reducible refine lS 181 rfl ?_);refine WK 16 rfl Tryz.func181 (fH.calls vC a0 46 BR _ A5.out) ?_;rintro e w6 ⟨aD4,rfl,ho0,hb⟩;refine⟨_,rfl,?_⟩;have aHI:=ae.mk (Kd.gZ ho0 (bq dL));replace HB:=iC hb;clear hb;(try clear ho0)));go_loopg [4] vC (fun kq v4 w'=>∃(lF:Int),v4 = .int .i64 lF/\ae (bA.l0 kq BR lF=some r)/\ae (kq<=vC)/\ae (Kd.R Kd.string 9 w' w.heap.size (fun _=>True) aD4 BR)/\ae (Below w.heap.size w w'))
    case atStart=>exact⟨(0),kD,H,⟨Nat.le_refl _⟩,⟨wh⟩,⟨dL⟩⟩
    case round=>
     clear H;obtain⟨lF,rfl,HA,Cv,jY,HB⟩:=hrel;cases gk with
     |zero=>exact absurd HA.out (by simp[bA.l0])
     |succ k2=>
      have H:=HA.out;clear HA;simp only[bA.l0] at H;replace H:=gI H;rcases H with⟨-,Am,-,H⟩|⟨-,Am,-,H⟩
      ·replace H:=gN H;obtain⟨-,zS,-,H⟩:=H;replace H:=gI H;rcases H with⟨c9,-,-,H⟩|⟨c9,-,-,H⟩
       ·obtain⟨LH,aiM⟩:=Cu c9;clear c9;obtain rfl:=gK H;obtain⟨aJA,asy,alr⟩:=Kd.dE jY.out;subst alr;have acm:0<=(lF:Int):=aX gq;have acn:lF<(BR.length:Int):=aX gq;obtain⟨Qi,e304,afX⟩:=Kd.iM (Kd.aJ jY.out).2.2 lF acm acn;cases e304
        replace acm:=eq_true acm;replace acn:=eq_true acn;go_wp2;go_ret;exact⟨su,dL⟩
       ·obtain⟨LH,aiM⟩:=Di c9;replace H:=ae.mk H;obtain⟨MG,IA,atP⟩:=Kd.dE jY.out;subst atP;have acm:0<=(lF:Int):=aX gq;have acn:lF<(BR.length:Int):=aX gq;obtain⟨Qi,e304,afX⟩:=Kd.iM (Kd.aJ jY.out).2.2 lF acm acn;cases e304
        replace acm:=eq_true acm;replace acn:=eq_true acn;go_wp2;go_loopg [5] k2 (fun kq v5 w'=>∃(wW:Int),v5 = .int .i64 wW/\ae (bA.l1 kq BR lF wW=some r)/\ae (kq<=k2)/\ae (Kd.R Kd.string 9 w' w.heap.size (fun _=>True) (.slice (some Qi) BR.length IA) BR)/\ae (Below w.heap.size w w'))
        case atStart=>exact⟨(0),kD,H,⟨Nat.le_refl _⟩,⟨wh⟩,⟨dL⟩⟩
        case round=>
         clear H;try clear Am
         try clear zS
         try clear c9
         try clear LH
         try clear aiM
         try clear afX
         try clear acm
         try clear acn
         obtain⟨wW,rfl,HA,YI,jY,HB⟩:=hrel;cases gk with
         |zero=>exact absurd HA.out (by simp[bA.l1])
         |succ k3=>
          have H:=HA.out;clear HA;simp only[bA.l1] at H;replace H:=gN H;obtain⟨-,Ab,-,H⟩:=H;replace H:=gN H;obtain⟨-,zi,-,H⟩:=H;replace H:=gI H;rcases H with⟨-,FV,-,H⟩|⟨-,FV,-,H⟩
          ·replace H:=gN H;obtain⟨-,Cj,-,H⟩:=H;replace H:=gI H;rcases H with⟨-,BG,-,H⟩|⟨-,BG,-,H⟩
           ·replace H:=gI H;rcases H with⟨-,PM,-,H⟩|⟨-,PM,-,H⟩
            ·replace H:=ae.mk H;have OB:0<=(lF:Int):=aX gq;have OC:lF<(BR.length:Int):=aX gq;obtain⟨V7,e305,ZL⟩:=Kd.iM (Kd.aJ jY.out).2.2 lF OB OC;obtain rfl:Qi=V7:=(by injection e305);replace OB:=eq_true OB;replace OC:=eq_true OC;have V8:0<=(lF:Int):=aX gq;have V9:lF<(BR.length:Int):=aX gq;obtain⟨ack,e306,afW⟩:=Kd.iM (Kd.aJ jY.out).2.2 lF V8 V9;obtain rfl:Qi=ack:=(by injection e306);replace V8:=eq_true V8;replace V9:=eq_true V9;have p16:0<=(wW:Int):=aX gq;have q16:wW<((ed ByteArray.empty BR lF).size:Int):=aX gq;have hx16:=dZ (ed ByteArray.empty BR lF) wW;replace p16:=eq_true p16;replace q16:=eq_true q16;go_wp2;go_roundg k3
             case measure=>have:=Ch.out;have:=Cv.out;have:=YI.out;omega
             case rel=>exact⟨(wrap64 (wW+1)),kD,H,⟨asg⟩,⟨wh⟩,⟨dL⟩⟩
            ·replace H:=WU H;rcases H with⟨A19,H⟩|⟨A19,H⟩
             ·exact bA.e0
             ·replace H:=gI H;rcases H with⟨c21,-,-,H⟩|⟨c21,-,-,H⟩
              ·obtain⟨Ac,K3⟩:=Cu c21;clear c21;exact bA.e0
              ·obtain⟨Ac,K3⟩:=Di c21;exact bA.e1
           ·replace H:=WU H;rcases H with⟨A22,H⟩|⟨A22,H⟩
            ·exact bA.e0
            ·replace H:=gI H;rcases H with⟨c24,-,-,H⟩|⟨c24,-,-,H⟩
             ·obtain⟨GZ,Vp⟩:=Cu c24;clear c24;exact bA.e0
             ·obtain⟨GZ,Vp⟩:=Di c24;exact bA.e1
          ·replace H:=ae.mk H;have OB:0<=(lF:Int):=aX gq;have OC:lF<(BR.length:Int):=aX gq;obtain⟨V7,e305,ZL⟩:=Kd.iM (Kd.aJ jY.out).2.2 lF OB OC;obtain rfl:Qi=V7:=(by injection e305);replace OB:=eq_true OB;replace OC:=eq_true OC;go_wp2;go_roundg k3
           case measure=>have:=Ch.out;have:=Cv.out;have:=YI.out;omega
           case rel=>exact⟨(wrap64 (lF+1)),kD,H,⟨asg⟩,⟨wh⟩,⟨dL⟩⟩
      ·obtain rfl:=gK H;obtain⟨axg,axh,atr⟩:=Kd.dE jY.out;subst atr;go_wp2;go_ret;exact⟨su,dL⟩
@[reducible,instance] def bA.c:=jM.of 0 Tryz.func183 @bA.calls


def qR.f (k:Nat) (az:ByteArray) (aA:Int) (aC:ByteArray) (bI:ByteArray) (aG:Bool):Option (ByteArray):=if aA=80 then(some (⟨#[]⟩:af)) else((bX.f k aA).bind fun ayE=>(if 1+ayE.size<=9223372036854775807 then(some ((⟨#[58]⟩:af)++ayE)) else(none)))
theorem qR.calls (k:Nat) (az:ByteArray) (aA:Int) (aC bI:ByteArray) (aG:Bool) (r:ByteArray) (w:World) (h:qR.f k az aA aC bI aG=some r) :
  Calls Tryz.prog 184 #[.agg #[.string az,.int .i64 aA,.string aC,.string bI,.bool aG]] w fun e w'=>e = .returned (.string r)/\Below w.heap.size w w':=by
 have Ro:=Tryz.underlying92;unfold qR.f at h;exact uA
@[reducible,instance] def qR.c:=jM.of 0 Tryz.func184 @qR.calls

def pK.f (az:ByteArray) (aA:Int) (aC:ByteArray) (bI:ByteArray) (aG:Bool):Option (ByteArray):=if aG=true then(if 1+bI.size<=9223372036854775807 then(some ((⟨#[63]⟩:af)++bI)) else(none)) else(some (⟨#[]⟩:af))
theorem pK.calls (az:ByteArray) (aA:Int) (aC bI:ByteArray) (aG:Bool) (r:ByteArray) (w:World) (h:pK.f az aA aC bI aG=some r) :
  Calls Tryz.prog 185 #[.agg #[.string az,.int .i64 aA,.string aC,.string bI,.bool aG]] w fun e w'=>e = .returned (.string r)/\Below w.heap.size w w':=by
 have Ro:=Tryz.underlying92;unfold pK.f at h;exact uA
@[reducible,instance] def pK.c:=jM.of 0 Tryz.func185 @pK.calls

def jo.f (k:Nat) (az:ByteArray) (aA:Int) (aC:ByteArray) (bI:ByteArray) (aG:Bool):Option (ByteArray):=if 7+az.size<=9223372036854775807 then((qR.f k az aA aC bI aG).bind fun agJ=>(if((⟨#[104,116,116,112,58,47,47]⟩:af)++az).size+agJ.size<=9223372036854775807 then(if(((⟨#[104,116,116,112,58,47,47]⟩:af)++az)++agJ).size+aC.size<=9223372036854775807 then((pK.f az aA aC bI aG).bind fun apr=>(if((((⟨#[104,116,116,112,58,47,47]⟩:af)++az)++agJ)++aC).size+apr.size<=9223372036854775807 then(some (((((⟨#[104,116,116,112,58,47,47]⟩:af)++az)++agJ)++aC)++apr)) else(none))) else(none)) else(none))) else(none)
def jo.T1 : Bool×List (List Nat×List Nat):=(true,[([],[]),([0],[0]),([1],[1]),([],[]),([3],[3]),([2,4],[2,4]),([],[]),([6],[6]),([5,7],[5,7]),([],[]),([9,4],[9]),([8,10],[8,10]),([11,10,0,1,2,3,4,5,6,7,8,9,10,11],[11])])
def jo.B1 : List Nat:=[0,1,3,0,8,31,0,64,255,0,536,2047,4095]
theorem jo.El : pX .any (opsOf Tryz.f144 1)=jo.T1:=by kernel_rfl
theorem jo.xn : jK jo.T1.2 jo.B1=true:=by kernel_rfl
theorem jo.calls (k:Nat) (az:ByteArray) (aA:Int) (aC bI:ByteArray) (aG:Bool) (r:ByteArray) (w:World) (h:jo.f k az aA aC bI aG=some r) :
  Calls Tryz.prog 144 #[.agg #[.string az,.int .i64 aA,.string aC,.string bI,.bool aG]] w fun e w'=>e = .returned (.string r)/\Below w.heap.size w w':=by
 have Ro:=Tryz.underlying92;have HB:=ae.mk (Below.refl w.heap.size w);have H:=ae.mk h;clear h;unfold jo.f at H;rcases GM H with⟨c2,EG,xU,H⟩|⟨c2,-,-,H⟩
 ·try have alX:=eq_false (Nat.not_lt.2 c2)
  obtain⟨agJ,A3,H⟩:=xE H;obtain⟨c4,Kh,yE,H⟩:=Ci H;try have agw:=eq_false (Nat.not_lt.2 c4)
  try(have VC:=c4;simp only[ByteArray.size_append,yP,List.length_cons,List.length_nil,Nat.zero_add,Nat.reduceAdd] at VC;replace VC:=eq_false (Nat.not_lt.2 VC))
  obtain⟨c5,LW,xW,H⟩:=Ci H;try have awi:=eq_false (Nat.not_lt.2 c5)
  try(have U8:=c5;simp only[ByteArray.size_append,yP,List.length_cons,List.length_nil,Nat.zero_add,Nat.reduceAdd] at U8;replace U8:=eq_false (Nat.not_lt.2 U8))
  obtain⟨apr,A6,H⟩:=xE H;obtain⟨c7,Zt,Am,H⟩:=Ci H;try have aJB:=eq_false (Nat.not_lt.2 c7)
  try(have atV:=c7;simp only[ByteArray.size_append,yP,List.length_cons,List.length_nil,Nat.zero_add,Nat.reduceAdd] at atV;replace atV:=eq_false (Nat.not_lt.2 atV))
  obtain rfl:=gK H.out;go_enter Tryz.func144,Tryz.ntmps144;try go_wp2_with(((with_reducible refine vJ 1 rfl ?_);refine qo #[.string az,.int .i64 aA,.string aC,.string bI,.bool aG] 92 ?_;intro Wd hg mo hbox hb;have Ba:=ae.mk (hbox);have aHJ:=rE hg;replace HB:=iC hb;clear hb hbox hg))
  replace Ba:=ae.mk (dh Ba.out);replace HB:=ae.mk (bn HB.out);refine kJ (n:=13) (S:=fun w'=>w'.cell? ⟨Wd,0,none⟩=some (.string az)/\w'.cell? ⟨Wd,1,none⟩=some (.int .i64 aA)/\w'.cell? ⟨Wd,2,none⟩=some (.string aC)/\w'.cell? ⟨Wd,3,none⟩=some (.string bI)/\w'.cell? ⟨Wd,4,none⟩=some (.bool aG)) (ds:=[]) (tL Ba) (fun hHeld=>?_);refine dY jo.El jo.xn (fun HT_ HW_=>?_);generalize mo.drew=mV at Ba HB hHeld ⊢;repeat(first|refine mr ?_ (hy:=Or.inl ⟨by rfl,Dk⟩)|refine ek ?_)
  refine bN 6 (some 9) ?_;refine fQ 7 (some 10) (hy:=Or.inl ⟨by rfl,Dk⟩) ?_;refine fQ 9 (some 12) (hy:=Or.inl ⟨by rfl,Dk⟩) ?_;refine gV (fun K hK=>?_);refine EC Tryz.func184 (qR.calls k az aA aC bI aG agJ _ A3.out) fun tT hb=>?_;replace Ba:=jr (g:=Wd) hb;replace HB:=iC hb;(try clear hb)
  refine hK.out _ _ (tL Ba) (fun hHeld=>?_);clear hK K;refine dI ?_;repeat(first|refine ek ?_)
  refine gV (fun K hK=>?_);refine EC Tryz.func185 (pK.calls az aA aC bI aG apr _ A6.out) fun tT hb=>?_;replace Ba:=jr (g:=Wd) hb;replace HB:=iC hb;(try clear hb)
  refine hK.out _ _ (tL Ba) (fun hHeld=>?_);clear hK K;refine dI ?_;repeat(first|refine ek ?_)
  refine lh (gP HT_.out eB) ?_;try go_wp2
  go_ret;exact⟨su,dL⟩
 ·exact absurd H.out (by simp)
@[reducible,instance] def jo.c:=jM.of 0 Tryz.func144 @jo.calls


def bC.j0 : Nat->Bool->ByteArray->Int->ByteArray->ByteArray->Bool->Option (Bool)
 |0,_,_,_,_,_,_=>none
 |k+1,x39,afY,afZ,af0,EP,af1=>if x39=true then(some false) else(if(EP.size:Int)>200 then(some false) else(if EP.toList=([]:aM) then((dS.f k EP 35).bind fun aps=>(if aps.toList=EP.toList then((jo.f k afY afZ af0 EP af1).bind fun atW=>(some (decide ((atW.size:Int)<=200)))) else(some false))) else((dP.f k EP).bind fun aD5=>(if aD5=true then((dS.f k EP 35).bind fun apt=>(if apt.toList=EP.toList then((jo.f k afY afZ af0 EP af1).bind fun atX=>(some (decide ((atX.size:Int)<=200)))) else(some false))) else(some false)))))
def bC.f (k:Nat) (az:ByteArray) (aA:Int) (aC:ByteArray) (bI:ByteArray) (aG:Bool):Option (Bool):=(bA.f k az).bind fun aD6=>(if aD6=true then(if aA<1 then(bC.j0 k true az aA aC bI aG) else(if aA>65535 then(bC.j0 k true az aA aC bI aG) else(if aC.toList=([]:aM) then(bC.j0 k true az aA aC bI aG) else((ay.f k aC).bind fun akQ=>(if akQ.toList=aC.toList then(if aG=true then(bC.j0 k false az aA aC bI aG) else(bC.j0 k (bI.toList != ([]:aM)) az aA aC bI aG)) else(bC.j0 k true az aA aC bI aG)))))) else(bC.j0 k true az aA aC bI aG))
def bC.T1 : Bool×List (List Nat×List Nat):=(true,[([],[]),([0],[0]),([1],[1]),([2],[2]),([3,2],[3]),([4],[4]),([5,4],[4,5]),([6,4],[4,6]),([4,7],[4,7]),([8,4],[8]),([9],[9]),([10,9],[9,10]),([11,9],[9,11]),([9,12],[9,12]),([13,9],[13]),([14],[14]),([15,14],[14,15]),([16,14],[14,16]),([14,17],[14,17]),([18,14],[18]),([19],[19]),([20,19],[19,20]),([21,19,19],[19,21]),([19],[19]),([23,19],[19,23]),([22,24,19],[19,22,24]),([19,25],[19,25]),([26,22],[26]),([27],[27]),([28,27],[27,28]),([29,27],[27,29]),([30,27,27],[27,30]),([31],[31]),([32,31],[31,32]),([33,31],[31,33]),([31,34,27],[27,31,34]),([27,35],[27,35])])
def bC.B1 : List Nat:=[0,1,3,7,15,31,63,127,255,511,1023,2047,4095,8191,16383,32767,65535,131071,262143,524287,1048575,2097151,4194303,1048575,9437183,33554431,67108863,134217727,268435455,536870911,1073741823,2147483647,4294967295,8589934591,17179869183,34359738367,68719476735]
theorem bC.El : pX .any (opsOf Tryz.f143 1)=bC.T1:=by kernel_rfl
theorem bC.xn : jK bC.T1.2 bC.B1=true:=by kernel_rfl
def bC.T3 : Bool×List (List Nat×List Nat):=(true,[([],[]),([0],[0]),([1],[1]),([2],[2]),([3],[3]),([4],[4]),([5,4],[4,5]),([6,4],[4,6]),([7,4,4],[4,7]),([8],[8]),([9,8],[8,9]),([10,8,8],[8,10]),([11,8],[8,11]),([8,12,4],[4,8,12]),([4,13],[4,13]),([14,11],[14]),([15],[15]),([16,15],[15,16]),([17,15,15],[15,17]),([15],[15]),([19,15],[15,19]),([18,20,15],[15,18,20]),([15,21],[15,21])])
def bC.B3 : List Nat:=[0,1,3,7,15,31,63,127,255,511,1023,2047,4095,8191,16383,32767,65535,131071,262143,65535,589823,2097151,4194303]
theorem bC.UR : pX .any (opsOf Tryz.f143 3)=bC.T3:=by kernel_rfl
theorem bC.LJ : jK bC.T3.2 bC.B3=true:=by kernel_rfl
theorem bC.e0 {p:Prop} (h:p:=by
  replace H:=ae.mk H
  try go_wp2
  replace Ba:=ae.mk (dh Ba.out)
  replace HB:=ae.mk (bn HB.out)
  refine kJ (n:=37) (S:=fun w'=>w'.cell? ⟨lu,0,none⟩=some (.string az)/\w'.cell? ⟨lu,1,none⟩=some (.int .i64 aA)/\w'.cell? ⟨lu,2,none⟩=some (.string aC)/\w'.cell? ⟨lu,3,none⟩=some (.string bI)/\w'.cell? ⟨lu,4,none⟩=some (.bool aG)) (ds:=[]) (tL Ba) (fun hHeld=>?_);refine dY bC.El bC.xn (fun HT_ HW_=>?_)
  generalize w3.drew=mo at Ba HB hHeld ⊢
  repeat(first|refine mr ?_ (hy:=Or.inl ⟨by rfl,Dk⟩)|refine ek ?_|(refine gV (fun K hK=>?_);refine lQ Tryz.func183 eB rfl #[.string az] (by rfl) rfl rfl Iu ?_;(with_reducible refine(bA.calls k az false _ A4.out).mono ?_);rintro e Og ⟨rfl,hb⟩;refine⟨_,rfl,?_⟩;replace Ba:=jr (g:=lu) hb;replace HB:=iC hb;clear hb;refine hK.out _ _ (tL Ba) (fun hHeld=>?_);clear hK K;refine dI ?_)|(refine gV (fun K hK=>?_);refine lQ Tryz.func183 eB rfl #[.string az] (by rfl) rfl rfl Iu ?_;(with_reducible refine(bA.calls k az true _ A4.out).mono ?_);rintro e mV ⟨rfl,hb⟩;refine⟨_,rfl,?_⟩;replace Ba:=jr (g:=lu) hb;replace HB:=iC hb;clear hb;refine hK.out _ _ (tL Ba) (fun hHeld=>?_);clear hK K;refine dI ?_))
  refine lh (gP HT_.out eB) ?_
  try go_wp2
  go_meet
  case rel=>exact⟨_,(true),kD,H,⟨Ld⟩,⟨yz⟩,⟨dL⟩⟩):p:=h
theorem bC.e1 {p:Prop} (h:p:=by
  obtain rfl:=gK H
  try go_wp2
  replace Ba:=ae.mk (dh Ba.out)
  replace HB:=ae.mk (bn HB.out)
  refine kJ (n:=23) (S:=fun w'=>w'.cell? ⟨lu,0,none⟩=some (.string az)/\w'.cell? ⟨lu,1,none⟩=some (.int .i64 aA)/\w'.cell? ⟨lu,2,none⟩=some (.string aC)/\w'.cell? ⟨lu,3,none⟩=some (.string bI)/\w'.cell? ⟨lu,4,none⟩=some (.bool aG)) (ds:=[]) (tL Ba) (fun hHeld=>?_);refine dY bC.UR bC.LJ (fun HT_ HW_=>?_)
  generalize wc.drew=GH at Ba HB hHeld ⊢
  repeat(first|refine mr ?_ (hy:=Or.inl ⟨by rfl,Dk⟩)|refine ek ?_|(refine gV (fun K hK=>?_);refine lQ Tryz.func100 eB rfl #[.string bI] (by rfl) rfl rfl Iu ?_;(with_reducible refine(dP.calls vC bI false _ A40.out).mono ?_);rintro e w' ⟨rfl,⟨nd,rfl⟩⟩;refine⟨_,rfl,?_⟩;refine hK.out _ _ (tL Ba) (fun hHeld=>?_);clear hK K;refine dI ?_))
  refine lh (gP HT_.out eB) ?_
  try go_wp2
  go_ret
  exact⟨su,dL⟩):p:=h
theorem bC.calls (k:Nat) (az:ByteArray) (aA:Int) (aC bI:ByteArray) (aG r:Bool) (w:World) (h:bC.f k az aA aC bI aG=some r) :
  Calls Tryz.prog 143 #[.agg #[.string az,.int .i64 aA,.string aC,.string bI,.bool aG]] w fun e w'=>e = .returned (.bool r)/\Below w.heap.size w w':=by
 have Ro:=Tryz.underlying92;have HB:=ae.mk (Below.refl w.heap.size w);have H:=h;clear h;unfold bC.f at H;have vv:=ae.mk H;clear H;go_enter Tryz.func143,Tryz.ntmps143;go_upto_region 1 with(first|((with_reducible refine vJ 1 rfl ?_);refine qo #[.string az,.int .i64 aA,.string aC,.string bI,.bool aG] 92 ?_;intro lu hg w3 hbox hb;have Ba:=ae.mk (hbox);have aHK:=rE hg;replace HB:=iC hb;clear hb hbox hg));(try simp only[Act.put,List.setIfInBounds_toArray,List.set_cons_zero,List.set_cons_succ])
 go_cut [39] (fun v39 wc=>∃(kq:Nat) (akR:Bool),v39 = .bool akR/\ae (bC.j0 kq akR az aA aC bI aG=some r)/\ae (kq<=k)/\ae (wc.heap[lu]? = some (.cells #[.string az,.int .i64 aA,.string aC,.string bI,.bool aG] 92 (0,0)))/\ae (Below w.heap.size w wc))
 case first=>
  have H:=vv.out;clear vv;replace H:=WU H;rcases H with⟨A4,H⟩|⟨A4,H⟩
  ·replace H:=gI H;rcases H with⟨-,xV,-,H⟩|⟨-,xV,-,H⟩
   ·(first|rw[xV]|(simp only[jJ,lY];rw[xV])|skip)
    exact bC.e0
   ·(first|rw[xV]|(simp only[jJ,lY];rw[xV])|skip)
    replace H:=gI H;rcases H with⟨-,LH,-,H⟩|⟨-,LH,-,H⟩
    ·exact bC.e0
    ·replace H:=gI H;rcases H with⟨c12,-,-,H⟩|⟨c12,-,-,H⟩
     ·obtain⟨Ab,Nk⟩:=Cu c12;clear c12;exact bC.e0
     ·obtain⟨Ab,Nk⟩:=Di c12;replace H:=gD H;obtain⟨akQ,A15,H⟩:=H;replace H:=gI H;rcases H with⟨c16,-,-,H⟩|⟨c16,-,-,H⟩
      ·obtain⟨DD,KX⟩:=Cu c16;clear c16;replace H:=gB H;rcases H with⟨rfl,H⟩|⟨rfl,H⟩
       ·replace H:=ae.mk H;try go_wp2
        replace Ba:=ae.mk (dh Ba.out);replace HB:=ae.mk (bn HB.out);refine kJ (n:=37) (S:=fun w'=>w'.cell? ⟨lu,0,none⟩=some (.string az)/\w'.cell? ⟨lu,1,none⟩=some (.int .i64 aA)/\w'.cell? ⟨lu,2,none⟩=some (.string aC)/\w'.cell? ⟨lu,3,none⟩=some (.string bI)/\w'.cell? ⟨lu,4,none⟩=some (.bool true)) (ds:=[]) (tL Ba) (fun hHeld=>?_);refine dY bC.El bC.xn (fun HT_ HW_=>?_);generalize w3.drew=mo at Ba HB hHeld ⊢;repeat(first|refine mr ?_ (hy:=Or.inl ⟨by rfl,Dk⟩)|refine ek ?_)
        refine gV (fun K hK=>?_);refine EC Tryz.func183 (bA.calls k az true _ A4.out) fun tT hb=>?_;replace Ba:=jr (g:=lu) hb;replace HB:=iC hb;(try clear hb)
        refine hK.out _ _ (tL Ba) (fun hHeld=>?_);clear hK K;refine dI ?_;repeat(first|refine mr ?_ (hy:=Or.inl ⟨by rfl,Dk⟩)|refine ek ?_)
        refine bN 23 (some 26) ?_;refine fQ 24 (some 27) (hy:=Or.inl ⟨by rfl,Dk⟩) ?_;refine gV (fun K hK=>?_);refine EC Tryz.func142 (ay.calls k aC akQ _ A15.out) fun tT hb=>?_;replace Ba:=jr (g:=lu) hb;replace HB:=iC hb;(try clear hb)
        refine hK.out _ _ (tL Ba) (fun hHeld=>?_);clear hK K;refine dI ?_;repeat(first|refine mr ?_ (hy:=Or.inl ⟨by rfl,Dk⟩)|refine ek ?_)
        refine lh (gP HT_.out eB) ?_;try go_wp2
        go_meet
        case rel=>exact⟨_,(false),kD,H,⟨Ld⟩,⟨yz⟩,⟨dL⟩⟩
       ·replace H:=ae.mk H;try go_wp2
        replace Ba:=ae.mk (dh Ba.out);replace HB:=ae.mk (bn HB.out);refine kJ (n:=37) (S:=fun w'=>w'.cell? ⟨lu,0,none⟩=some (.string az)/\w'.cell? ⟨lu,1,none⟩=some (.int .i64 aA)/\w'.cell? ⟨lu,2,none⟩=some (.string aC)/\w'.cell? ⟨lu,3,none⟩=some (.string bI)/\w'.cell? ⟨lu,4,none⟩=some (.bool false)) (ds:=[]) (tL Ba) (fun hHeld=>?_);refine dY bC.El bC.xn (fun HT_ HW_=>?_);generalize w3.drew=mo at Ba HB hHeld ⊢;repeat(first|refine mr ?_ (hy:=Or.inl ⟨by rfl,Dk⟩)|refine ek ?_)
        refine gV (fun K hK=>?_);refine EC Tryz.func183 (bA.calls k az true _ A4.out) fun tT hb=>?_;replace Ba:=jr (g:=lu) hb;replace HB:=iC hb;(try clear hb)
        refine hK.out _ _ (tL Ba) (fun hHeld=>?_);clear hK K;refine dI ?_;repeat(first|refine mr ?_ (hy:=Or.inl ⟨by rfl,Dk⟩)|refine ek ?_)
        refine bN 23 (some 26) ?_;refine fQ 24 (some 27) (hy:=Or.inl ⟨by rfl,Dk⟩) ?_;refine gV (fun K hK=>?_);refine EC Tryz.func142 (ay.calls k aC akQ _ A15.out) fun tT hb=>?_;replace Ba:=jr (g:=lu) hb;replace HB:=iC hb;(try clear hb)
        refine hK.out _ _ (tL Ba) (fun hHeld=>?_);clear hK K;refine dI ?_;repeat(first|refine mr ?_ (hy:=Or.inl ⟨by rfl,Dk⟩)|refine ek ?_)
        refine lh (gP HT_.out eB) ?_;try go_wp2
        go_meet
        case rel=>exact⟨_,((bI.toList != ([]:aM))),(by first|(simp;generalize bI.toList=l_;cases l_ <;> rfl)|exact kD),H,⟨Ld⟩,⟨yz⟩,⟨dL⟩⟩
      ·obtain⟨DD,KX⟩:=Di c16;replace H:=ae.mk H;try go_wp2
       replace Ba:=ae.mk (dh Ba.out);replace HB:=ae.mk (bn HB.out);refine kJ (n:=37) (S:=fun w'=>w'.cell? ⟨lu,0,none⟩=some (.string az)/\w'.cell? ⟨lu,1,none⟩=some (.int .i64 aA)/\w'.cell? ⟨lu,2,none⟩=some (.string aC)/\w'.cell? ⟨lu,3,none⟩=some (.string bI)/\w'.cell? ⟨lu,4,none⟩=some (.bool aG)) (ds:=[]) (tL Ba) (fun hHeld=>?_);refine dY bC.El bC.xn (fun HT_ HW_=>?_);generalize w3.drew=mo at Ba HB hHeld ⊢;repeat(first|refine mr ?_ (hy:=Or.inl ⟨by rfl,Dk⟩)|refine ek ?_)
       refine gV (fun K hK=>?_);refine EC Tryz.func183 (bA.calls k az true _ A4.out) fun tT hb=>?_;replace Ba:=jr (g:=lu) hb;replace HB:=iC hb;(try clear hb)
       refine hK.out _ _ (tL Ba) (fun hHeld=>?_);clear hK K;refine dI ?_;repeat(first|refine mr ?_ (hy:=Or.inl ⟨by rfl,Dk⟩)|refine ek ?_)
       refine bN 23 (some 26) ?_;refine fQ 24 (some 27) (hy:=Or.inl ⟨by rfl,Dk⟩) ?_;refine gV (fun K hK=>?_);refine EC Tryz.func142 (ay.calls k aC akQ _ A15.out) fun tT hb=>?_;replace Ba:=jr (g:=lu) hb;replace HB:=iC hb;(try clear hb)
       refine hK.out _ _ (tL Ba) (fun hHeld=>?_);clear hK K;refine dI ?_;repeat(first|refine ek ?_)
       refine lh (gP HT_.out eB) ?_;try go_wp2
       go_meet
       case rel=>exact⟨_,(true),kD,H,⟨Ld⟩,⟨yz⟩,⟨dL⟩⟩
  ·exact bC.e0
 case rest=>
  clear vv;obtain⟨kq,akR,rfl,HA,Ch,Ba,HB⟩:=hcut;cases kq with
  |zero=>exact absurd HA.out (by simp[bC.j0])
  |succ vC=>
   have H:=HA.out;clear HA;simp only[bC.j0] at H;replace H:=gB H;rcases H with⟨rfl,H⟩|⟨rfl,H⟩
   ·obtain rfl:=gK H;go_wp2;go_ret;exact⟨su,dL⟩
   ·replace H:=gI H;rcases H with⟨Z0,-,-,H⟩|⟨Z0,-,-,H⟩
    ·have RY:decide (200<(bI.size:Int))=true:=aQ Z0;have Vf:decide (200<bI.size)=true:=aQ aa;clear Z0;exact bC.e1
    ·have RY:decide (200<(bI.size:Int))=false:=aT Z0;have Vf:decide (200<bI.size)=false:=aT aa;clear Z0;replace H:=gI H;rcases H with⟨c32,-,-,H⟩|⟨c32,-,-,H⟩
     ·obtain⟨X6,abj⟩:=Cu c32;clear c32;replace H:=gD H;obtain⟨aps,A33,H⟩:=H;replace H:=gI H;rcases H with⟨c34,-,-,H⟩|⟨c34,-,-,H⟩
      ·obtain⟨ai7,ai6⟩:=Cu c34;clear c34;replace H:=gD H;obtain⟨atW,A35,H⟩:=H;obtain rfl:=gK H;try go_wp2
       replace Ba:=ae.mk (dh Ba.out);replace HB:=ae.mk (bn HB.out);refine kJ (n:=23) (S:=fun w'=>w'.cell? ⟨lu,0,none⟩=some (.string az)/\w'.cell? ⟨lu,1,none⟩=some (.int .i64 aA)/\w'.cell? ⟨lu,2,none⟩=some (.string aC)/\w'.cell? ⟨lu,3,none⟩=some (.string bI)/\w'.cell? ⟨lu,4,none⟩=some (.bool aG)) (ds:=[]) (tL Ba) (fun hHeld=>?_);refine dY bC.UR bC.LJ (fun HT_ HW_=>?_);generalize wc.drew=GH at Ba HB hHeld ⊢;repeat(first|refine mr ?_ (hy:=Or.inl ⟨by rfl,Dk⟩)|refine ek ?_)
       refine bN 19 (some 59) ?_;refine fQ 20 (some 60) (hy:=Or.inl ⟨by rfl,Dk⟩) ?_;refine gV (fun K hK=>?_);refine Iw Tryz.func140 (dS.calls vC bI 35 aps _ A33.out) fun nd=>?_;refine hK.out _ _ (tL Ba) (fun hHeld=>?_);clear hK K;refine dI ?_;repeat(first|refine ek ?_)
       refine lh (gP HT_.out eB) ?_;obtain⟨_,_,_,_,_⟩:=tL Ba;obtain⟨_,_,_,_,_⟩:=agc Ba;try go_wp2_with(((with_reducible refine lS 144 rfl ?_);refine vI 64 rfl Tryz.func144 (jo.calls vC az aA aC bI aG atW _ A35.out) fun LG hb _=>?_;replace Ba:=jr (g:=lu) hb;replace HB:=iC hb;(try clear hb)))
       go_ret;exact⟨su,dL⟩
      ·obtain⟨ai7,ai6⟩:=Di c34;obtain rfl:=gK H;try go_wp2
       replace Ba:=ae.mk (dh Ba.out);replace HB:=ae.mk (bn HB.out);refine kJ (n:=23) (S:=fun w'=>w'.cell? ⟨lu,0,none⟩=some (.string az)/\w'.cell? ⟨lu,1,none⟩=some (.int .i64 aA)/\w'.cell? ⟨lu,2,none⟩=some (.string aC)/\w'.cell? ⟨lu,3,none⟩=some (.string bI)/\w'.cell? ⟨lu,4,none⟩=some (.bool aG)) (ds:=[]) (tL Ba) (fun hHeld=>?_);refine dY bC.UR bC.LJ (fun HT_ HW_=>?_);generalize wc.drew=GH at Ba HB hHeld ⊢;repeat(first|refine mr ?_ (hy:=Or.inl ⟨by rfl,Dk⟩)|refine ek ?_)
       refine bN 19 (some 59) ?_;refine fQ 20 (some 60) (hy:=Or.inl ⟨by rfl,Dk⟩) ?_;refine gV (fun K hK=>?_);refine Iw Tryz.func140 (dS.calls vC bI 35 aps _ A33.out) fun nd=>?_;refine hK.out _ _ (tL Ba) (fun hHeld=>?_);clear hK K;refine dI ?_;repeat(first|refine ek ?_)
       refine lh (gP HT_.out eB) ?_;try go_wp2
       go_ret;exact⟨su,dL⟩
     ·obtain⟨X6,abj⟩:=Di c32;replace H:=WU H;rcases H with⟨A40,H⟩|⟨A40,H⟩
      ·replace H:=gD H;obtain⟨apt,A42,H⟩:=H;replace H:=gI H;rcases H with⟨c43,-,-,H⟩|⟨c43,-,-,H⟩
       ·obtain⟨aq9,ayF⟩:=Cu c43;clear c43;replace H:=gD H;obtain⟨atX,A44,H⟩:=H;obtain rfl:=gK H;try go_wp2
        replace Ba:=ae.mk (dh Ba.out);replace HB:=ae.mk (bn HB.out);refine kJ (n:=23) (S:=fun w'=>w'.cell? ⟨lu,0,none⟩=some (.string az)/\w'.cell? ⟨lu,1,none⟩=some (.int .i64 aA)/\w'.cell? ⟨lu,2,none⟩=some (.string aC)/\w'.cell? ⟨lu,3,none⟩=some (.string bI)/\w'.cell? ⟨lu,4,none⟩=some (.bool aG)) (ds:=[]) (tL Ba) (fun hHeld=>?_);refine dY bC.UR bC.LJ (fun HT_ HW_=>?_);generalize wc.drew=GH at Ba HB hHeld ⊢;repeat(first|refine mr ?_ (hy:=Or.inl ⟨by rfl,Dk⟩)|refine ek ?_)
        refine gV (fun K hK=>?_);refine Iw Tryz.func100 (dP.calls vC bI true _ A40.out) fun nd=>?_;refine hK.out _ _ (tL Ba) (fun hHeld=>?_);clear hK K;refine dI ?_;repeat(first|refine mr ?_ (hy:=Or.inl ⟨by rfl,Dk⟩)|refine ek ?_)
        refine bN 19 (some 59) ?_;refine fQ 20 (some 60) (hy:=Or.inl ⟨by rfl,Dk⟩) ?_;refine gV (fun K hK=>?_);refine Iw Tryz.func140 (dS.calls vC bI 35 apt _ A42.out) fun nd=>?_;refine hK.out _ _ (tL Ba) (fun hHeld=>?_);clear hK K;refine dI ?_;repeat(first|refine ek ?_)
        refine lh (gP HT_.out eB) ?_;obtain⟨_,_,_,_,_⟩:=tL Ba;obtain⟨_,_,_,_,_⟩:=agc Ba;try go_wp2_with(((with_reducible refine lS 144 rfl ?_);refine vI 64 rfl Tryz.func144 (jo.calls vC az aA aC bI aG atX _ A44.out) fun M7 hb _=>?_;replace Ba:=jr (g:=lu) hb;replace HB:=iC hb;(try clear hb)))
        go_ret;exact⟨su,dL⟩
       ·obtain⟨aq9,ayF⟩:=Di c43;obtain rfl:=gK H;try go_wp2
        replace Ba:=ae.mk (dh Ba.out);replace HB:=ae.mk (bn HB.out);refine kJ (n:=23) (S:=fun w'=>w'.cell? ⟨lu,0,none⟩=some (.string az)/\w'.cell? ⟨lu,1,none⟩=some (.int .i64 aA)/\w'.cell? ⟨lu,2,none⟩=some (.string aC)/\w'.cell? ⟨lu,3,none⟩=some (.string bI)/\w'.cell? ⟨lu,4,none⟩=some (.bool aG)) (ds:=[]) (tL Ba) (fun hHeld=>?_);refine dY bC.UR bC.LJ (fun HT_ HW_=>?_);generalize wc.drew=GH at Ba HB hHeld ⊢;repeat(first|refine mr ?_ (hy:=Or.inl ⟨by rfl,Dk⟩)|refine ek ?_)
        refine gV (fun K hK=>?_);refine Iw Tryz.func100 (dP.calls vC bI true _ A40.out) fun nd=>?_;refine hK.out _ _ (tL Ba) (fun hHeld=>?_);clear hK K;refine dI ?_;repeat(first|refine mr ?_ (hy:=Or.inl ⟨by rfl,Dk⟩)|refine ek ?_)
        refine bN 19 (some 59) ?_;refine fQ 20 (some 60) (hy:=Or.inl ⟨by rfl,Dk⟩) ?_;refine gV (fun K hK=>?_);refine Iw Tryz.func140 (dS.calls vC bI 35 apt _ A42.out) fun nd=>?_;refine hK.out _ _ (tL Ba) (fun hHeld=>?_);clear hK K;refine dI ?_;repeat(first|refine ek ?_)
        refine lh (gP HT_.out eB) ?_;try go_wp2
        go_ret;exact⟨su,dL⟩
      ·exact bC.e1
@[reducible,instance] def bC.c:=jM.of 0 Tryz.func143 @bC.calls


mutual
def bY.j0 : Nat->ByteArray->Bool->Option (ByteArray×Int×ByteArray×ByteArray×Bool×Bool)
 |0,_,_=>none
 |k+1,x0,x35=>if x35=true then(some ((⟨#[]⟩:af),0,(⟨#[]⟩:af),(⟨#[]⟩:af),false,false)) else(if 7<=(x0.size:Int) then((dS.f k (x0.extract 7 x0.size) 63).bind fun aco=>((dS.f k aco 47).bind fun We=>((dS.f k We 58).bind fun acp=>((jk.f acp).bind fun acr=>(if(acp.size:Int)<(We.size:Int) then(if 0<=(wrap64 ((acp.size:Int)+1)) then(if(wrap64 ((acp.size:Int)+1))<=(We.size:Int) then((eP.f k (We.extract ((wrap64 ((acp.size:Int)+1)):Int).toNat We.size)).bind fun ara=>(if ara.2=true then(bY.j1 k (x0.extract 7 x0.size) aco We acr ara.1 (⟨#[47]⟩:af) (⟨#[]⟩:af) false) else(some ((⟨#[]⟩:af),0,(⟨#[]⟩:af),(⟨#[]⟩:af),false,false)))) else(none)) else(none)) else(bY.j1 k (x0.extract 7 x0.size) aco We acr 80 (⟨#[47]⟩:af) (⟨#[]⟩:af) false)))))) else(none))
def bY.j1 : Nat->ByteArray->ByteArray->ByteArray->ByteArray->Int->ByteArray->ByteArray->Bool->Option (ByteArray×Int×ByteArray×ByteArray×Bool×Bool)
 |0,_,_,_,_,_,_,_,_=>none
 |k+1,x4,x5,x6,Ky,Kz,M4,Qj,Qk=>if(x6.size:Int)<(x5.size:Int) then(if 0<=(x6.size:Int) then(if(x6.size:Int)<=(x5.size:Int) then((ay.f k (x5.extract ((x6.size:Int):Int).toNat x5.size)).bind fun aD7=>(bY.j2 k x4 x5 Ky Kz aD7 Qj Qk)) else(none)) else(none)) else(bY.j2 k x4 x5 Ky Kz M4 Qj Qk)
def bY.j2 : Nat->ByteArray->ByteArray->ByteArray->Int->ByteArray->ByteArray->Bool->Option (ByteArray×Int×ByteArray×ByteArray×Bool×Bool)
 |0,_,_,_,_,_,_,_=>none
 |k+1,x4,x5,Ky,Kz,M4,Qj,Qk=>if(x5.size:Int)<(x4.size:Int) then(if 0<=(wrap64 ((x5.size:Int)+1)) then(if(wrap64 ((x5.size:Int)+1))<=(x4.size:Int) then((bC.f k Ky Kz M4 (x4.extract ((wrap64 ((x5.size:Int)+1)):Int).toNat x4.size) true).bind fun aD8=>(if aD8=true then(some (Ky,Kz,M4,x4.extract ((wrap64 ((x5.size:Int)+1)):Int).toNat x4.size,true,true)) else(some ((⟨#[]⟩:af),0,(⟨#[]⟩:af),(⟨#[]⟩:af),false,false)))) else(none)) else(none)) else((bC.f k Ky Kz M4 Qj Qk).bind fun aD9=>(if aD9=true then(some (Ky,Kz,M4,Qj,Qk,true)) else(some ((⟨#[]⟩:af),0,(⟨#[]⟩:af),(⟨#[]⟩:af),false,false))))
end
def bY.f (k:Nat) (a0:ByteArray):Option (ByteArray×Int×ByteArray×ByteArray×Bool×Bool):=if(a0.size:Int)>200 then(bY.j0 k a0 true) else(if(a0.size:Int)<8 then(bY.j0 k a0 true) else((dP.f k a0).bind fun aEa=>(if aEa=true then((dS.f k a0 35).bind fun aEb=>(if aEb.toList=a0.toList then(if 0<=7 then(if 7<=(a0.size:Int) then((jk.f (a0.extract 0 7)).bind fun aEc=>(bY.j0 k a0 (aEc.toList != ([104,116,116,112,58,47,47]:aM)))) else(none)) else(none)) else(bY.j0 k a0 true))) else(bY.j0 k a0 true))))
theorem bY.calls (k:Nat) (a0 r1:ByteArray) (r2:Int) (r3 r4:ByteArray) (r5 r6:Bool) (w:World) (h:bY.f k a0=some (r1,r2,r3,r4,r5,r6)) :
  Calls Tryz.prog 95 #[.string a0] w fun e w'=>e = .returned (.tuple #[.agg #[.string r1,.int .i64 r2,.string r3,.string r4,.bool r5],.bool r6])/\Below w.heap.size w w':=by
 have Ro:=Tryz.underlying92;have HB:=ae.mk (Below.refl w.heap.size w);have H:=h;clear h;unfold bY.f at H;have vv:=ae.mk H;clear H;go_enter Tryz.func95,Tryz.ntmps95;go_upto_region 1 with(first|((with_reducible refine vJ 2 rfl ?_);refine Iz #[.string (⟨#[]⟩:af),.int .i64 0,.string (⟨#[]⟩:af),.string (⟨#[]⟩:af),.bool false] 92 ?_;intro Ql hg w3 hbox hb;have Ba:=ae.mk (hbox);have aHL:=rE hg;replace HB:=iC hb;clear hb hbox hg));(try simp only[Act.put,List.setIfInBounds_toArray,List.set_cons_zero,List.set_cons_succ])
 go_cut [35] (fun v35 wc=>∃(kq:Nat) (akS:Bool),v35 = .bool akS/\ae (bY.j0 kq a0 akS=some (r1,r2,r3,r4,r5,r6))/\ae (kq<=k)/\ae (wc.heap[Ql]? = some (.cells #[.string (⟨#[]⟩:af),.int .i64 0,.string (⟨#[]⟩:af),.string (⟨#[]⟩:af),.bool false] 92 (0,0)))/\ae (Below w.heap.size w wc))
 case first=>
  have H:=vv;clear vv;exact uW
 case rest=>
  clear vv;obtain⟨kq,akS,rfl,HA,Ch,Ba,HB⟩:=hcut;cases kq with
  |zero=>exact absurd HA.out (by simp[bY.j0])
  |succ vC=>
   have H:=HA.out;clear HA;simp only[bY.j0] at H;replace H:=gB H;rcases H with⟨rfl,H⟩|⟨rfl,H⟩
   ·replace H:=ae.mk H;exact uW
   ·obtain⟨zp0,atd⟩:∃ z_:ByteArray,a0.extract 7 a0.size=z_:=⟨_,rfl⟩;rw[atd] at H;replace H:=gI H;rcases H with⟨-,KX,DD,H⟩|⟨c16,-,-,H⟩
    ·replace H:=gD H;obtain⟨aco,ZZ,H⟩:=H;replace H:=gD H;obtain⟨We,Zq,H⟩:=H;replace H:=gD H;obtain⟨acp,A19,H⟩:=H;replace H:=gD H;obtain⟨acr,A20,H⟩:=H;have atY:=ae.mk H;clear H;go_upto_if 52 with(first|((with_reducible refine lS 140 rfl ?_);refine MW 40 rfl Tryz.func140 (dS.calls vC zp0 63 aco _ ZZ.out) fun nd=>?_;(try(rw[qW wc];generalize hq_:World.drewN wc _=wc;have qb:ae (wc.heap[Ql]? = some (.cells #[.string (⟨#[]⟩:af),.int .i64 0,.string (⟨#[]⟩:af),.string (⟨#[]⟩:af),.bool false] 92 (0,0))):=⟨by rw[<- hq_];exact(by(with_reducible repeat(first|refine jV ?_ _|refine dh ?_|refine kU ?_ _));exact Ba.out)⟩;have qU:ae (Below w.heap.size w wc):=⟨by rw[<- hq_];exact dL⟩;clear Ba HB hq_;have Ba:=qb;have HB:=qU;clear qb qU)))|((with_reducible refine lS 140 rfl ?_);refine MW 42 rfl Tryz.func140 (dS.calls vC aco 47 We _ Zq.out) fun nd=>?_;(try(rw[qW wc];generalize hq_:World.drewN wc _=wc;have qb:ae (wc.heap[Ql]? = some (.cells #[.string (⟨#[]⟩:af),.int .i64 0,.string (⟨#[]⟩:af),.string (⟨#[]⟩:af),.bool false] 92 (0,0))):=⟨by rw[<- hq_];exact(by(with_reducible repeat(first|refine jV ?_ _|refine dh ?_|refine kU ?_ _));exact Ba.out)⟩;have qU:ae (Below w.heap.size w wc):=⟨by rw[<- hq_];exact dL⟩;clear Ba HB hq_;have Ba:=qb;have HB:=qU;clear qb qU)))|((with_reducible refine lS 140 rfl ?_);refine MW 44 rfl Tryz.func140 (dS.calls vC We 58 acp _ A19.out) fun nd=>?_;(try(rw[qW wc];generalize hq_:World.drewN wc _=wc;have qb:ae (wc.heap[Ql]? = some (.cells #[.string (⟨#[]⟩:af),.int .i64 0,.string (⟨#[]⟩:af),.string (⟨#[]⟩:af),.bool false] 92 (0,0))):=⟨by rw[<- hq_];exact(by(with_reducible repeat(first|refine jV ?_ _|refine dh ?_|refine kU ?_ _));exact Ba.out)⟩;have qU:ae (Below w.heap.size w wc):=⟨by rw[<- hq_];exact dL⟩;clear Ba HB hq_;have Ba:=qb;have HB:=qU;clear qb qU)))|((with_reducible refine lS 83 rfl ?_);refine vI 46 rfl Tryz.func83 (jk.calls acp acr _ A20.out) fun w22 hb _=>?_;have qb:=jr (g:=Ql) hb;have qU:=iC hb;clear Ba;clear HB;have Ba:=qb;have HB:=qU;clear qb qU;(try clear hb))|((with_reducible refine vJ 8 rfl ?_);refine Iz #[.string (⟨#[]⟩:af),.int .i64 0,.string (⟨#[]⟩:af),.string (⟨#[]⟩:af),.bool false] 92 ?_;intro arb hg w23 hbox hb;have qb:=jr (g:=Ql) hb;have qU:=iC hb;have I5:=ae.mk (hbox);have UW:=rE hg;have n4_:=rE hg;have n5_:=O9 (g:=Ql) hg;have n6_:=QD n5_;clear Ba;clear HB;have Ba:=qb;have HB:=qU;have Bb:=I5;have aHM:=UW;have aHN:=n4_;have agK:=n5_;have agL:=n6_;clear qb qU I5 UW n4_ n5_ n6_;clear hb hbox hg;have axL:=agL.out;have axM:=agK.out;obtain⟨_,_,_,_,_⟩:=tL Bb;obtain⟨_,_,_,_,_⟩:=agc Bb));(try simp only[Act.put,List.setIfInBounds_toArray,List.set_cons_zero,List.set_cons_succ])
     go_cut [] (fun wc=>∃(kq:Nat) (OD:ByteArray) (OE:Int) (OG:ByteArray) (OH:ByteArray) (OI:Bool) (F8:Int),ae (bY.j1 kq zp0 aco We acr F8 (⟨#[47]⟩:af) (⟨#[]⟩:af) false=some (r1,r2,r3,r4,r5,r6))/\ae (kq<=vC)/\ae (wc.heap[Ql]? = some (.cells #[.string OD,.int .i64 OE,.string OG,.string OH,.bool OI] 92 (0,0)))/\ae (wc.heap[arb]? = some (.cells #[.string acr,.int .i64 F8,.string (⟨#[47]⟩:af),.string (⟨#[]⟩:af),.bool false] 92 (0,0)))/\ae (Below w.heap.size w wc))
     case first=>
      have H:=atY;clear atY;exact uW
     case rest=>
      clear atY;try clear c16
      try clear DD
      try clear KX
      obtain⟨kq,OD,OE,OG,OH,OI,F8,HA,aJC,Ba,Bb,HB⟩:=hcut;cases kq with
      |zero=>exact absurd HA.out (by simp[bY.j1])
      |succ aEd=>
       have H:=HA.out;clear HA;simp only[bY.j1] at H;have atZ:=ae.mk H;clear H;go_upto_if 71 with(fail);go_cut [] (fun wc=>∃(kq:Nat) (OJ:ByteArray),ae (bY.j2 kq zp0 aco acr F8 OJ (⟨#[]⟩:af) false=some (r1,r2,r3,r4,r5,r6))/\ae (kq<=aEd)/\ae (wc.heap[Ql]? = some (.cells #[.string OD,.int .i64 OE,.string OG,.string OH,.bool OI] 92 (0,0)))/\ae (wc.heap[arb]? = some (.cells #[.string acr,.int .i64 F8,.string OJ,.string (⟨#[]⟩:af),.bool false] 92 (0,0)))/\ae (Below w.heap.size w wc))
       case first=>
        have H:=atZ;clear atZ;exact uW
       case rest=>
        clear atZ;try clear c16
        try clear DD
        try clear KX
        obtain⟨kq,OJ,HA,aJD,Ba,Bb,HB⟩:=hcut;cases kq with
        |zero=>exact absurd HA.out (by simp[bY.j2])
        |succ aJE=>
         have H:=HA;clear HA;simp only[bY.j2] at H;exact uW
    ·exact absurd H (by simp)
@[reducible,instance] def bY.c:=jM.of 0 Tryz.func95 @bY.calls


def uR.f (k:Nat) (az:ByteArray) (aA:Int) (aC:ByteArray) (bI:ByteArray) (aG:Bool):Option (ByteArray):=(bC.f k az aA aC bI aG).bind fun aEe=>(if aEe=true then((jo.f k az aA aC bI aG).bind fun aEf=>(some aEf)) else(some (⟨#[]⟩:af)))
theorem uR.calls (k:Nat) (az:ByteArray) (aA:Int) (aC bI:ByteArray) (aG:Bool) (r:ByteArray) (w:World) (h:uR.f k az aA aC bI aG=some r) :
  Calls Tryz.prog 96 #[.agg #[.string az,.int .i64 aA,.string aC,.string bI,.bool aG]] w fun e w'=>e = .returned (.string r)/\Below w.heap.size w w':=by
 have Ro:=Tryz.underlying92;unfold uR.f at h;exact uA
@[reducible,instance] def uR.c:=jM.of 0 Tryz.func96 @uR.calls

def vz.f (k:Nat) (a0:ByteArray):Option (ByteArray×Bool):=(bY.f k a0).bind fun Yv=>(if Yv.2.2.2.2.2=true then((uR.f k Yv.1 Yv.2.1 Yv.2.2.1 Yv.2.2.2.1 Yv.2.2.2.2.1).bind fun aEg=>(some (aEg,true))) else(some ((⟨#[]⟩:af),false)))
theorem vz.calls (k:Nat) (a0 r1:ByteArray) (r2:Bool) (w:World) (h:vz.f k a0=some (r1,r2)) :
  Calls Tryz.prog 57 #[.string a0] w fun e w'=>e = .returned (.tuple #[.string r1,.bool r2])/\Below w.heap.size w w':=by
 have Ro:=Tryz.underlying92;unfold vz.f at h;exact uA
@[reducible,instance] def vz.c:=jM.of 0 Tryz.func57 @vz.calls


def qG.f (k:Nat) (a0:ByteArray):Option (Bool):=(vz.f k a0).bind fun arc=>(if arc.2=true then(some (arc.1.toList==a0.toList)) else(some false))
theorem qG.calls (k:Nat) (a0:ByteArray) (r:Bool) (w:World) (h:qG.f k a0=some r) :
  Calls Tryz.prog 30 #[.string a0] w fun e w'=>e = .returned (.bool r)/\Below w.heap.size w w':=by
 unfold qG.f at h;exact uA
@[reducible,instance] def qG.c:=jM.of 0 Tryz.func30 @qG.calls


def jG.l0 : Nat->ByteArray->Int->Int->Option (Int×Bool)
 |0,_,_,_=>none
 |k+1,x0,x4,x5=>if x5<(x0.size:Int) then(if 0<=x5 then((dQ.f (bt x0 x5)).bind fun ayG=>(if ayG=true then(if(wrap64 ((wrap64 (x4*10))+(((bt x0 x5)-48)%256)))>2147483648 then(jG.l0 k x0 2147483648 (wrap64 (x5+1))) else(jG.l0 k x0 (wrap64 ((wrap64 (x4*10))+(((bt x0 x5)-48)%256))) (wrap64 (x5+1)))) else(some (0,false)))) else(none)) else(some (x4,true))
def jG.f (k:Nat) (a0:ByteArray):Option (Int×Bool):=if a0.toList=([]:aM) then(some (0,false)) else(jG.l0 k a0 0 0)
theorem jG.calls (k:Nat) (a0:ByteArray) (r1:Int) (r2:Bool) (w:World) (h:jG.f k a0=some (r1,r2)) :
  Calls Tryz.prog 45 #[.string a0] w fun e w'=>e = .returned (.tuple #[.int .i64 r1,.bool r2])/\bL w w':=by
 have H:=ae.mk h;clear h;unfold jG.f at H;rcases GM H with⟨c2,-,-,H⟩|⟨c2,-,-,H⟩
 ·obtain⟨xU,EG⟩:=Cu c2;clear c2;exact uE
 ·obtain⟨xU,EG⟩:=Di c2;go_enter Tryz.func45,Tryz.ntmps45;go_wp2;go_loopg [4,5] k (fun kq v4 v5 w'=>∃(gJ:Int) (gH:Int),v4 = .int .i64 gJ/\v5 = .int .i64 gH/\ae (jG.l0 kq a0 gJ gH=some (r1,r2))/\ae (kq<=k)/\bL w w')
  case atStart=>exact⟨(0),(0),kD,kD,H,⟨Nat.le_refl _⟩,TP⟩
  case round=>
   clear H;try clear c2
   try clear xU
   try clear EG
   obtain⟨gJ,gH,rfl,rfl,HA,mh,⟨m1,rfl⟩⟩:=hrel;cases gk with
   |zero=>exact absurd HA.out (by simp[jG.l0])
   |succ k1=>
    have H:=HA;clear HA;simp only[jG.l0] at H;exact uW
@[reducible,instance] def jG.c:=jM.of 0 Tryz.func45 @jG.calls

def qy.f (k:Nat) (a0:ByteArray):Option (ByteArray×ByteArray):=(dS.f k a0 61).bind fun Wh=>(if(Wh.size:Int)=(a0.size:Int) then((cz.f k Wh).bind fun ayH=>((jk.f ayH).bind fun ayI=>(some (ayI,(⟨#[]⟩:af))))) else(if 0<=(wrap64 ((Wh.size:Int)+1)) then(if(wrap64 ((Wh.size:Int)+1))<=(a0.size:Int) then((cz.f k (a0.extract ((wrap64 ((Wh.size:Int)+1)):Int).toNat a0.size)).bind fun ard=>((dz.f k ard).bind fun akT=>(if akT.2=true then((cz.f k Wh).bind fun ayJ=>((jk.f ayJ).bind fun ayK=>(some (ayK,akT.1)))) else((cz.f k Wh).bind fun ayL=>((jk.f ayL).bind fun ayM=>(some (ayM,ard))))))) else(none)) else(none)))
theorem qy.calls (k:Nat) (a0 r1 r2:ByteArray) (w:World) (h:qy.f k a0=some (r1,r2)) :
  Calls Tryz.prog 167 #[.string a0] w fun e w'=>e = .returned (.tuple #[.string r1,.string r2])/\Below w.heap.size w w':=by
 unfold qy.f at h;exact uA
@[reducible,instance] def qy.c:=jM.of 0 Tryz.func167 @qy.calls

def iE.l0 : Nat->List ByteArray->ByteArray->Int->Option (ByteArray×Bool)
 |0,_,_,_=>none
 |k+1,x0,x1,x6=>if x6<(x0.length:Int) then(if 0<=x6 then((qy.f k (ed ByteArray.empty x0 x6)).bind fun akU=>(if akU.1.toList=x1.toList then(some (akU.2,true)) else(iE.l0 k x0 x1 (wrap64 (x6+1))))) else(none)) else(some ((⟨#[]⟩:af),false))
def iE.f (k:Nat) (l0:List ByteArray) (a1:ByteArray):Option (ByteArray×Bool):=iE.l0 k l0 a1 0
theorem iE.calls (k:Nat) (A0:Option Addr) (c0:Nat) (l0:List ByteArray) (a1 r1:ByteArray) (r2:Bool) (w:World) (hr0:Kd.C Kd.string w A0 l0.length l0) (hc0:l0.length<=c0) (h:iE.f k l0 a1=some (r1,r2)) :
  Calls Tryz.prog 124 #[.slice A0 l0.length c0,.string a1] w fun e w'=>e = .returned (.tuple #[.string r1,.bool r2])/\Below w.heap.size w w':=by
 have GL:=ae.mk hr0;have GG:=ae.mk hc0;clear hr0 hc0;have HB:=ae.mk (Below.refl w.heap.size w);have H:=ae.mk h;clear h;unfold iE.f at H;go_enter Tryz.func124,Tryz.ntmps124;go_wp2;go_loopg [6] k (fun kq v6 w'=>∃(lN:Int),v6 = .int .i64 lN/\ae (iE.l0 kq l0 a1 lN=some (r1,r2))/\ae (kq<=k)/\ae (Below w.heap.size w w'))
 case atStart=>exact⟨(0),kD,H,⟨Nat.le_refl _⟩,⟨dL⟩⟩
 case round=>
  clear H;obtain⟨lN,rfl,HA,mh,HB⟩:=hrel;cases gk with
  |zero=>exact absurd HA.out (by simp[iE.l0])
  |succ k1=>
   have H:=HA;clear HA;simp only[iE.l0] at H;exact uW
@[reducible,instance] def iE.c:=jM.of 0 Tryz.func124 @iE.calls


def iA.f (k:Nat) (l0:List ByteArray) (a1:ByteArray):Option (Bool):=(iE.f k l0 a1).bind fun at0=>(some at0.2)
theorem iA.calls (k:Nat) (A0:Option Addr) (c0:Nat) (l0:List ByteArray) (a1:ByteArray) (r:Bool) (w:World) (hr0:Kd.C Kd.string w A0 l0.length l0) (hc0:l0.length<=c0) (h:iA.f k l0 a1=some r) :
  Calls Tryz.prog 81 #[.slice A0 l0.length c0,.string a1] w fun e w'=>e = .returned (.bool r)/\Below w.heap.size w w':=by
 have GL:=ae.mk hr0;have GG:=ae.mk hc0;clear hr0 hc0;unfold iA.f at h;exact uA
@[reducible,instance] def iA.c:=jM.of 0 Tryz.func81 @iA.calls

def jU.f (k:Nat) (l0:List ByteArray) (a1:ByteArray) (a2:Int) (a3:Int):Option (Int):=(iE.f k l0 a1).bind fun aeb=>(if aeb.2=true then((jG.f k aeb.1).bind fun akV=>(if akV.2=true then(some akV.1) else(if aeb.1.toList=([]:aM) then(some a2) else(some a3)))) else(some (-1)))
theorem jU.calls (k:Nat) (A0:Option Addr) (c0:Nat) (l0:List ByteArray) (a1:ByteArray) (a2 a3 r:Int) (w:World) (hr0:Kd.C Kd.string w A0 l0.length l0) (hc0:l0.length<=c0) (h:jU.f k l0 a1 a2 a3=some r) :
  Calls Tryz.prog 82 #[.slice A0 l0.length c0,.string a1,.int .i64 a2,.int .i64 a3] w fun e w'=>e = .returned (.int .i64 r)/\Below w.heap.size w w':=by
 have GL:=ae.mk hr0;have GG:=ae.mk hc0;clear hr0 hc0;unfold jU.f at h;exact uA
@[reducible,instance] def jU.c:=jM.of 0 Tryz.func82 @jU.calls

end Go.Proofs.YtfhllanhldbkkaaGreatDoor.P
