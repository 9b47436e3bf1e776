import Derived.Test.YtfhllanhldbkkaaGreatDoorPximpl06a
set_option maxHeartbeats 8000000
set_option maxRecDepth 100000
namespace Go.Proofs.YtfhllanhldbkkaaGreatDoor.P
open Go.RowKit Go.Proofs.YtfhllanhldbkkaaGreatDoorW.aW Go.Proofs.YtfhllanhldbkkaaGreatDoorW.eQ Go.Proofs.YtfhllanhldbkkaaGreatDoorW.fO
attribute [local go_sem] kV kW mE mF jP jQ kX kY dZ E8 E9 Fa Fb oU oV
set_option linter.unusedVariables false
set_option linter.unusedSimpArgs false

mutual
def aI.l0 : Nat->ByteArray->List Int->Int->Option (ByteArray)
 |0,_,_,_=>none
 |k+1,x0,x3,x4=>if x4<(x0.size:Int) then(if 0<=x4 then(if(bt x0 x4)=37 then(if(wrap64 (x4+2))>=(x0.size:Int) then(aI.j1 k x0 x3 x4 true) else(if 0<=(wrap64 (x4+1)) then(if(wrap64 (x4+1))<(x0.size:Int) then((eH.f k (bt x0 (wrap64 (x4+1)))).bind fun alO=>(if alO<0 then(aI.j1 k x0 x3 x4 true) else(if 0<=(wrap64 (x4+2)) then(if(wrap64 (x4+2))<(x0.size:Int) then((eH.f k (bt x0 (wrap64 (x4+2)))).bind fun alP=>(aI.j1 k x0 x3 x4 (decide (alP<0)))) else(none)) else(none)))) else(none)) else(none))) else(aI.j1 k x0 x3 x4 true)) else(none)) else(some (strOfNums x3))
def aI.j1 : Nat->ByteArray->List Int->Int->Bool->Option (ByteArray)
 |0,_,_,_,_=>none
 |k+1,x0,x3,x4,x38=>if x38=true then(if 0<=x4 then(if x4<(x0.size:Int) then(if x3.length<140737488355328 then(aI.l0 k x0 (x3 ++ [bt x0 x4]) (wrap64 (x4+1))) else(none)) else(none)) else(none)) else(if 0<=(wrap64 (x4+1)) then(if(wrap64 (x4+1))<(x0.size:Int) then((eH.f k (bt x0 (wrap64 (x4+1)))).bind fun La=>(if 0<=(wrap64 (x4+2)) then(if(wrap64 (x4+2))<(x0.size:Int) then((eH.f k (bt x0 (wrap64 (x4+2)))).bind fun Lb=>((nR.f ((wrap64 ((wrap64 (16*La))+Lb))%256)).bind fun aCy=>(if aCy=true then(if x3.length<140737488355328 then(aI.l0 k x0 (x3 ++ [(wrap64 ((wrap64 (16*La))+Lb))%256]) (wrap64 ((wrap64 (x4+2))+1))) else(none)) else(if 0<=(((wrap64 ((wrap64 (16*La))+Lb))%256) / 16) then(if(((wrap64 ((wrap64 (16*La))+Lb))%256) / 16)<16 then(if 0<=(Go.bits .and .u8 ((wrap64 ((wrap64 (16*La))+Lb))%256) 15) then(if(Go.bits .and .u8 ((wrap64 ((wrap64 (16*La))+Lb))%256) 15)<16 then((some (([37,bt (⟨#[48,49,50,51,52,53,54,55,56,57,65,66,67,68,69,70]⟩:af) (((wrap64 ((wrap64 (16*La))+Lb))%256) / 16),bt (⟨#[48,49,50,51,52,53,54,55,56,57,65,66,67,68,69,70]⟩:af) (Go.bits .and .u8 ((wrap64 ((wrap64 (16*La))+Lb))%256) 15)]:List Int):List Int)).bind fun abq=>(if x3.length+abq.length<140737488355328 then(aI.l0 k x0 (x3++abq) (wrap64 ((wrap64 (x4+2))+1))) else(none))) else(none)) else(none)) else(none)) else(none))))) else(none)) else(none))) else(none)) else(none))
end
def aI.f (k:Nat) (a0:ByteArray):Option (ByteArray):=aI.l0 k a0 ([]:List Int) 0
def aI.T7 : Bool×List (List Nat×List Nat):=(true,[([],[]),([],[]),([1],[1]),([0,2],[0,2]),([3],[3]),([4],[4]),([],[]),([],[]),([7],[7]),([6,8],[6,8]),([9,4],[9]),([5,10],[5,10]),([11],[11]),([12,10,0,1,2,3,4,5,6,7,8,9,10,11,12],[12])])
def aI.B7 : List Nat:=[0,0,2,7,15,31,0,0,128,448,991,2047,4095,8191]
theorem aI.agB : pX .any (opsOf Tryz.f197 7)=aI.T7:=by kernel_rfl
theorem aI.X5 : jK aI.T7.2 aI.B7=true:=by kernel_rfl
def aI.T10 : Bool×List (List Nat×List Nat):=(true,[([],[]),([],[]),([1],[1]),([2],[2]),([],[]),([4],[4]),([5],[5]),([3,6],[3,6]),([0,7],[0,7]),([8,8,0,1,2,3,4,5,6,7,8],[0,8])])
def aI.B10 : List Nat:=[0,0,2,6,0,16,48,126,255,511]
theorem aI.awY : pX .any (opsOf Tryz.f197 10)=aI.T10:=by kernel_rfl
theorem aI.atm : jK aI.T10.2 aI.B10=true:=by kernel_rfl
theorem aI.e0 {p:Prop} (h:p:=by
  replace H:=ae.mk H
  have p5:0<=(gJ:Int):=aX gq
  have q5:gJ<(a0.size:Int):=aX gq
  have hx5:=dZ a0 gJ
  replace p5:=eq_true p5
  replace q5:=eq_true q5
  go_wp2
  go_meet
  case rel=>exact⟨_,(true),kD,H,⟨aai⟩,⟨wh⟩,⟨dL⟩⟩):p:=h
theorem aI.calls (k:Nat) (a0 r:ByteArray) (w:World) (h:aI.f k a0=some r) :
  Calls Tryz.prog 197 #[.string a0] w fun e w'=>e = .returned (.string r)/\Below w.heap.size w w':=by
 have HB:=ae.mk (Below.refl w.heap.size w);have H:=h;clear h;unfold aI.f at H;replace H:=ae.mk H;go_enter Tryz.func197,Tryz.ntmps197;go_wp2;go_loopg [3,4] k (fun kq v3 v4 w'=>∃(jD:List Int) (gJ:Int),v4 = .int .i64 gJ/\ae (aI.l0 kq a0 jD gJ=some r)/\ae (kq<=k)/\ae (Kd.R (Kd.int .u8) 5 w' w.heap.size (fun _=>True) v3 jD)/\ae (Below w.heap.size w w'))
 case atStart=>exact⟨(([]:List Int)),(0),kD,H,⟨Nat.le_refl _⟩,⟨Pe⟩,⟨dL⟩⟩
 case round=>
  clear H;obtain⟨jD,gJ,rfl,HA,mh,jY,HB⟩:=hrel;cases gk with
  |zero=>exact absurd HA.out (by simp[aI.l0])
  |succ k1=>
   have H:=HA.out;clear HA;simp only[aI.l0] at H;replace H:=gI H;rcases H with⟨-,xU,-,H⟩|⟨-,xU,-,H⟩
   ·have HC3:=ae.mk H;clear H;go_upto_region 5 with(fail);go_cut [38] (fun v38 wc=>∃(kq:Nat) (ajl:Bool),v38 = .bool ajl/\ae (aI.j1 kq a0 jD gJ ajl=some r)/\ae (kq<=k1)/\ae (Kd.R (Kd.int .u8) 5 wc w.heap.size (fun _=>True) u3 jD)/\ae (Below w.heap.size w wc))
    case first=>
     have H:=HC3.out;clear HC3;replace H:=gN H;obtain⟨-,yE,-,H⟩:=H;(first|rw[yE]|(simp only[jJ,lY];rw[yE])|skip)
     replace H:=gI H;rcases H with⟨c6,-,-,H⟩|⟨c6,-,-,H⟩
     ·obtain⟨xV,M8⟩:=Cu c6;clear c6;replace H:=gI H;rcases H with⟨-,Am,-,H⟩|⟨-,Am,-,H⟩
      ·exact aI.e0
      ·obtain⟨ji8,abr⟩:∃ j_:Int,(wrap64 (gJ+1))=j_:=⟨_,rfl⟩;(first|rw[abr] at H|simp only[abr] at H ⊢)
       have awZ:(IntKind.i64.wrap (gJ+1))=ji8:=(jJ _).trans abr;replace H:=gN H;obtain⟨-,LH,-,H⟩:=H;replace H:=gN H;obtain⟨-,Cm,-,H⟩:=H;replace H:=gD H;obtain⟨alO,Y3,H⟩:=H;replace H:=gI H;rcases H with⟨-,zi,-,H⟩|⟨-,zi,-,H⟩
       ·replace H:=ae.mk H;have p5:0<=(gJ:Int):=aX gq;have q5:gJ<(a0.size:Int):=aX gq;have hx5:=dZ a0 gJ;replace p5:=eq_true p5;replace q5:=eq_true q5;have p11:0<=((ji8):Int):=aX gq;have q11:(ji8)<(a0.size:Int):=aX gq;have aw0:=dZ a0 (ji8);replace p11:=eq_true p11;replace q11:=eq_true q11;go_wp2_with((go_at_call 219;(with_reducible refine(eH.calls k1 (bt a0 (ji8)) alO _ Y3.out).mono ?_);rintro e w' ⟨rfl,⟨nd,rfl⟩⟩));go_meet
        case rel=>exact⟨_,(true),kD,H,⟨aai⟩,⟨wh⟩,⟨dL⟩⟩
       ·obtain⟨ajm,abt⟩:∃ j_:Int,(wrap64 (gJ+2))=j_:=⟨_,rfl⟩;(first|rw[abt] at H|simp only[abt] at H ⊢)
        (try rw[abt] at Am)
        (try rw[abt] at Y3)
        have aCz:(IntKind.i64.wrap (gJ+2))=ajm:=(jJ _).trans abt;replace H:=gN H;obtain⟨-,Cj,-,H⟩:=H;replace H:=gN H;obtain⟨-,DD,-,H⟩:=H;replace H:=gD H;obtain⟨alP,Zq,H⟩:=H;replace H:=ae.mk H;have p5:0<=(gJ:Int):=aX gq;have q5:gJ<(a0.size:Int):=aX gq;have hx5:=dZ a0 gJ;replace p5:=eq_true p5;replace q5:=eq_true q5;have p11:0<=((ji8):Int):=aX gq;have q11:(ji8)<(a0.size:Int):=aX gq;have aw0:=dZ a0 (ji8);replace p11:=eq_true p11;replace q11:=eq_true q11;go_wp2_with(first|(go_at_call 219;(with_reducible refine(eH.calls k1 (bt a0 (ji8)) alO _ Y3.out).mono ?_);rintro e w' ⟨rfl,⟨nd,rfl⟩⟩;have Yb:0<=((ajm):Int):=aX gq;have Yc:(ajm)<(a0.size:Int):=aX gq;have agF:=dZ a0 (ajm);replace Yb:=eq_true Yb;replace Yc:=eq_true Yc)|(go_at_call 219;(with_reducible refine(eH.calls k1 (bt a0 (ajm)) alP _ Zq.out).mono ?_);rintro e w' ⟨rfl,⟨nd,rfl⟩⟩));go_meet
        case rel=>exact⟨_,(decide (alP<0)),kD,H,⟨aai⟩,⟨wh⟩,⟨dL⟩⟩
     ·obtain⟨xV,M8⟩:=Di c6;exact aI.e0
    case rest=>
     clear HC3;try clear xU
     obtain⟨kq,ajl,rfl,HA,HJ2,jY,HB⟩:=hcut;cases kq with
     |zero=>exact absurd HA.out (by simp[aI.j1])
     |succ Oj=>
      have H:=HA.out;clear HA;simp only[aI.j1] at H;replace H:=gB H;rcases H with⟨rfl,H⟩|⟨rfl,H⟩
      ·replace H:=gN H;obtain⟨-,KZ,-,H⟩:=H;replace H:=gN H;obtain⟨-,Ac,-,H⟩:=H;replace H:=gN H;obtain⟨c23,-,-,H⟩:=H;have aw1:=ae.mk c23;clear c23;obtain⟨aw2,abu⟩:∃ y_:List Int,y_=(jD ++ [bt a0 gJ]):=⟨_,rfl⟩;replace H:(aI.l0 Oj a0 aw2 (wrap64 (gJ+1)))=some r:=by first|(rw[abu];with_reducible exact H)|(have mW:=(aj _ _).symm.trans H;rw[abu];with_reducible exact mW)|(have mW:=(aj _ _).symm.trans H;with_reducible exact mW)|with_reducible exact H|(rw[abu];exact H)|exact H
       have aw3:=ae.mk abu;clear abu;replace H:=ae.mk H;have p22:0<=(gJ:Int):=aX gq;have q22:gJ<(a0.size:Int):=aX gq;have aI5:=dZ a0 gJ;replace p22:=eq_true p22;replace q22:=eq_true q22;go_wp2_with(((with_reducible refine iF (b:=.append) (xs:=#[.tmp 39,.tmp 43]) rfl ?_);(try(refine mH (by rfl) ?_;dsimp only));at_builtin;refine Kd.mG (Kd.int .u8) (w0:=w) w.heap.size rfl (.tmp 39) (.tmp 43) 100 5 (.int .u8 0) 1 rfl Tryz.underlying100 info5 rfl av aa u3 jD (bt a0 gJ) [.int .u8 (bt a0 gJ)] (fun _=>True) (fun _=>False) rfl rfl ?aP (fun _ hk=>hk.elim) ?aF ?aO ?aB ?aS ?aL ?_;(case aP=>exact rfl);(case aB=>exact dL);(case aF=>exact(fun _ _=>trivial));(case aO=>exact SG);(case aS=>exact(bq dL));(case aL=>have:=aw1.out;omega);intro aI6 mo ho hb hg hat;rw[<- aw3.out] at ho;have LX:=ae.mk (hb);have LY:=ae.mk (ho);clear HB;clear jY;have HB:=LX;have aGP:=LY;clear LX LY;clear ho hb hg hat));go_roundg Oj
       case measure=>have:=mh.out;have:=HJ2.out;omega
       case rel=>exact⟨(aw2),(wrap64 (gJ+1)),kD,H,⟨ac1⟩,⟨wh⟩,⟨dL⟩⟩
      ·obtain⟨Vy,abv⟩:∃ j_:Int,(wrap64 (gJ+1))=j_:=⟨_,rfl⟩;(first|rw[abv] at H|simp only[abv] at H ⊢)
       have aCA:(IntKind.i64.wrap (gJ+1))=Vy:=(jJ _).trans abv;replace H:=gN H;obtain⟨-,aaF,-,H⟩:=H;replace H:=gN H;obtain⟨-,Sa,-,H⟩:=H;replace H:=gD H;obtain⟨La,A29,H⟩:=H;obtain⟨M9,Sd⟩:∃ j_:Int,(wrap64 (gJ+2))=j_:=⟨_,rfl⟩;(first|rw[Sd] at H|simp only[Sd] at H ⊢)
       (try rw[Sd] at A29)
       have aCB:(IntKind.i64.wrap (gJ+2))=M9:=(jJ _).trans Sd;replace H:=gN H;obtain⟨-,aqu,-,H⟩:=H;replace H:=gN H;obtain⟨-,X6,-,H⟩:=H;replace H:=gD H;obtain⟨Lb,A34,H⟩:=H;replace H:=WU H;rcases H with⟨A35,H⟩|⟨A35,H⟩
       ·replace H:=gN H;obtain⟨c37,-,-,H⟩:=H;have aw4:=ae.mk c37;clear c37;obtain⟨aw5,abw⟩:∃ y_:List Int,y_=(jD ++ [(wrap64 ((wrap64 (16*La))+Lb))%256]):=⟨_,rfl⟩;replace H:(aI.l0 Oj a0 aw5 (wrap64 ((M9)+1)))=some r:=by first|(rw[abw];with_reducible exact H)|(have mW:=(aj _ _).symm.trans H;rw[abw];with_reducible exact mW)|(have mW:=(aj _ _).symm.trans H;with_reducible exact mW)|with_reducible exact H|(rw[abw];exact H)|exact H
        have aw6:=ae.mk abw;clear abw;replace H:=ae.mk H;try go_wp2
        replace jY:=ae.mk (Kd.bV jY.out);replace HB:=ae.mk (bn HB.out);have p28:0<=((Vy):Int):=aX gq;have q28:(Vy)<(a0.size:Int):=aX gq;have hx28:=dZ a0 (Vy);replace p28:=eq_true p28;replace q28:=eq_true q28;have p33:0<=((M9):Int):=aX gq;have q33:(M9)<(a0.size:Int):=aX gq;have aCC:=dZ a0 (M9);replace p33:=eq_true p33;replace q33:=eq_true q33;refine kJ (n:=14) (S:=fun w'=>True) (ds:=[]) trivial (fun hHeld=>?_);refine dY aI.agB aI.X5 (fun HT_ HW_=>?_);generalize wc.drew=mV at jY HB hHeld ⊢;repeat(first|refine mr ?_ (hy:=Or.inl ⟨by rfl,by intro w' _;go_simp;with_reducible rfl⟩)|refine ek ?_)
        refine bN 6 (some 51) ?_;refine bN 7 (some 52) ?_;refine bN 8 (some 53) ?_;refine fQ 9 (some 54) (hy:=Or.inl ⟨by rfl,by intro w' _;go_simp;with_reducible rfl⟩) ?_;refine gV (fun K hK=>?_);refine lQ Tryz.func219 eB rfl #[.int .u8 (bt a0 (Vy))] (by rfl) rfl rfl (by(try simp only[List.map_toArray,List.map_cons,List.map_nil]);first|done|(simp only[abv];rfl)|rfl|(simp only[List.length_drop,List.length_take];rfl)) ?_;(with_reducible refine(eH.calls Oj (bt a0 (Vy)) La _ A29.out).mono ?_);rintro e w' ⟨rfl,⟨nd,rfl⟩⟩;refine⟨_,rfl,?_⟩;refine hK.out _ _ trivial (fun hHeld=>?_);clear hK K;refine dI ?_;repeat(first|refine ek ?_)
        refine gV (fun K hK=>?_);refine lQ Tryz.func219 eB rfl #[.int .u8 (bt a0 (M9))] (by rfl) rfl rfl (by(try simp only[List.map_toArray,List.map_cons,List.map_nil]);first|done|(simp only[Sd];rfl)|rfl|(simp only[List.length_drop,List.length_take];rfl)) ?_;(with_reducible refine(eH.calls Oj (bt a0 (M9)) Lb _ A34.out).mono ?_);rintro e w' ⟨rfl,⟨nd,rfl⟩⟩;refine⟨_,rfl,?_⟩;refine hK.out _ _ trivial (fun hHeld=>?_);clear hK K;refine dI ?_;repeat(first|refine ek ?_)
        refine lh (gP HT_.out eB) ?_;try go_wp2_with(first|((with_reducible refine lS 220 rfl ?_);refine MW 59 rfl Tryz.func220 (nR.calls ((wrap64 ((wrap64 (16*La))+Lb))%256) true _ A35.out) fun nd=>?_)|((with_reducible refine iF (b:=.append) (xs:=#[.tmp 60,.tmp 62]) rfl ?_);(try(refine mH (by rfl) ?_;dsimp only));at_builtin;refine Kd.mG (Kd.int .u8) (w0:=w) w.heap.size rfl (.tmp 60) (.tmp 62) 100 5 (.int .u8 0) 1 rfl Tryz.underlying100 info5 rfl av aa u3 jD ((wrap64 ((wrap64 (16*La))+Lb))%256) [.int .u8 ((wrap64 ((wrap64 (16*La))+Lb))%256)] (fun _=>True) (fun _=>False) rfl rfl ?aP (fun _ hk=>hk.elim) ?aF ?aO ?aB ?aS ?aL ?_;(case aP=>exact rfl);(case aB=>exact dL);(case aF=>exact(fun _ _=>trivial));(case aO=>exact SG);(case aS=>exact(bq dL));(case aL=>have:=aw4.out;omega);intro aI7 tT ho hb hg hat;rw[<- aw6.out] at ho;have xY:=ae.mk (hb);have L8:=ae.mk (ho);clear HB;clear jY;have HB:=xY;have aGQ:=L8;clear xY L8;clear ho hb hg hat))
        go_roundg Oj
        case measure=>have:=mh.out;have:=HJ2.out;omega
        case rel=>exact⟨(aw5),(wrap64 ((M9)+1)),(by first|rfl|(simp;done)|(simp only[<- Sd] <;> (first|rfl|simp))|(simp[*];done)),H,⟨ac1⟩,⟨wh⟩,⟨dL⟩⟩
       ·obtain⟨abx,aby⟩:∃ j_:Int,(((wrap64 ((wrap64 (16*La))+Lb))%256) / 16)=j_:=⟨_,rfl⟩;(first|rw[aby] at H|simp only[aby] at H ⊢)
        (try rw[aby] at A29)
        (try rw[aby] at A34)
        (try rw[aby] at A35)
        replace H:=gN H;obtain⟨-,aGR,-,H⟩:=H;replace H:=gN H;obtain⟨-,aqA,-,H⟩:=H;obtain⟨abz,abA⟩:∃ j_:Int,(Go.bits .and .u8 ((wrap64 ((wrap64 (16*La))+Lb))%256) 15)=j_:=⟨_,rfl⟩;(first|rw[abA] at H|simp only[abA] at H ⊢)
        (try rw[abA] at A29)
        (try rw[abA] at A34)
        (try rw[abA] at A35)
        replace H:=gN H;obtain⟨-,XV,-,H⟩:=H;replace H:=gN H;obtain⟨-,ap8,-,H⟩:=H;obtain⟨abq,abB⟩:∃ y_:List Int,y_=(([37,bt (⟨#[48,49,50,51,52,53,54,55,56,57,65,66,67,68,69,70]⟩:af) (abx),bt (⟨#[48,49,50,51,52,53,54,55,56,57,65,66,67,68,69,70]⟩:af) (abz)]:List Int)):=⟨_,rfl⟩;replace H:(if jD.length+abq.length<140737488355328 then(aI.l0 Oj a0 (jD++abq) (wrap64 ((M9)+1))) else(none))=some r:=by first|(rw[abB];with_reducible exact H)|(have mW:=(aj _ _).symm.trans H;rw[abB];with_reducible exact mW)|(have mW:=(aj _ _).symm.trans H;with_reducible exact mW)|with_reducible exact H|(rw[abB];exact H)|exact H
        have aqB:=ae.mk abB;clear abB;replace H:=gN H;obtain⟨c48,-,-,H⟩:=H;have aw7:=ae.mk c48;clear c48;obtain⟨aw8,abC⟩:∃ y_:List Int,y_=(jD++abq):=⟨_,rfl⟩;replace H:(aI.l0 Oj a0 aw8 (wrap64 ((M9)+1)))=some r:=by first|(rw[abC];with_reducible exact H)|(have mW:=(aj _ _).symm.trans H;rw[abC];with_reducible exact mW)|(have mW:=(aj _ _).symm.trans H;with_reducible exact mW)|with_reducible exact H|(rw[abC];exact H)|exact H
        have aw9:=ae.mk abC;clear abC;replace H:=ae.mk H;try go_wp2
        replace jY:=ae.mk (Kd.bV jY.out);replace HB:=ae.mk (bn HB.out);have p28:0<=((Vy):Int):=aX gq;have q28:(Vy)<(a0.size:Int):=aX gq;have hx28:=dZ a0 (Vy);replace p28:=eq_true p28;replace q28:=eq_true q28;have p33:0<=((M9):Int):=aX gq;have q33:(M9)<(a0.size:Int):=aX gq;have aCC:=dZ a0 (M9);replace p33:=eq_true p33;replace q33:=eq_true q33;refine kJ (n:=14) (S:=fun w'=>True) (ds:=[]) trivial (fun hHeld=>?_);refine dY aI.agB aI.X5 (fun HT_ HW_=>?_);generalize wc.drew=mV at jY HB hHeld ⊢;repeat(first|refine mr ?_ (hy:=Or.inl ⟨by rfl,by intro w' _;go_simp;with_reducible rfl⟩)|refine ek ?_)
        refine bN 6 (some 51) ?_;refine bN 7 (some 52) ?_;refine bN 8 (some 53) ?_;refine fQ 9 (some 54) (hy:=Or.inl ⟨by rfl,by intro w' _;go_simp;with_reducible rfl⟩) ?_;refine gV (fun K hK=>?_);refine lQ Tryz.func219 eB rfl #[.int .u8 (bt a0 (Vy))] (by rfl) rfl rfl (by(try simp only[List.map_toArray,List.map_cons,List.map_nil]);first|done|(simp only[abv];rfl)|rfl|(simp only[List.length_drop,List.length_take];rfl)) ?_;(with_reducible refine(eH.calls Oj (bt a0 (Vy)) La _ A29.out).mono ?_);rintro e w' ⟨rfl,⟨nd,rfl⟩⟩;refine⟨_,rfl,?_⟩;refine hK.out _ _ trivial (fun hHeld=>?_);clear hK K;refine dI ?_;repeat(first|refine ek ?_)
        refine gV (fun K hK=>?_);refine lQ Tryz.func219 eB rfl #[.int .u8 (bt a0 (M9))] (by rfl) rfl rfl (by(try simp only[List.map_toArray,List.map_cons,List.map_nil]);first|done|(simp only[Sd];rfl)|rfl|(simp only[List.length_drop,List.length_take];rfl)) ?_;(with_reducible refine(eH.calls Oj (bt a0 (M9)) Lb _ A34.out).mono ?_);rintro e w' ⟨rfl,⟨nd,rfl⟩⟩;refine⟨_,rfl,?_⟩;refine hK.out _ _ trivial (fun hHeld=>?_);clear hK K;refine dI ?_;repeat(first|refine ek ?_)
        refine lh (gP HT_.out eB) ?_;try go_wp2_with(((with_reducible refine lS 220 rfl ?_);refine MW 59 rfl Tryz.func220 (nR.calls ((wrap64 ((wrap64 (16*La))+Lb))%256) false _ A35.out) fun nd=>?_))
        try simp only[show ∀(w:World) (a b:Nat),(w.drewN a).drewN b=w.drewN (a+b) from fun w a b=>by unfold World.drewN;simp[Nat.add_assoc]]
        (try(rw[qW mV];generalize hq_:World.drewN mV _=mV;have yc:ae (Kd.R (Kd.int .u8) 5 mV w.heap.size (fun _=>True) u3 jD):=⟨by rw[<- hq_];exact SG⟩;have Mj:ae (Below w.heap.size w mV):=⟨by rw[<- hq_];exact dL⟩;clear jY HB hq_;have jY:=yc;have HB:=Mj;clear yc Mj))
        replace jY:=ae.mk (Kd.bV jY.out);replace HB:=ae.mk (bn HB.out);have p43:0<=((abx):Int):=aX gq;have q43:(abx)<(16:Int):=aX gq;have aI8:=dZ (⟨#[48,49,50,51,52,53,54,55,56,57,65,66,67,68,69,70]⟩:af) (abx);replace p43:=eq_true p43;replace q43:=eq_true q43;have p47:0<=((abz):Int):=aX gq;have q47:(abz)<(16:Int):=aX gq;have aI9:=dZ (⟨#[48,49,50,51,52,53,54,55,56,57,65,66,67,68,69,70]⟩:af) (abz);replace p47:=eq_true p47;replace q47:=eq_true q47;try simp only[show ∀ n:Int,IntKind.u8.wrap n=n%256 from fun _=>rfl]
        refine kJ (n:=10) (S:=fun w'=>True) (ds:=[]) trivial (fun hHeld=>?_);refine dY aI.awY aI.atm (fun HT_ HW_=>?_);generalize mV.drew=GH at jY HB hHeld ⊢;repeat(first|refine mr ?_ (hy:=Or.inl ⟨by rfl,by intro w' _;go_simp;with_reducible rfl⟩)|refine ek ?_)
        refine Cf (i:=7) (N:=some 71) #[true,true,true,true,true,true,true,true,false,false] rfl rfl (wD HT_.out eB) av (fun K hK=>?_);refine Kd.Jy (Kd.int .u8) _ 5 ?hg (N:=71) ?hd (xs:=([37,bt (⟨#[48,49,50,51,52,53,54,55,56,57,65,66,67,68,69,70]⟩:af) (abx),bt (⟨#[48,49,50,51,52,53,54,55,56,57,65,66,67,68,69,70]⟩:af) (abz)]:List Int)) (inner:=[.int .u8 37,.int .u8 (bt (⟨#[48,49,50,51,52,53,54,55,56,57,65,66,67,68,69,70]⟩:af) (abx)),.int .u8 (bt (⟨#[48,49,50,51,52,53,54,55,56,57,65,66,67,68,69,70]⟩:af) (abz))]) (ok:=fun _=>True) (okp:=fun _=>True) ?hr ?hp (fun _ hk=>hk) trivial (Below.refl _ _) (Nat.le_refl _) (by simp) ?_;(case hd=>rfl);(case hg=>rfl);(case hr=>first|(go_simp;done)|(go_simp;rfl));(case hp=>exact(iB.one (show Kd.M (Kd.int .u8) _ _ _ 37 [.int .u8 37] from rfl) (iB.one (show Kd.M (Kd.int .u8) _ _ _ (bt (⟨#[48,49,50,51,52,53,54,55,56,57,65,66,67,68,69,70]⟩:af) (abx)) [.int .u8 (bt (⟨#[48,49,50,51,52,53,54,55,56,57,65,66,67,68,69,70]⟩:af) (abx))] from rfl) (iB.one (show Kd.M (Kd.int .u8) _ _ _ (bt (⟨#[48,49,50,51,52,53,54,55,56,57,65,66,67,68,69,70]⟩:af) (abz)) [.int .u8 (bt (⟨#[48,49,50,51,52,53,54,55,56,57,65,66,67,68,69,70]⟩:af) (abz))] from rfl) (iB.none _ _)))));intro aJa LG agG hb hg_ hnew_;clear hg_ hnew_;(first|rw[<- aqB.out] at agG|(simp only[Int.reduceToNat] at agG;rw[<- aqB.out] at agG))
        have Yd:=ae.mk (Kd.gZ (Kd.oF agG (Kd.vG SG)) (bq dL));replace jY:=ae.mk (Kd.EX SG (Kd.nH agG) hb);replace HB:=iC hb;clear hb agG;obtain⟨axa,axb,alQ⟩:=Kd.dE Yd.out;(first|subst alQ|(injection alQ with I1 Q5 I4;have Q6:=I1.symm;have Q7:=I4.symm;clear I1 Q5 I4;subst Q6;subst Q7))
        refine hK.out _ _ trivial (fun hHeld=>?_);clear hK K;refine tK (some 71) ?_;refine Cf (i:=8) (N:=some 72) #[true,true,true,true,true,true,true,true,true,false] rfl rfl (wD HT_.out eB) av (fun K hK=>?_);refine Kd.EY (Kd.int .u8) (w0:=w) w.heap.size (by rfl) (.tmp 64) (.tmp 71) 100 5 (.int .u8 0) 1 rfl Tryz.underlying100 info5 rfl av aa u3 jD abq _ _ _ (fun k_=>some k_≠(.slice axa abq.length axb:Value).ownBlock) (fun _=>False) rfl rfl ?aO ?aR (fun _ _ h=>h) (fun _ h=>h.elim) ?aF ?aB ?aS ?aL ?_;(case aR=>repeat(first|exact(Kd.aJ Yd.out).2.2|(with_reducible refine Kd.oh ?_ _)|(with_reducible refine Kd.om ?_ _)|(with_reducible refine Kd.qX ?_)))
        (case aB=>exact dL)
        (case aF=>exact(fun k_ hk=>Kd.fresh' (Kd.vG (by(with_reducible repeat(first|apply Kd.bR|apply Kd.bP|apply Kd.bV));exact Yd.out)) k_ hk))
        (case aO=>exact(by(with_reducible repeat(first|apply Kd.bR|apply Kd.bP|apply Kd.bV));exact Kd.iR jY.out (fun _ hk=>hk.2)))
        (case aS=>exact(bq dL))
        (case aL=>have:=aw7.out;omega)
        intro aJb M7 ho hb hg hat;rw[<- aw9.out] at ho;have yc:=ae.mk (Kd.Dh (ok:=(fun _=>True)) (by(with_reducible repeat(first|apply Kd.bR|apply Kd.bP|apply Kd.bV));exact Yd.out) hg hat);have Mj:=ae.mk (hb);have aqC:=ae.mk (ho);clear Yd;clear HB;clear jY;have Yd:=yc;have HB:=Mj;have axc:=aqC;clear yc Mj aqC;clear ho hb hg hat;refine hK.out _ _ trivial (fun hHeld=>?_);clear hK K;refine tK (some 72) ?_;repeat(first|refine ek ?_)
        refine lh (gP HT_.out eB) ?_;try go_wp2
        go_roundg Oj
        case measure=>have:=mh.out;have:=HJ2.out;omega
        case rel=>exact⟨(aw8),(wrap64 ((M9)+1)),(by first|rfl|(simp;done)|(simp only[<- Sd] <;> (first|rfl|simp))|(simp[*];done)),H,⟨ac1⟩,⟨by(with_reducible repeat(first|apply Kd.bR|apply Kd.bP|apply Kd.bV));exact Kd.iR axc.out (fun _ hk=>trivial)⟩,⟨dL⟩⟩
   ·obtain rfl:=gK H;have aGS:=xH (P:=Tryz.prog) Tryz.underlying100 Tryz.underlying5 Tryz.underlying9 (Kd.Ao jY.out);go_wp2;go_ret;exact⟨su,dL⟩
@[reducible,instance] def aI.c:=jM.of 0 Tryz.func197 @aI.calls

theorem obE {A:Option Addr} {n c m d:Nat}:(Value.slice A n c).ownBlock=(Value.slice A m d).ownBlock:=by cases A <;> rfl
theorem abD {α:Type} {d:Kd α} {e:Nat} {w:World} {base n m c c2:Nat} {A:Option Addr} {v:Value} {xs:List α} (h:d.R e w base (fun k=>some k≠(Value.slice A n c).ownBlock) v xs):d.R e w base (fun k=>some k≠(Value.slice A m c2).ownBlock) v xs:=
 Kd.iR h (fun k hk=>by rw[obE (m:=n) (d:=c)];exact hk)

mutual
def bu.j0 : Nat->ByteArray->Bool->Option (ByteArray)
 |0,_,_=>none
 |k+1,x0,x24=>if x24=true then(some (⟨#[]⟩:af)) else((aI.f k x0).bind fun adZ=>(if 1<=(adZ.size:Int) then((strings_Split.f (adZ.extract 1 adZ.size) (⟨#[47]⟩:af)).bind fun xG=>(bu.l0 k ([]:List ByteArray) xG xG (xG.length:Int) 0)) else(none)))
def bu.l0 : Nat->List ByteArray->List ByteArray->List ByteArray->Int->Int->Option (ByteArray)
 |0,_,_,_,_,_=>none
 |k+1,x3,x4,x29,x30,x31=>if x31<x30 then(if 0<=x31 then(if x31<(x29.length:Int) then(if(ed ByteArray.empty x29 x31).toList=([46]:aM) then(bu.l0 k x3 x4 x29 x30 (wrap64 (x31+1))) else(if(ed ByteArray.empty x29 x31).toList=([46,46]:aM) then(if 0<=(mx 0 (wrap64 ((x3.length:Int)-1))) then(if(mx 0 (wrap64 ((x3.length:Int)-1)))<=(x3.length:Int) then(bu.l0 k (x3.take ((mx 0 (wrap64 ((x3.length:Int)-1))):Int).toNat) x4 x29 x30 (wrap64 (x31+1))) else(none)) else(none)) else(if x3.length<8796093022208 then(bu.l0 k (x3 ++ [ed ByteArray.empty x29 x31]) x4 x29 x30 (wrap64 (x31+1))) else(none)))) else(none)) else(none)) else(if 0<=(wrap64 ((x4.length:Int)-1)) then(if(wrap64 ((x4.length:Int)-1))<(x4.length:Int) then(if(ed ByteArray.empty x4 (wrap64 ((x4.length:Int)-1))).toList=([46]:aM) then(if x3.length<8796093022208 then((strings_Join.f (x3 ++ [(⟨#[]⟩:af)]) (⟨#[47]⟩:af)).bind fun ad1=>(if 1+ad1.size<=9223372036854775807 then(some ((⟨#[47]⟩:af)++ad1)) else(none))) else(none)) else(if(ed ByteArray.empty x4 (wrap64 ((x4.length:Int)-1))).toList=([46,46]:aM) then(if x3.length<8796093022208 then((strings_Join.f (x3 ++ [(⟨#[]⟩:af)]) (⟨#[47]⟩:af)).bind fun ad2=>(if 1+ad2.size<=9223372036854775807 then(some ((⟨#[47]⟩:af)++ad2)) else(none))) else(none)) else((strings_Join.f x3 (⟨#[47]⟩:af)).bind fun alR=>(if 1+alR.size<=9223372036854775807 then(some ((⟨#[47]⟩:af)++alR)) else(none))))) else(none)) else(none))
end
def bu.f (k:Nat) (a0:ByteArray):Option (ByteArray):=(strings_HasPrefix.f a0 (⟨#[47]⟩:af)).bind fun aCD=>(if aCD=true then(if(a0.size:Int)>200 then(bu.j0 k a0 true) else((bE.f k a0).bind fun aCE=>(if aCE=true then((strings_ContainsAny.f a0 (⟨#[35,63]⟩:af)).bind fun alS=>(bu.j0 k a0 alS)) else(bu.j0 k a0 true)))) else(bu.j0 k a0 true))
theorem bu.e0 {p:Prop} (h:p:=by
  replace H:=ae.mk H
  go_wp2_with(first|((with_reducible refine lS 194 rfl ?_);refine MW 9 rfl Tryz.func194 (strings_HasPrefix.calls a0 (⟨#[47]⟩:af) false _ A3.out) fun nd=>?_)|((with_reducible refine lS 194 rfl ?_);refine MW 9 rfl Tryz.func194 (strings_HasPrefix.calls a0 (⟨#[47]⟩:af) true _ A3.out) fun nd=>?_)|(go_at_call 107;(with_reducible refine(bE.calls k a0  false _ A6.out).mono ?_);rintro e w' ⟨rfl,⟨nd,rfl⟩⟩))
  go_meet
  case rel=>exact⟨_,(true),kD,H,⟨Ld⟩,⟨dL⟩⟩):p:=h
theorem bu.e1 {p:Prop} (h:p:=by
  obtain rfl:=gK H
  have ad3:0<=((ad4):Int):=aX gq
  have ad5:(ad4)<(xG.length:Int):=aX gq
  obtain⟨abE,atn,alT⟩:=Kd.iM (Kd.aJ xc.out).2.2 (ad4) ad3 ad5
  cases atn
  replace ad3:=eq_true ad3
  replace ad5:=eq_true ad5
  go_wp2_with(first|((with_reducible refine iF (b:=.append) (xs:=#[.tmp 63,.tmp 64]) rfl ?_);(try(refine mH (by rfl) ?_;dsimp only));at_builtin;refine Kd.mG Kd.string (w0:=w) w.heap.size rfl (.tmp 63) (.tmp 64) 76 9 (.string ⟨#[]⟩) 16 rfl Tryz.underlying76 Iy rfl av aa u3 rA (⟨#[]⟩:af) [.string (⟨#[]⟩:af)] (fun k_=>some k_≠(.slice (some abE) xG.length WY:Value).ownBlock/\some k_≠(.slice (some abE) xG.length WY:Value).ownBlock) (fun _=>False) rfl rfl ?aP (fun _ hk=>hk.elim) ?aF ?aO ?aB ?aS ?aL ?_;(case aP=>exact rfl);(case aB=>exact dL);(case aF=>exact(fun k_ hk=>⟨Kd.fresh' (Kd.vG WR) k_ hk,Kd.fresh' (Kd.vG age) k_ hk⟩));(case aO=>exact SG);(case aS=>exact(bq dL));(case aL=>have:=abF.out;omega);intro aJc GH ho hb hg hat;rw[<- axd.out] at ho;have abG:=ae.mk (Kd.Dh (ok:=(fun _=>True)) ahi hg hat);have abH:=ae.mk (Kd.Dh (ok:=(fun _=>True)) (by(with_reducible repeat(first|apply Kd.bR|apply Kd.bP|apply Kd.bV));exact Kd.iR Dl.out (fun _ hk=>⟨trivial,hk⟩)) hg hat);have abI:=ae.mk (hb);have aqD:=ae.mk (ho);clear xc;clear Dl;clear HB;clear jY;have xc:=abG;have Dl:=abH;have HB:=abI;have aal:=aqD;clear abG abH abI aqD;clear ho hb hg hat;obtain⟨aCF,aCG,aCH⟩:=Kd.dE aal.out;subst aCH)|((with_reducible refine lS 169 rfl ?_);refine vI (args:=#[.slice aCF ato.length aCG,.string (⟨#[47]⟩:af)]) 67 rfl Tryz.func169 (strings_Join.calls _ _ ato (⟨#[47]⟩:af) ad2 _ zs1 ((Kd.aJ aal.out).2.1) A41.out) fun LG hb _=>?_;replace xc:=ae.mk (Kd.bz WR hb);replace Dl:=ae.mk (Kd.bz age hb);replace aal:=ae.mk (Kd.bz (by(with_reducible repeat(first|apply Kd.bR|apply Kd.bP|apply Kd.bV));exact aal.out) hb);replace HB:=iC hb;(try clear hb);(try clear hk))|((with_reducible refine iF (b:=.append) (xs:=#[.tmp 63,.tmp 64]) rfl ?_);(try(refine mH (by rfl) ?_;dsimp only));at_builtin;refine Kd.mG Kd.string (w0:=w) w.heap.size rfl (.tmp 63) (.tmp 64) 76 9 (.string ⟨#[]⟩) 16 rfl Tryz.underlying76 Iy rfl av aa u3 rA (⟨#[]⟩:af) [.string (⟨#[]⟩:af)] (fun k_=>some k_≠(.slice (some abE) xG.length WY:Value).ownBlock/\some k_≠(.slice (some abE) xG.length WY:Value).ownBlock) (fun _=>False) rfl rfl ?aP (fun _ hk=>hk.elim) ?aF ?aO ?aB ?aS ?aL ?_;(case aP=>exact rfl);(case aB=>exact dL);(case aF=>exact(fun k_ hk=>⟨Kd.fresh' (Kd.vG WR) k_ hk,Kd.fresh' (Kd.vG age) k_ hk⟩));(case aO=>exact SG);(case aS=>exact(bq dL));(case aL=>have:=axe.out;omega);intro aJd tT ho hb hg hat;rw[<- axf.out] at ho;have xY:=ae.mk (Kd.Dh (ok:=(fun _=>True)) ahi hg hat);have L8:=ae.mk (Kd.Dh (ok:=(fun _=>True)) (by(with_reducible repeat(first|apply Kd.bR|apply Kd.bP|apply Kd.bV));exact Kd.iR Dl.out (fun _ hk=>⟨trivial,hk⟩)) hg hat);have abJ:=ae.mk (hb);have aqE:=ae.mk (ho);clear xc;clear Dl;clear HB;clear jY;have xc:=xY;have Dl:=L8;have HB:=abJ;have aam:=aqE;clear xY L8 abJ aqE;clear ho hb hg hat;obtain⟨awO,awP,alJ⟩:=Kd.dE aam.out;subst alJ)|((with_reducible refine lS 169 rfl ?_);refine vI (args:=#[.slice awO atp.length awP,.string (⟨#[47]⟩:af)]) 67 rfl Tryz.func169 (strings_Join.calls _ _ atp (⟨#[47]⟩:af) ad1 _ zs2 ((Kd.aJ aam.out).2.1) A34.out) fun Og hb _=>?_;replace xc:=ae.mk (Kd.bz WR hb);replace Dl:=ae.mk (Kd.bz age hb);replace aam:=ae.mk (Kd.bz (by(with_reducible repeat(first|apply Kd.bR|apply Kd.bP|apply Kd.bV));exact aam.out) hb);replace HB:=iC hb;(try clear hb);(try clear hk)))
  go_ret
  exact⟨by first|rfl|(simp[iN,iO] <;> rfl)|(simp only[<- abK];first|rfl|(simp[iN,iO] <;> rfl))|(simp[*,iN,iO] <;> rfl),dL⟩):p:=h
theorem bu.calls (k:Nat) (a0 r:ByteArray) (w:World) (h:bu.f k a0=some r) :
  Calls Tryz.prog 152 #[.string a0] w fun e w'=>e = .returned (.string r)/\Below w.heap.size w w':=by
 have HB:=ae.mk (Below.refl w.heap.size w);have H:=h;clear h;unfold bu.f at H;have vv:=ae.mk H;clear H;go_enter Tryz.func152,Tryz.ntmps152;go_upto_region 1 with(fail);go_cut [24] (fun v24 wc=>∃(kq:Nat) (ajn:Bool),v24 = .bool ajn/\ae (bu.j0 kq a0 ajn=some r)/\ae (kq<=k)/\ae (Below w.heap.size w wc))
 case first=>
  have H:=vv.out;clear vv;replace H:=WU H;rcases H with⟨A3,H⟩|⟨A3,H⟩
  ·replace H:=gI H;rcases H with⟨c5,-,-,H⟩|⟨c5,-,-,H⟩
   ·have xW:decide (200<(a0.size:Int))=true:=aQ c5;have LW:decide (200<a0.size)=true:=aQ aa;clear c5;(first|rw[xW]|(simp only[jJ,lY];rw[xW])|skip)
    exact bu.e0
   ·have xW:decide (200<(a0.size:Int))=false:=aT c5;have LW:decide (200<a0.size)=false:=aT aa;clear c5;(first|rw[xW]|(simp only[jJ,lY];rw[xW])|skip)
    replace H:=WU H;rcases H with⟨A6,H⟩|⟨A6,H⟩
    ·replace H:=gD H;obtain⟨alS,A8,H⟩:=H;replace H:=ae.mk H;go_wp2_with(first|((with_reducible refine lS 194 rfl ?_);refine MW 9 rfl Tryz.func194 (strings_HasPrefix.calls a0 (⟨#[47]⟩:af) true _ A3.out) fun nd=>?_)|(go_at_call 107;(with_reducible refine(bE.calls k a0  true _ A6.out).mono ?_);rintro e w' ⟨rfl,⟨nd,rfl⟩⟩)|(go_at_call 195;(with_reducible refine(strings_ContainsAny.calls a0 (⟨#[35,63]⟩:af) alS _ A8.out).mono ?_);rintro e mo ⟨rfl,hb⟩;replace HB:=iC hb;clear hb));go_meet
     case rel=>exact⟨_,(alS),kD,H,⟨Ld⟩,⟨dL⟩⟩
    ·exact bu.e0
  ·exact bu.e0
 case rest=>
  clear vv;obtain⟨kq,ajn,rfl,HA,Ch,HB⟩:=hcut;cases kq with
  |zero=>exact absurd HA.out (by simp[bu.j0])
  |succ vC=>
   have H:=HA.out;clear HA;simp only[bu.j0] at H;replace H:=gB H;rcases H with⟨rfl,H⟩|⟨rfl,H⟩
   ·obtain rfl:=gK H;go_wp2;go_ret;exact⟨su,dL⟩
   ·replace H:=gD H;obtain⟨adZ,A11,H⟩:=H;replace H:=gI H;rcases H with⟨-,Nk,Ab,H⟩|⟨c12,-,-,H⟩
    ·replace H:=gD H;obtain⟨xG,A13,H⟩:=H;replace H:=ae.mk H;go_wp2_with(first|((with_reducible refine lS 197 rfl ?_);refine vI 26 rfl Tryz.func197 (aI.calls vC a0 adZ _ A11.out) fun w14 hb HB=>?_;clear hb)|((with_reducible refine lS 196 rfl ?_);refine WK 28 rfl Tryz.func196 (strings_Split.calls (adZ.extract 1 adZ.size) (⟨#[47]⟩:af) xG _ A13.out) ?_;rintro e w15 ⟨aJe,rfl,ho0,hb⟩;refine⟨_,rfl,?_⟩;have ajo:=ae.mk (Kd.gZ ho0 (bq dL));replace HB:=iC hb;clear hb;(try clear ho0);obtain⟨alU,WY,aCI⟩:=Kd.dE ajo.out;subst aCI));go_loopg [3,31] vC (fun kq v3 v31 w'=>∃(rA:List ByteArray) (Ae:Int),v31 = .int .i64 Ae/\ae (bu.l0 kq rA xG xG (xG.length:Int) Ae=some r)/\ae (kq<=vC)/\ae (Kd.R Kd.string 9 w' w.heap.size (fun k_=>some k_≠((.slice alU xG.length WY):Value).ownBlock/\some k_≠((.slice alU xG.length WY):Value).ownBlock) v3 rA)/\ae (Kd.R Kd.string 9 w' w.heap.size (fun k_=>some k_≠(v3:Value).ownBlock) (.slice alU xG.length WY) xG)/\ae (Kd.R Kd.string 9 w' w.heap.size (fun k_=>some k_≠(v3:Value).ownBlock) (.slice alU xG.length WY) xG)/\ae (Below w.heap.size w w'))
     case atStart=>exact⟨(([]:List ByteArray)),(0),kD,H,⟨Nat.le_refl _⟩,⟨Pe⟩,⟨by(with_reducible repeat(first|apply Kd.bR|apply Kd.bP|apply Kd.bV));exact Kd.iR ajo.out (fun _ hk=>(by simp[Value.ownBlock]))⟩,⟨by(with_reducible repeat(first|apply Kd.bR|apply Kd.bP|apply Kd.bV));exact Kd.iR ajo.out (fun _ hk=>(by simp[Value.ownBlock]))⟩,⟨dL⟩⟩
     case round=>
      clear H;try clear c12
      try clear Ab
      try clear Nk
      obtain⟨rA,Ae,rfl,HA,Cv,jY,xc,Dl,HB⟩:=hrel;cases gk with
      |zero=>exact absurd HA.out (by simp[bu.l0])
      |succ k2=>
       have H:=HA.out;clear HA;simp only[bu.l0] at H;replace H:=gI H;rcases H with⟨-,BG,-,H⟩|⟨-,BG,-,H⟩
       ·replace H:=gN H;obtain⟨-,PM,-,H⟩:=H;replace H:=gN H;obtain⟨-,KY,-,H⟩:=H;replace H:=gI H;rcases H with⟨c20,-,-,H⟩|⟨c20,-,-,H⟩
        ·obtain⟨KZ,Nn⟩:=Cu c20;clear c20;replace H:=ae.mk H;have Vz:0<=(Ae:Int):=aX gq;have VA:Ae<(xG.length:Int):=aX gq;obtain⟨ae9,ajp,afa⟩:=Kd.iM (Kd.aJ Dl.out).2.2 Ae Vz VA;cases ajp
         replace Vz:=eq_true Vz;replace VA:=eq_true VA;go_wp2;go_roundg k2
         case measure=>have:=Ch.out;have:=Cv.out;omega
         case rel=>exact⟨(rA),(wrap64 (Ae+1)),kD,H,⟨aaj⟩,⟨wh⟩,⟨wh⟩,⟨wh⟩,⟨dL⟩⟩
        ·obtain⟨KZ,Nn⟩:=Di c20;replace H:=gI H;rcases H with⟨c21,-,-,H⟩|⟨c21,-,-,H⟩
         ·obtain⟨Ac,K3⟩:=Cu c21;clear c21;obtain⟨agH,ajq⟩:∃ j_:Int,(mx 0 (wrap64 ((rA.length:Int)-1)))=j_:=⟨_,rfl⟩;(first|rw[ajq] at H|simp only[ajq] at H ⊢)
          have aCJ:(if 0<(wrap64 ((rA.length:Int)-1)) then(wrap64 ((rA.length:Int)-1)) else 0)=agH:=ajq;replace H:=gN H;obtain⟨-,aeH,XX,H⟩:=H;replace H:=gN H;obtain⟨-,Vp,GZ,H⟩:=H;obtain⟨atq,abL⟩:∃ y_:List ByteArray,y_=(rA.take ((agH):Int).toNat):=⟨_,rfl⟩;replace H:(bu.l0 k2 atq xG xG (xG.length:Int) (wrap64 (Ae+1)))=some r:=by first|(rw[abL];with_reducible exact H)|(have mW:=(aj _ _).symm.trans H;rw[abL];with_reducible exact mW)|(have mW:=(aj _ _).symm.trans H;with_reducible exact mW)|with_reducible exact H|(rw[abL];exact H)|exact H
          have aqF:=ae.mk abL;clear abL;replace H:=ae.mk H;have Vz:0<=(Ae:Int):=aX gq;have VA:Ae<(xG.length:Int):=aX gq;obtain⟨ae9,ajp,afa⟩:=Kd.iM (Kd.aJ Dl.out).2.2 Ae Vz VA;cases ajp
          replace Vz:=eq_true Vz;replace VA:=eq_true VA;obtain⟨axg,axh,atr⟩:=Kd.dE jY.out;subst atr;have q26:((agH):Int)<=((rA.length:Int):Int):=aX gq;obtain⟨aJf,aqG,_,axi,_⟩:=info_parts Iy;have att:=ag3 (P:=Tryz.prog) 76 9 .i64 Tryz.underlying76 aqG axg rA.length axh (agH) (aX gq) q26 (Kd.aJ jY.out).2.1;have alV:=Kd.ag5 (m:=((agH):Int).toNat) jY.out aa;have axj:atq.length=((agH):Int).toNat:=(by rw[aqF.out,List.length_take];omega);rw[<- aqF.out] at alV;rw[<- axj] at alV att;clear axj aqG axi jY;have aGT:=ae.mk alV;clear alV;replace q26:=eq_true q26;go_wp2;go_roundg k2
          case measure=>have:=Ch.out;have:=Cv.out;omega
          case rel=>exact⟨(atq),(wrap64 (Ae+1)),kD,H,⟨aaj⟩,⟨by first|exact wh|exact abD (ae.out (by assumption))⟩,⟨by first|exact wh|exact abD (ae.out (by assumption))⟩,⟨by first|exact wh|exact abD (ae.out (by assumption))⟩,⟨dL⟩⟩
         ·obtain⟨Ac,K3⟩:=Di c21;replace H:=gN H;obtain⟨c27,-,-,H⟩:=H;have ajr:=ae.mk c27;clear c27;obtain⟨axk,abM⟩:∃ y_:List ByteArray,y_=(rA ++ [ed ByteArray.empty xG Ae]):=⟨_,rfl⟩;replace H:(bu.l0 k2 axk xG xG (xG.length:Int) (wrap64 (Ae+1)))=some r:=by first|(rw[abM];with_reducible exact H)|(have mW:=(aj _ _).symm.trans H;rw[abM];with_reducible exact mW)|(have mW:=(aj _ _).symm.trans H;with_reducible exact mW)|with_reducible exact H|(rw[abM];exact H)|exact H
          have axl:=ae.mk abM;clear abM;replace H:=ae.mk H;have Vz:0<=(Ae:Int):=aX gq;have VA:Ae<(xG.length:Int):=aX gq;obtain⟨ae9,ajp,afa⟩:=Kd.iM (Kd.aJ Dl.out).2.2 Ae Vz VA;cases ajp
          replace Vz:=eq_true Vz;replace VA:=eq_true VA;go_wp2_with(((with_reducible refine iF (b:=.append) (xs:=#[.tmp 36,.tmp 38]) rfl ?_);(try(refine mH (by rfl) ?_;dsimp only));at_builtin;refine Kd.mG Kd.string (w0:=w) w.heap.size rfl (.tmp 36) (.tmp 38) 76 9 (.string ⟨#[]⟩) 16 rfl Tryz.underlying76 Iy rfl av aa u3 rA (ed ByteArray.empty xG Ae) [.string (ed ByteArray.empty xG Ae)] (fun k_=>some k_≠(.slice (some ae9) xG.length WY:Value).ownBlock/\some k_≠(.slice (some ae9) xG.length WY:Value).ownBlock) (fun _=>False) rfl rfl ?aP (fun _ hk=>hk.elim) ?aF ?aO ?aB ?aS ?aL ?_;(case aP=>exact rfl);(case aB=>exact dL);(case aF=>exact(fun k_ hk=>⟨Kd.fresh' (Kd.vG WR) k_ hk,Kd.fresh' (Kd.vG age) k_ hk⟩));(case aO=>exact SG);(case aS=>exact(bq dL));(case aL=>have:=ajr.out;omega);intro aJg mV ho hb hg hat;rw[<- axl.out] at ho;have LZ:=ae.mk (Kd.Dh (ok:=(fun _=>True)) ahi hg hat);have L6:=ae.mk (Kd.Dh (ok:=(fun _=>True)) (by(with_reducible repeat(first|apply Kd.bR|apply Kd.bP|apply Kd.bV));exact Kd.iR Dl.out (fun _ hk=>⟨trivial,hk⟩)) hg hat);have abN:=ae.mk (hb);have aqH:=ae.mk (ho);clear xc;clear Dl;clear HB;clear jY;have xc:=LZ;have Dl:=L6;have HB:=abN;have aGU:=aqH;clear LZ L6 abN aqH;clear ho hb hg hat));go_roundg k2
          case measure=>have:=Ch.out;have:=Cv.out;omega
          case rel=>exact⟨(axk),(wrap64 (Ae+1)),kD,H,⟨aaj⟩,⟨wh⟩,⟨by(with_reducible repeat(first|apply Kd.bR|apply Kd.bP|apply Kd.bV));exact Kd.iR xc.out (fun _ hk=>hk.2)⟩,⟨by(with_reducible repeat(first|apply Kd.bR|apply Kd.bP|apply Kd.bV));exact Kd.iR Dl.out (fun _ hk=>hk.2)⟩,⟨dL⟩⟩
       ·obtain⟨ad4,abK⟩:∃ j_:Int,(wrap64 ((xG.length:Int)-1))=j_:=⟨_,rfl⟩;(first|rw[abK] at H|simp only[abK] at H ⊢)
        have aCK:(IntKind.i64.wrap ((xG.length:Int)-1))=ad4:=(jJ _).trans abK;replace H:=gN H;obtain⟨-,RY,-,H⟩:=H;replace H:=gN H;obtain⟨-,aqu,-,H⟩:=H;replace H:=gI H;rcases H with⟨c32,-,-,H⟩|⟨c32,-,-,H⟩
        ·obtain⟨X6,abj⟩:=Cu c32;clear c32;replace H:=gN H;obtain⟨c33,-,-,H⟩:=H;have axe:=ae.mk c33;clear c33;obtain⟨atp,abO⟩:∃ y_:List ByteArray,y_=(rA ++ [(⟨#[]⟩:af)]):=⟨_,rfl⟩;replace H:((strings_Join.f atp (⟨#[47]⟩:af)).bind fun ad1=>(if 1+ad1.size<=9223372036854775807 then(some ((⟨#[47]⟩:af)++ad1)) else(none)))=some r:=by first|(rw[abO];with_reducible exact H)|(have mW:=(aj _ _).symm.trans H;rw[abO];with_reducible exact mW)|(have mW:=(aj _ _).symm.trans H;with_reducible exact mW)|with_reducible exact H|(rw[abO];exact H)|exact H
         have axf:=ae.mk abO;clear abO;replace H:=gD H;obtain⟨ad1,A34,H⟩:=H;replace H:=gN H;obtain⟨c35,aqI,aqJ,H⟩:=H;try have aGV:=eq_false (Nat.not_lt.2 c35)
         exact bu.e1
        ·obtain⟨X6,abj⟩:=Di c32;replace H:=gI H;rcases H with⟨c39,-,-,H⟩|⟨c39,-,-,H⟩
         ·obtain⟨abP,abQ⟩:=Cu c39;clear c39;replace H:=gN H;obtain⟨c40,-,-,H⟩:=H;have abF:=ae.mk c40;clear c40;obtain⟨ato,abR⟩:∃ y_:List ByteArray,y_=(rA ++ [(⟨#[]⟩:af)]):=⟨_,rfl⟩;replace H:((strings_Join.f ato (⟨#[47]⟩:af)).bind fun ad2=>(if 1+ad2.size<=9223372036854775807 then(some ((⟨#[47]⟩:af)++ad2)) else(none)))=some r:=by first|(rw[abR];with_reducible exact H)|(have mW:=(aj _ _).symm.trans H;rw[abR];with_reducible exact mW)|(have mW:=(aj _ _).symm.trans H;with_reducible exact mW)|with_reducible exact H|(rw[abR];exact H)|exact H
          have axd:=ae.mk abR;clear abR;replace H:=gD H;obtain⟨ad2,A41,H⟩:=H;replace H:=gN H;obtain⟨c42,aGW,aqA,H⟩:=H;try have aGX:=eq_false (Nat.not_lt.2 c42)
          exact bu.e1
         ·obtain⟨abP,abQ⟩:=Di c39;replace H:=gD H;obtain⟨alR,A46,H⟩:=H;replace H:=gN H;obtain⟨c47,aqK,Sg,H⟩:=H;try have aGY:=eq_false (Nat.not_lt.2 c47)
          obtain rfl:=gK H;have ad3:0<=((ad4):Int):=aX gq;have ad5:(ad4)<(xG.length:Int):=aX gq;obtain⟨abE,atn,alT⟩:=Kd.iM (Kd.aJ xc.out).2.2 (ad4) ad3 ad5;cases atn
          replace ad3:=eq_true ad3;replace ad5:=eq_true ad5;obtain⟨aCL,aCM,aCN⟩:=Kd.dE jY.out;subst aCN;go_wp2_with(((with_reducible refine lS 169 rfl ?_);refine vI (args:=#[.slice aCL rA.length aCM,.string (⟨#[47]⟩:af)]) 67 rfl Tryz.func169 (strings_Join.calls _ _ rA (⟨#[47]⟩:af) alR _ zs3 ((Kd.aJ jY.out).2.1) A46.out) fun M7 hb HB=>?_;replace jY:=ae.mk (Kd.bz SG hb);replace xc:=ae.mk (Kd.bz WR hb);replace Dl:=ae.mk (Kd.bz age hb);clear hb));go_ret;exact⟨by first|rfl|(simp[iN,iO] <;> rfl)|(simp only[<- abK];first|rfl|(simp[iN,iO] <;> rfl))|(simp[*,iN,iO] <;> rfl),dL⟩
    ·exact absurd H (by simp)
@[reducible,instance] def bu.c:=jM.of 0 Tryz.func152 @bu.calls


def oQ.f (a0:Int):Option (Bool):=(qE.f a0).bind fun aCO=>(if aCO=true then(some true) else((gF.f a0).bind fun aCP=>(if aCP=true then(some true) else(if a0=45 then(some true) else(some (a0==46))))))
theorem oQ.calls (a0:Int) (r:Bool) (w:World) (h:oQ.f a0=some r) :
  Calls Tryz.prog 221 #[.int .u8 a0] w fun e w'=>e = .returned (.bool r)/\bL w w':=by
 unfold oQ.f at h;exact uA
@[reducible,instance] def oQ.c:=jM.of 0 Tryz.func221 @oQ.calls

def cK.l0 : Nat->ByteArray->Int->Option (Bool)
 |0,_,_=>none
 |k+1,x0,x5=>if x5<(x0.size:Int) then(if 0<=x5 then((oQ.f (bt x0 x5)).bind fun aCQ=>(if aCQ=true then(cK.l0 k x0 (wrap64 (x5+1))) else(some false))) else(none)) else(some true)
def cK.f (k:Nat) (a0:ByteArray)  : Option (Bool):=cK.l0 k a0 0
theorem cK.calls (k:Nat) (a0:ByteArray)  (r:Bool) (w:World) (h:cK.f k a0=some r) :
  Calls Tryz.prog 107 #[.string a0,.func (.func 221) #[] #[]] w fun e w'=>e = .returned (.bool r)/\bL w w':=by
 have H:=ae.mk h;clear h;unfold cK.f at H;go_enter Tryz.func107,Tryz.ntmps107;go_wp2;go_loopg [5] k (fun kq v5 w'=>∃(gH:Int),v5 = .int .i64 gH/\ae (cK.l0 kq a0 gH=some r)/\ae (kq<=k)/\bL w w')
 case atStart=>exact⟨(0),kD,H,⟨Nat.le_refl _⟩,TP⟩
 case round=>
  clear H;obtain⟨gH,rfl,HA,mh,⟨m1,rfl⟩⟩:=hrel;cases gk with
  |zero=>exact absurd HA.out (by simp[cK.l0])
  |succ k1=>
   have H:=HA;clear HA;simp only[cK.l0] at H;exact uW
@[reducible,instance] def cK.c:=jM.of 4 Tryz.func107 @cK.calls

def iW.j0 : Nat->ByteArray->Bool->Option (Bool)
 |0,_,_=>none
 |k+1,x0,x11=>if x11=true then(some false) else((strings_Split.f x0 (⟨#[46]⟩:af)).bind fun aCR=>((fI.f k aCR (⟨#[]⟩:af)).bind fun aCS=>(some (!aCS))))
def iW.f (k:Nat) (a0:ByteArray):Option (Bool):=(dB.f (a0.size:Int) 1 60).bind fun aCT=>(if aCT=true then((cK.f k a0).bind fun aCU=>(iW.j0 k a0 (!aCU))) else(iW.j0 k a0 true))
theorem iW.calls (k:Nat) (a0:ByteArray) (r:Bool) (w:World) (h:iW.f k a0=some r) :
  Calls Tryz.prog 198 #[.string a0] w fun e w'=>e = .returned (.bool r)/\Below w.heap.size w w':=by
 have HB:=ae.mk (Below.refl w.heap.size w);have H:=ae.mk h;clear h;unfold iW.f at H;have vv:=H;clear H;go_enter Tryz.func198,Tryz.ntmps198;go_upto_region 1 with(fail);go_cut [11] (fun v11 wc=>∃(kq:Nat) (VB:Bool),v11 = .bool VB/\ae (iW.j0 kq a0 VB=some r)/\ae (kq<=k)/\ae (Below w.heap.size w wc))
 case first=>
  have H:=vv;clear vv;exact uW
 case rest=>
  clear vv;obtain⟨kq,VB,rfl,HA,Ch,HB⟩:=hcut;cases kq with
  |zero=>exact absurd HA.out (by simp[iW.j0])
  |succ vC=>
   have H:=HA;clear HA;simp only[iW.j0] at H;exact uW
@[reducible,instance] def iW.c:=jM.of 0 Tryz.func198 @iW.calls

def nZ.f (az:ByteArray) (aA:Int) (aC:ByteArray) (bI:ByteArray) (aG:Bool):Option (ByteArray):=if aA=80 then(some (⟨#[]⟩:af)) else((iw.f aA).bind fun axm=>(if 1+axm.size<=9223372036854775807 then(some ((⟨#[58]⟩:af)++axm)) else(none)))
theorem nZ.calls (az:ByteArray) (aA:Int) (aC bI:ByteArray) (aG:Bool) (r:ByteArray) (w:World) (h:nZ.f az aA aC bI aG=some r) (HT0:nN w) :
  Calls Tryz.prog 154 #[.agg #[.string az,.int .i64 aA,.string aC,.string bI,.bool aG]] w fun e w'=>e = .returned (.string r)/\Below w.heap.size w w':=by
 have HT:=ae.mk HT0;clear HT0;have Ro:=Tryz.underlying92;unfold nZ.f at h;exact uA
@[reducible,instance] def nZ.c:=jM.of 0 Tryz.func154 @nZ.calls

def qF.f (az:ByteArray) (aA:Int) (aC:ByteArray) (bI:ByteArray) (aG:Bool):Option (ByteArray):=if aG=true then(if aC.size+1<=9223372036854775807 then(if(aC++(⟨#[63]⟩:af)).size+bI.size<=9223372036854775807 then(some ((aC++(⟨#[63]⟩:af))++bI)) else(none)) else(none)) else(some aC)
theorem qF.calls (az:ByteArray) (aA:Int) (aC bI:ByteArray) (aG:Bool) (r:ByteArray) (w:World) (h:qF.f az aA aC bI aG=some r) :
  Calls Tryz.prog 155 #[.agg #[.string az,.int .i64 aA,.string aC,.string bI,.bool aG]] w fun e w'=>e = .returned (.string r)/\Below w.heap.size w w':=by
 have Ro:=Tryz.underlying92;unfold qF.f at h;exact uA
@[reducible,instance] def qF.c:=jM.of 0 Tryz.func155 @qF.calls

end Go.Proofs.YtfhllanhldbkkaaGreatDoor.P
namespace Go.Proofs.YtfhllanhldbkkaaGreatDoor.P
open Go.RowKit Go.Proofs.YtfhllanhldbkkaaGreatDoorW.aW Go.Proofs.YtfhllanhldbkkaaGreatDoorW.eQ Go.Proofs.YtfhllanhldbkkaaGreatDoorW.fO
attribute [local go_sem] kV kW mE mF jP jQ kX kY   -- for this text's walks alone
set_option linter.unusedVariables false
set_option linter.unusedSimpArgs false

def jh.f (az:ByteArray) (aA:Int) (aC:ByteArray) (bI:ByteArray) (aG:Bool):Option (ByteArray):=if 7+az.size<=9223372036854775807 then((nZ.f az aA aC bI aG).bind fun ajs=>(if((⟨#[104,116,116,112,58,47,47]⟩:af)++az).size+ajs.size<=9223372036854775807 then((qF.f az aA aC bI aG).bind fun alW=>(if(((⟨#[104,116,116,112,58,47,47]⟩:af)++az)++ajs).size+alW.size<=9223372036854775807 then(some ((((⟨#[104,116,116,112,58,47,47]⟩:af)++az)++ajs)++alW)) else(none))) else(none))) else(none)
def jh.T1 : Bool×List (List Nat×List Nat):=(true,[([],[]),([0],[0]),([1],[1]),([],[]),([3],[3]),([2,4],[2,4]),([],[]),([6,4],[6]),([5,7],[5,7]),([8,7,0,1,2,3,4,5,6,7,8],[8])])
def jh.B1 : List Nat:=[0,1,3,0,8,31,0,88,255,511]
theorem jh.El : pX .any (opsOf Tryz.f105 1)=jh.T1:=by kernel_rfl
theorem jh.xn : jK jh.T1.2 jh.B1=true:=by kernel_rfl
theorem jh.calls (az:ByteArray) (aA:Int) (aC bI:ByteArray) (aG:Bool) (r:ByteArray) (w:World) (h:jh.f az aA aC bI aG=some r) (HT0:nN w) :
  Calls Tryz.prog 105 #[.agg #[.string az,.int .i64 aA,.string aC,.string bI,.bool aG]] w fun e w'=>e = .returned (.string r)/\Below w.heap.size w w':=by
 have HT:=ae.mk HT0;clear HT0;have Ro:=Tryz.underlying92;have HB:=ae.mk (Below.refl w.heap.size w);have H:=ae.mk h;clear h;unfold jh.f at H;rcases GM H with⟨c2,EG,xU,H⟩|⟨c2,-,-,H⟩
 ·try have alX:=eq_false (Nat.not_lt.2 c2)
  obtain⟨ajs,A3,H⟩:=xE H;obtain⟨c4,Kh,yE,H⟩:=Ci H;try have agw:=eq_false (Nat.not_lt.2 c4)
  try(have VC:=c4;simp only[ByteArray.size_append,yP,List.length_cons,List.length_nil,Nat.zero_add,Nat.reduceAdd] at VC;replace VC:=eq_false (Nat.not_lt.2 VC))
  obtain⟨alW,A5,H⟩:=xE H;obtain⟨c6,M8,xV,H⟩:=Ci H;try have awj:=eq_false (Nat.not_lt.2 c6)
  try(have U9:=c6;simp only[ByteArray.size_append,yP,List.length_cons,List.length_nil,Nat.zero_add,Nat.reduceAdd] at U9;replace U9:=eq_false (Nat.not_lt.2 U9))
  obtain rfl:=gK H.out;go_enter Tryz.func105,Tryz.ntmps105;try go_wp2_with(((with_reducible refine vJ 1 rfl ?_);refine qo #[.string az,.int .i64 aA,.string aC,.string bI,.bool aG] 92 ?_;intro VD hg mo hbox hb;have Ba:=ae.mk (hbox);have aGZ:=rE hg;replace HB:=iC hb;clear hb hbox hg))
  replace Ba:=ae.mk (dh Ba.out);replace HB:=ae.mk (bn HB.out);refine kJ (n:=10) (S:=fun w'=>w'.cell? ⟨VD,0,none⟩=some (.string az)/\w'.cell? ⟨VD,1,none⟩=some (.int .i64 aA)/\w'.cell? ⟨VD,2,none⟩=some (.string aC)/\w'.cell? ⟨VD,3,none⟩=some (.string bI)/\w'.cell? ⟨VD,4,none⟩=some (.bool aG)) (ds:=[]) (tL Ba) (fun hHeld=>?_);refine dY jh.El jh.xn (fun HT_ HW_=>?_);generalize mo.drew=mV at Ba HB hHeld ⊢;repeat(first|refine mr ?_ (hy:=Or.inl ⟨by rfl,Dk⟩)|refine ek ?_)
  refine fQ 6 (some 9) (hy:=Or.inl ⟨by rfl,Dk⟩) ?_;refine gV (fun K hK=>?_);refine EC Tryz.func154 (nZ.calls az aA aC bI aG ajs _ A3.out (kG HT)) fun tT hb=>?_;replace Ba:=jr (g:=VD) hb;replace HB:=iC hb;(try clear hb)
  refine hK.out _ _ (tL Ba) (fun hHeld=>?_);clear hK K;refine dI ?_;repeat(first|refine ek ?_)
  refine gV (fun K hK=>?_);refine EC Tryz.func155 (qF.calls az aA aC bI aG alW _ A5.out) fun tT hb=>?_;replace Ba:=jr (g:=VD) hb;replace HB:=iC hb;(try clear hb)
  refine hK.out _ _ (tL Ba) (fun hHeld=>?_);clear hK K;refine dI ?_;repeat(first|refine ek ?_)
  refine lh (gP HT_.out eB) ?_;try go_wp2
  go_ret;exact⟨su,dL⟩
 ·exact absurd H.out (by simp)
@[reducible,instance] def jh.c:=jM.of 0 Tryz.func105 @jh.calls

end Go.Proofs.YtfhllanhldbkkaaGreatDoor.P
