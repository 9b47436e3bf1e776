import Derived.Test.YtfhllanhldbkkaaGreatDoorPximpl02g
set_option maxHeartbeats 8000000
set_option maxRecDepth 100000
namespace Go.Proofs.YtfhllanhldbkkaaGreatDoor.P
open Go.RowKit Go.Proofs.YtfhllanhldbkkaaGreatDoorW.aW Go.Proofs.YtfhllanhldbkkaaGreatDoorW.eQ Go.Proofs.YtfhllanhldbkkaaGreatDoorW.fO
attribute [local go_sem] kV kW mE mF jP jQ kX kY dZ E8 E9 Fa Fb oU oV
set_option linter.unusedVariables false
set_option linter.unusedSimpArgs false

mutual
def au.j0 : Nat->ByteArray->Bool->Option (Int×Bool)
 |0,_,_=>none
 |k+1,x0,x17=>if x17=true then(some (0,false)) else((bf.f k x0).bind fun dU=>(if(dU.length:Int)=5 then(if 3<=(x0.size:Int) then((gG.f k (x0.extract 3 x0.size)).bind fun aeG=>((strings_IndexByte.f x0 44).bind fun Px=>(if Px>=0 then(if 0<=Px then(if Px<=(x0.size:Int) then((gG.f k (x0.extract (Px:Int).toNat x0.size)).bind fun Nl=>(if 1<(dU.length:Int) then(if 0<(dU.length:Int) then(if 2<(dU.length:Int) then(if 3<(dU.length:Int) then(if 4<(dU.length:Int) then((strings_IndexByte.f x0 45).bind fun aaD=>(if aaD>=0 then(if(wrap64 ((rd dU 1)+1900))<1970 then(au.j1 k x0 (wrap64 ((wrap64 ((rd dU 1)+1900))+100)) Nl (rd dU 0) (rd dU 2) (rd dU 3) (rd dU 4)) else(au.j1 k x0 (wrap64 ((rd dU 1)+1900)) Nl (rd dU 0) (rd dU 2) (rd dU 3) (rd dU 4))) else(au.j1 k x0 (rd dU 1) Nl (rd dU 0) (rd dU 2) (rd dU 3) (rd dU 4)))) else(none)) else(none)) else(none)) else(none)) else(none))) else(none)) else(none)) else(if 4<(dU.length:Int) then(if 0<(dU.length:Int) then(if 1<(dU.length:Int) then(if 2<(dU.length:Int) then(if 3<(dU.length:Int) then(au.j1 k x0 (rd dU 4) aeG (rd dU 0) (rd dU 1) (rd dU 2) (rd dU 3)) else(none)) else(none)) else(none)) else(none)) else(none))))) else(none)) else(some (0,false))))
def au.j1 : Nat->ByteArray->Int->Int->Int->Int->Int->Int->Option (Int×Bool)
 |0,_,_,_,_,_,_,_=>none
 |k+1,x0,ah0,ah1,ah2,ah3,ah4,ah5=>(fF.f k ah0 ah1 ah2 ah3 ah4 ah5).bind fun Oi=>(if Oi.2=true then((gT.f k Oi.1).bind fun ah6=>(if ah6.toList=x0.toList then(some (Oi.1,true)) else((eF.f k Oi.1).bind fun ah7=>(if ah7.toList=x0.toList then(some (Oi.1,true)) else((dW.f k Oi.1).bind fun ah8=>(if ah8.toList=x0.toList then(some (Oi.1,true)) else(some (0,false)))))))) else(some (0,false)))
end
def au.f (k:Nat) (a0:ByteArray):Option (Int×Bool):=if(a0.size:Int)<6 then(au.j0 k a0 true) else(au.j0 k a0 (decide ((a0.size:Int)>40)))
def au.T11 : Bool×List (List Nat×List Nat):=(true,[([],[]),([0],[0]),([1],[1]),([],[]),([],[]),([4],[4]),([5],[5]),([],[]),([7],[7]),([8],[8]),([],[]),([10],[10]),([11],[11]),([],[]),([13],[13]),([14],[14]),([2,3,6,9,12,15],[2,3,6,9,12,15]),([16,0,1,2,3,4,5,6,7,8,9,10,11,12,13,14,15,16],[16])])
def au.B11 : List Nat:=[0,1,3,0,0,16,48,0,128,384,0,1024,3072,0,8192,24576,65535,131071]
theorem au.ah9 : pX .any (opsOf Tryz.f91 11)=au.T11:=by kernel_rfl
theorem au.adm : jK au.T11.2 au.B11=true:=by kernel_rfl
def au.T16 : Bool×List (List Nat×List Nat):=(true,[([],[]),([0],[0]),([1],[1]),([],[]),([],[]),([4],[4]),([5],[5]),([],[]),([7],[7]),([8],[8]),([],[]),([10],[10]),([11],[11]),([],[]),([13],[13]),([14],[14]),([2,3,6,9,12,15],[2,3,6,9,12,15]),([16,0,1,2,3,4,5,6,7,8,9,10,11,12,13,14,15,16],[16])])
def au.B16 : List Nat:=[0,1,3,0,0,16,48,0,128,384,0,1024,3072,0,8192,24576,65535,131071]
theorem au.avD : pX .any (opsOf Tryz.f91 16)=au.T16:=by kernel_rfl
theorem au.asO : jK au.T16.2 au.B16=true:=by kernel_rfl
theorem au.e0 {p:Prop} (h:p:=by
  go_wp2_with(first|((with_reducible refine lS 132 rfl ?_);refine WK 19 rfl Tryz.func132 (bf.calls vC a0 dU _ A5.out) ?_;rintro e aqa ⟨avE,rfl,ho0,hb⟩;refine⟨_,rfl,?_⟩;have jL:=ae.mk (Kd.gZ ho0 (bq dL));replace HB:=iC hb;clear hb;(try clear ho0);obtain⟨aIN,aIO,aAK⟩:=Kd.dE jL.out;subst aAK)|((with_reducible refine lS 135 rfl ?_);refine vI 84 rfl Tryz.func135 (fF.calls kj9 FL FM FN FO FP FQ aaE false _ A65.out) fun aqb hb HB=>?_;replace eY:=jr (g:=pq) hb;clear hb)|((with_reducible refine lS 135 rfl ?_);refine vI 84 rfl Tryz.func135 (fF.calls kj9 FL FM FN FO FP FQ aaE true _ A65.out) fun aF7 hb HB=>?_;replace eY:=jr (g:=pq) hb;clear hb)|(go_at_call 136;(with_reducible refine(gT.calls kj9 aaE ah6 _ A67.out ?hT).mono ?_);(case hT=>exact kG HT);rintro e aF8 ⟨rfl,hb⟩;replace eY:=jr (g:=pq) hb;replace HB:=iC hb;clear hb)|(go_at_call 137;(with_reducible refine(eF.calls kj9 aaE ah7 _ A72.out ?hT).mono ?_);(case hT=>exact kG HT);rintro e aF9 ⟨rfl,hb⟩;replace eY:=jr (g:=pq) hb;replace HB:=iC hb;clear hb)|(go_at_call 138;(with_reducible refine(dW.calls kj9 aaE ah8 _ A78.out ?hT).mono ?_);(case hT=>exact kG HT);rintro e aGa ⟨rfl,hb⟩;replace eY:=jr (g:=pq) hb;replace HB:=iC hb;clear hb))
  go_ret2
  exact⟨su,dL⟩):p:=h
theorem au.calls (k:Nat) (a0:ByteArray) (r1:Int) (r2:Bool) (w:World) (h:au.f k a0=some (r1,r2)) (HT0:nN w) :
  Calls Tryz.prog 91 #[.string a0] w fun e w'=>e = .returned (.tuple #[.int .i64 r1,.bool r2])/\Below w.heap.size w w':=by
 have HT:=ae.mk HT0;clear HT0;have FR:=Tryz.underlying117;have HB:=ae.mk (Below.refl w.heap.size w);have H:=h;clear h;unfold au.f at H;have vv:=ae.mk H;clear H;go_enter Tryz.func91,Tryz.ntmps91;go_upto_region 1 with(fail);go_cut [17] (fun v17 wc=>∃(kq:Nat) (aia:Bool),v17 = .bool aia/\ae (au.j0 kq a0 aia=some (r1,r2))/\ae (kq<=k)/\ae (Below w.heap.size w wc))
 case first=>
  have H:=vv.out;clear vv;replace H:=gI H;rcases H with⟨c3,nS,-,H⟩|⟨c3,nS,-,H⟩
  ·have GI:decide (a0.size<6)=true:=aQ aa;clear c3;(first|rw[nS]|(simp only[jJ,lY];rw[nS])|skip)
   replace H:=ae.mk H;go_wp2;go_meet
   case rel=>exact⟨_,(true),kD,H,⟨Ld⟩,⟨dL⟩⟩
  ·have GI:decide (a0.size<6)=false:=aT aa;clear c3;(first|rw[nS]|(simp only[jJ,lY];rw[nS])|skip)
   replace H:=ae.mk H;go_wp2;go_meet
   case rel=>exact⟨_,(decide ((a0.size:Int)>40)),kD,H,⟨Ld⟩,⟨dL⟩⟩
 case rest=>
  clear vv;obtain⟨kq,aia,rfl,HA,Ch,HB⟩:=hcut;cases kq with
  |zero=>exact absurd HA.out (by simp[au.j0])
  |succ vC=>
   have H:=HA.out;clear HA;simp only[au.j0] at H;replace H:=gB H;rcases H with⟨rfl,H⟩|⟨rfl,H⟩
   ·simp only[Option.some.injEq,Prod.mk.injEq] at H;obtain⟨rfl,rfl⟩:=H;go_wp2;go_ret2;exact⟨su,dL⟩
   ·replace H:=gD H;obtain⟨dU,A5,H⟩:=H;replace H:=gI H;rcases H with⟨c6,-,-,H⟩|⟨c6,-,-,H⟩
    ·obtain⟨xV,M8⟩:=Cu c6;clear c6;replace H:=gN H;obtain⟨-,Zt,Am,H⟩:=H;replace H:=gD H;obtain⟨aeG,A8,H⟩:=H;replace H:=gD H;obtain⟨Px,A9,H⟩:=H;have asP:=ae.mk H;clear H;go_upto_if 29 with(first|((with_reducible refine lS 132 rfl ?_);refine WK 19 rfl Tryz.func132 (bf.calls vC a0 dU _ A5.out) ?_;rintro e Oh ⟨avE,rfl,ho0,hb⟩;refine⟨_,rfl,?_⟩;have qb:=ae.mk (Kd.gZ ho0 (bq dL));have qU:=iC hb;clear HB;have jL:=qb;have HB:=qU;clear qb qU;clear hb;(try clear ho0);obtain⟨auV,auW,asE⟩:=Kd.dE jL.out;subst asE)|((with_reducible refine lS 133 rfl ?_);refine vI 25 rfl Tryz.func133 (gG.calls vC (a0.extract 3 a0.size) aeG _ A8.out (kG HT)) fun Kg hb _=>?_;have qb:=ae.mk (Kd.bz ahl hb);have qU:=iC hb;clear jL;clear HB;have jL:=qb;have HB:=qU;clear qb qU;clear hb)|((with_reducible refine vJ 6 rfl ?_);refine Iz #[.int .i64 0,.int .i64 0,.int .i64 0,.int .i64 0,.int .i64 0,.int .i64 0] 117 ?_;intro pq hg w14 hbox hb;have qb:=ae.mk (Kd.bz ahl hb);have qU:=iC hb;have I5:=ae.mk (hbox);have UW:=rE hg;have n4_:=rE hg;clear jL;clear HB;have jL:=qb;have HB:=qU;have eY:=I5;have aAL:=UW;have aAM:=n4_;clear qb qU I5 UW n4_;clear hb hbox hg)|((with_reducible refine lS 134 rfl ?_);refine MW 27 rfl Tryz.func134 (strings_IndexByte.calls a0 44 Px _ A9.out) fun nd=>?_));(try simp only[Act.put,List.setIfInBounds_toArray,List.set_cons_zero,List.set_cons_succ])
     go_cut [] (fun wc=>∃(kq:Nat) (FL:Int) (FM:Int) (FN:Int) (FO:Int) (FP:Int) (FQ:Int),ae (au.j1 kq a0 FL FM FN FO FP FQ=some (r1,r2))/\ae (kq<=vC)/\ae (wc.heap[pq]? = some (.cells #[.int .i64 FL,.int .i64 FM,.int .i64 FN,.int .i64 FO,.int .i64 FP,.int .i64 FQ] 117 (0,0)))/\ae (Below w.heap.size w wc))
     case first=>
      have H:=asP.out;clear asP;replace H:=gI H;rcases H with⟨-,Cj,-,H⟩|⟨-,Cj,-,H⟩
      ·(first|rw[Cj]|(simp only[jJ,lY];rw[Cj])|skip)
       replace H:=gN H;obtain⟨-,KX,DD,H⟩:=H;replace H:=gN H;obtain⟨-,I6,BG,H⟩:=H;replace H:=gD H;obtain⟨Nl,Zq,H⟩:=H;replace H:=gN H;obtain⟨c19,KY,-,H⟩:=H;have Py:decide (1<dU.length)=true:=aQ aa;clear c19;replace H:=gN H;obtain⟨c20,KZ,-,H⟩:=H;have Nn:decide (0<dU.length)=true:=aQ aa;clear c20;replace H:=gN H;obtain⟨c21,Ac,-,H⟩:=H;have K3:decide (2<dU.length)=true:=aQ aa;clear c21;replace H:=gN H;obtain⟨c22,RU,-,H⟩:=H;have XW:decide (3<dU.length)=true:=aQ aa;clear c22;replace H:=gN H;obtain⟨c23,XX,-,H⟩:=H;have aeH:decide (4<dU.length)=true:=aQ aa;clear c23;replace H:=gD H;obtain⟨aaD,A24,H⟩:=H;replace H:=gI H;rcases H with⟨-,Ck,-,H⟩|⟨-,Ck,-,H⟩
       ·replace H:=gI H;rcases H with⟨-,aaF,-,H⟩|⟨-,aaF,-,H⟩
        ·replace H:=ae.mk H;try go_wp2_with(((with_reducible refine lS 133 rfl ?_);refine vI 33 rfl Tryz.func133 (gG.calls vC (a0.extract (Px:Int).toNat a0.size) Nl _ Zq.out (kG HT)) fun mo hb HB=>?_;replace jL:=ae.mk (Kd.bz ahl hb);replace eY:=jr (g:=pq) hb;clear hb))
         replace jL:=ae.mk (Kd.bV jL.out);replace eY:=ae.mk (dh eY.out);replace HB:=ae.mk (bn HB.out);have LK:0<=(1:Int):=av;have GN:1<(dU.length:Int):=aX gq;obtain⟨iK,aaG,uD⟩:=Kd.uU (Kd.aJ jL.out).2.2 1 LK GN;cases aaG
         (try simp only[show(1:Int).toNat=1 from rfl,Nat.reduceMul,Nat.reduceEqDiff,Go.Addr.add,↓reduceIte] at uD)
         have aib:(1<dU.length)=True:=eq_true (Int.ofNat_lt.1 GN);(try rw[show((1:Int)).toNat=1 from rfl] at uD)
         replace LK:=eq_true LK;replace GN:=eq_true GN;have LP:0<=(0:Int):=av;have GQ:0<(dU.length:Int):=aX gq;obtain⟨UX,aaH,uF⟩:=Kd.uU (Kd.aJ jL.out).2.2 0 LP GQ;obtain rfl:iK=UX:=(by injection aaH);have aic:(0<dU.length)=True:=eq_true (Int.ofNat_lt.1 GQ);(try rw[show((0:Int)).toNat=0 from rfl] at uF)
         (try rw[Addr.add_zero'] at uF)
         replace LP:=eq_true LP;replace GQ:=eq_true GQ;have LQ:0<=(2:Int):=av;have GR:2<(dU.length:Int):=aX gq;obtain⟨UY,aaI,uH⟩:=Kd.uU (Kd.aJ jL.out).2.2 2 LQ GR;obtain rfl:iK=UY:=(by injection aaI);(try simp only[show(2:Int).toNat=2 from rfl,Nat.reduceMul,Nat.reduceEqDiff,Go.Addr.add,↓reduceIte] at uH)
         have aid:(2<dU.length)=True:=eq_true (Int.ofNat_lt.1 GR);(try rw[show((2:Int)).toNat=2 from rfl] at uH)
         replace LQ:=eq_true LQ;replace GR:=eq_true GR;have LU:0<=(3:Int):=av;have GU:3<(dU.length:Int):=aX gq;obtain⟨UZ,aaJ,uI⟩:=Kd.uU (Kd.aJ jL.out).2.2 3 LU GU;obtain rfl:iK=UZ:=(by injection aaJ);(try simp only[show(3:Int).toNat=3 from rfl,Nat.reduceMul,Nat.reduceEqDiff,Go.Addr.add,↓reduceIte] at uI)
         have aie:(3<dU.length)=True:=eq_true (Int.ofNat_lt.1 GU);(try rw[show((3:Int)).toNat=3 from rfl] at uI)
         replace LU:=eq_true LU;replace GU:=eq_true GU;have LV:0<=(4:Int):=av;have GV:4<(dU.length:Int):=aX gq;obtain⟨U0,aaK,uJ⟩:=Kd.uU (Kd.aJ jL.out).2.2 4 LV GV;obtain rfl:iK=U0:=(by injection aaK);(try simp only[show(4:Int).toNat=4 from rfl,Nat.reduceMul,Nat.reduceEqDiff,Go.Addr.add,↓reduceIte] at uJ)
         have aif:(4<dU.length)=True:=eq_true (Int.ofNat_lt.1 GV);(try rw[show((4:Int)).toNat=4 from rfl] at uJ)
         replace LV:=eq_true LV;replace GV:=eq_true GV;refine Ct (n:=18) (S:=fun w'=>w'.cell? ⟨iK.block,iK.off+1,none⟩=some (.int .i64 (rd dU 1))/\w'.cell? iK=some (.int .i64 (rd dU 0))/\w'.cell? ⟨iK.block,iK.off+2,none⟩=some (.int .i64 (rd dU 2))/\w'.cell? ⟨iK.block,iK.off+3,none⟩=some (.int .i64 (rd dU 3))/\w'.cell? ⟨iK.block,iK.off+4,none⟩=some (.int .i64 (rd dU 4))) (ds:=[]) #[false,false,false,false,false,false,false,false,false,false,false,false,false,false,false,false,false,false] eB rfl rfl ⟨uD,uF,uH,uI,uJ⟩ (fun hHeld=>?_);refine dY au.ah9 au.adm (fun HT_ HW_=>?_);generalize mo.drew=mV at jL eY HB uD uF uH uI uJ hHeld ⊢;refine bN 0 (some 34) ?_;refine bN 1 (some 35) ?_;refine bN 3 (some 37) ?_;refine bN 4 (some 38) ?_;refine bN 5 (some 39) ?_;refine bN 7 (some 41) ?_;refine bN 8 (some 42) ?_;refine bN 10 (some 44) ?_;refine bN 11 (some 45) ?_;refine bN 13 (some 47) ?_;refine bN 14 (some 48) ?_;refine fQ 2 (some 36) (hy:=Or.inl ⟨by rfl,Dk⟩) ?_;refine fQ 6 (some 40) (hy:=Or.inl ⟨by rfl,Dk⟩) ?_;refine fQ 9 (some 43) (hy:=Or.inl ⟨by rfl,Dk⟩) ?_;refine fQ 12 (some 46) (hy:=Or.inl ⟨by rfl,Dk⟩) ?_;refine fQ 15 (some 49) (hy:=Or.inl ⟨by rfl,Dk⟩) ?_;refine bN 16 (some 50) ?_;refine Cf (i:=17) (N:=none) #[true,true,true,true,true,true,true,true,true,true,true,true,true,true,true,true,true,true] rfl rfl (wD HT_.out eB) av (fun K hK=>?_);have _:=Js eY;have _:=ah eY.out 0;have aih:=Jt eY;have adn:=ah eY.out 1;have aii:=Qx eY;have ado:=ah eY.out 2;have aij:=QE eY;have adp:=ah eY.out 3;have aik:=QF eY;have adq:=ah eY.out 4;have adr:=Pb eY;have Zu:=ah eY.out 5;refine aad (w1:=?_) (by rfl) rfl ?_ ?_;rotate_left
         ·go_simp
          rfl
         have hne_:iK.block≠pq:=gq1;have cf_:∀(w':World) (o o':Nat) (v:Value),(w'.setCell ⟨pq,o,none⟩ v).cell? ⟨iK.block,o',none⟩=w'.cell? ⟨iK.block,o',none⟩:=fun w' o o' v=>cell_far (p:=⟨pq,o,none⟩) (a:=⟨iK.block,o',none⟩) hne_ v;have cg_:∀(w':World) (o:Nat) (v:Value),(w'.setCell ⟨pq,o,none⟩ v).cell? iK=w'.cell? iK:=fun w' o v=>cell_far (p:=⟨pq,o,none⟩) hne_ v;refine hK.out _ _ (by simp only[cf_,cg_];exact hHeld) (fun hHeld=>?_);clear hne_ cf_ cg_;clear hK K;refine lh (gP HT_.out eB) ?_;try go_wp2_with(((with_reducible refine lS 134 rfl ?_);refine MW 52 rfl Tryz.func134 (strings_IndexByte.calls a0 45 aaD _ A24.out) fun nd=>?_;have _:=TQ eY))
         go_meet
         case rel=>exact⟨_,(wrap64 ((wrap64 ((rd dU 1)+1900))+100)),(Nl),(rd dU 0),(rd dU 2),(rd dU 3),(rd dU 4),H,⟨agh⟩,⟨yz⟩,⟨dL⟩⟩
        ·replace H:=ae.mk H;try go_wp2_with(((with_reducible refine lS 133 rfl ?_);refine vI 33 rfl Tryz.func133 (gG.calls vC (a0.extract (Px:Int).toNat a0.size) Nl _ Zq.out (kG HT)) fun mo hb HB=>?_;replace jL:=ae.mk (Kd.bz ahl hb);replace eY:=jr (g:=pq) hb;clear hb))
         replace jL:=ae.mk (Kd.bV jL.out);replace eY:=ae.mk (dh eY.out);replace HB:=ae.mk (bn HB.out);have LK:0<=(1:Int):=av;have GN:1<(dU.length:Int):=aX gq;obtain⟨iK,aaG,uD⟩:=Kd.uU (Kd.aJ jL.out).2.2 1 LK GN;cases aaG
         (try simp only[show(1:Int).toNat=1 from rfl,Nat.reduceMul,Nat.reduceEqDiff,Go.Addr.add,↓reduceIte] at uD)
         have aib:(1<dU.length)=True:=eq_true (Int.ofNat_lt.1 GN);(try rw[show((1:Int)).toNat=1 from rfl] at uD)
         replace LK:=eq_true LK;replace GN:=eq_true GN;have LP:0<=(0:Int):=av;have GQ:0<(dU.length:Int):=aX gq;obtain⟨UX,aaH,uF⟩:=Kd.uU (Kd.aJ jL.out).2.2 0 LP GQ;obtain rfl:iK=UX:=(by injection aaH);have aic:(0<dU.length)=True:=eq_true (Int.ofNat_lt.1 GQ);(try rw[show((0:Int)).toNat=0 from rfl] at uF)
         (try rw[Addr.add_zero'] at uF)
         replace LP:=eq_true LP;replace GQ:=eq_true GQ;have LQ:0<=(2:Int):=av;have GR:2<(dU.length:Int):=aX gq;obtain⟨UY,aaI,uH⟩:=Kd.uU (Kd.aJ jL.out).2.2 2 LQ GR;obtain rfl:iK=UY:=(by injection aaI);(try simp only[show(2:Int).toNat=2 from rfl,Nat.reduceMul,Nat.reduceEqDiff,Go.Addr.add,↓reduceIte] at uH)
         have aid:(2<dU.length)=True:=eq_true (Int.ofNat_lt.1 GR);(try rw[show((2:Int)).toNat=2 from rfl] at uH)
         replace LQ:=eq_true LQ;replace GR:=eq_true GR;have LU:0<=(3:Int):=av;have GU:3<(dU.length:Int):=aX gq;obtain⟨UZ,aaJ,uI⟩:=Kd.uU (Kd.aJ jL.out).2.2 3 LU GU;obtain rfl:iK=UZ:=(by injection aaJ);(try simp only[show(3:Int).toNat=3 from rfl,Nat.reduceMul,Nat.reduceEqDiff,Go.Addr.add,↓reduceIte] at uI)
         have aie:(3<dU.length)=True:=eq_true (Int.ofNat_lt.1 GU);(try rw[show((3:Int)).toNat=3 from rfl] at uI)
         replace LU:=eq_true LU;replace GU:=eq_true GU;have LV:0<=(4:Int):=av;have GV:4<(dU.length:Int):=aX gq;obtain⟨U0,aaK,uJ⟩:=Kd.uU (Kd.aJ jL.out).2.2 4 LV GV;obtain rfl:iK=U0:=(by injection aaK);(try simp only[show(4:Int).toNat=4 from rfl,Nat.reduceMul,Nat.reduceEqDiff,Go.Addr.add,↓reduceIte] at uJ)
         have aif:(4<dU.length)=True:=eq_true (Int.ofNat_lt.1 GV);(try rw[show((4:Int)).toNat=4 from rfl] at uJ)
         replace LV:=eq_true LV;replace GV:=eq_true GV;refine Ct (n:=18) (S:=fun w'=>w'.cell? ⟨iK.block,iK.off+1,none⟩=some (.int .i64 (rd dU 1))/\w'.cell? iK=some (.int .i64 (rd dU 0))/\w'.cell? ⟨iK.block,iK.off+2,none⟩=some (.int .i64 (rd dU 2))/\w'.cell? ⟨iK.block,iK.off+3,none⟩=some (.int .i64 (rd dU 3))/\w'.cell? ⟨iK.block,iK.off+4,none⟩=some (.int .i64 (rd dU 4))) (ds:=[]) #[false,false,false,false,false,false,false,false,false,false,false,false,false,false,false,false,false,false] eB rfl rfl ⟨uD,uF,uH,uI,uJ⟩ (fun hHeld=>?_);refine dY au.ah9 au.adm (fun HT_ HW_=>?_);generalize mo.drew=mV at jL eY HB uD uF uH uI uJ hHeld ⊢;refine bN 0 (some 34) ?_;refine bN 1 (some 35) ?_;refine bN 3 (some 37) ?_;refine bN 4 (some 38) ?_;refine bN 5 (some 39) ?_;refine bN 7 (some 41) ?_;refine bN 8 (some 42) ?_;refine bN 10 (some 44) ?_;refine bN 11 (some 45) ?_;refine bN 13 (some 47) ?_;refine bN 14 (some 48) ?_;refine fQ 2 (some 36) (hy:=Or.inl ⟨by rfl,Dk⟩) ?_;refine fQ 6 (some 40) (hy:=Or.inl ⟨by rfl,Dk⟩) ?_;refine fQ 9 (some 43) (hy:=Or.inl ⟨by rfl,Dk⟩) ?_;refine fQ 12 (some 46) (hy:=Or.inl ⟨by rfl,Dk⟩) ?_;refine fQ 15 (some 49) (hy:=Or.inl ⟨by rfl,Dk⟩) ?_;refine bN 16 (some 50) ?_;refine Cf (i:=17) (N:=none) #[true,true,true,true,true,true,true,true,true,true,true,true,true,true,true,true,true,true] rfl rfl (wD HT_.out eB) av (fun K hK=>?_);have _:=Js eY;have _:=ah eY.out 0;have aih:=Jt eY;have adn:=ah eY.out 1;have aii:=Qx eY;have ado:=ah eY.out 2;have aij:=QE eY;have adp:=ah eY.out 3;have aik:=QF eY;have adq:=ah eY.out 4;have adr:=Pb eY;have Zu:=ah eY.out 5;refine aad (w1:=?_) (by rfl) rfl ?_ ?_;rotate_left
         ·go_simp
          rfl
         have hne_:iK.block≠pq:=gq1;have cf_:∀(w':World) (o o':Nat) (v:Value),(w'.setCell ⟨pq,o,none⟩ v).cell? ⟨iK.block,o',none⟩=w'.cell? ⟨iK.block,o',none⟩:=fun w' o o' v=>cell_far (p:=⟨pq,o,none⟩) (a:=⟨iK.block,o',none⟩) hne_ v;have cg_:∀(w':World) (o:Nat) (v:Value),(w'.setCell ⟨pq,o,none⟩ v).cell? iK=w'.cell? iK:=fun w' o v=>cell_far (p:=⟨pq,o,none⟩) hne_ v;refine hK.out _ _ (by simp only[cf_,cg_];exact hHeld) (fun hHeld=>?_);clear hne_ cf_ cg_;clear hK K;refine lh (gP HT_.out eB) ?_;try go_wp2_with(((with_reducible refine lS 134 rfl ?_);refine MW 52 rfl Tryz.func134 (strings_IndexByte.calls a0 45 aaD _ A24.out) fun nd=>?_;have _:=TQ eY))
         go_meet
         case rel=>exact⟨_,(wrap64 ((rd dU 1)+1900)),(Nl),(rd dU 0),(rd dU 2),(rd dU 3),(rd dU 4),H,⟨agh⟩,⟨yz⟩,⟨dL⟩⟩
       ·replace H:=ae.mk H;try go_wp2_with(((with_reducible refine lS 133 rfl ?_);refine vI 33 rfl Tryz.func133 (gG.calls vC (a0.extract (Px:Int).toNat a0.size) Nl _ Zq.out (kG HT)) fun mo hb HB=>?_;replace jL:=ae.mk (Kd.bz ahl hb);replace eY:=jr (g:=pq) hb;clear hb))
        replace jL:=ae.mk (Kd.bV jL.out);replace eY:=ae.mk (dh eY.out);replace HB:=ae.mk (bn HB.out);have LK:0<=(1:Int):=av;have GN:1<(dU.length:Int):=aX gq;obtain⟨iK,aaG,uD⟩:=Kd.uU (Kd.aJ jL.out).2.2 1 LK GN;cases aaG
        (try simp only[show(1:Int).toNat=1 from rfl,Nat.reduceMul,Nat.reduceEqDiff,Go.Addr.add,↓reduceIte] at uD)
        have aib:(1<dU.length)=True:=eq_true (Int.ofNat_lt.1 GN);(try rw[show((1:Int)).toNat=1 from rfl] at uD)
        replace LK:=eq_true LK;replace GN:=eq_true GN;have LP:0<=(0:Int):=av;have GQ:0<(dU.length:Int):=aX gq;obtain⟨UX,aaH,uF⟩:=Kd.uU (Kd.aJ jL.out).2.2 0 LP GQ;obtain rfl:iK=UX:=(by injection aaH);have aic:(0<dU.length)=True:=eq_true (Int.ofNat_lt.1 GQ);(try rw[show((0:Int)).toNat=0 from rfl] at uF)
        (try rw[Addr.add_zero'] at uF)
        replace LP:=eq_true LP;replace GQ:=eq_true GQ;have LQ:0<=(2:Int):=av;have GR:2<(dU.length:Int):=aX gq;obtain⟨UY,aaI,uH⟩:=Kd.uU (Kd.aJ jL.out).2.2 2 LQ GR;obtain rfl:iK=UY:=(by injection aaI);(try simp only[show(2:Int).toNat=2 from rfl,Nat.reduceMul,Nat.reduceEqDiff,Go.Addr.add,↓reduceIte] at uH)
        have aid:(2<dU.length)=True:=eq_true (Int.ofNat_lt.1 GR);(try rw[show((2:Int)).toNat=2 from rfl] at uH)
        replace LQ:=eq_true LQ;replace GR:=eq_true GR;have LU:0<=(3:Int):=av;have GU:3<(dU.length:Int):=aX gq;obtain⟨UZ,aaJ,uI⟩:=Kd.uU (Kd.aJ jL.out).2.2 3 LU GU;obtain rfl:iK=UZ:=(by injection aaJ);(try simp only[show(3:Int).toNat=3 from rfl,Nat.reduceMul,Nat.reduceEqDiff,Go.Addr.add,↓reduceIte] at uI)
        have aie:(3<dU.length)=True:=eq_true (Int.ofNat_lt.1 GU);(try rw[show((3:Int)).toNat=3 from rfl] at uI)
        replace LU:=eq_true LU;replace GU:=eq_true GU;have LV:0<=(4:Int):=av;have GV:4<(dU.length:Int):=aX gq;obtain⟨U0,aaK,uJ⟩:=Kd.uU (Kd.aJ jL.out).2.2 4 LV GV;obtain rfl:iK=U0:=(by injection aaK);(try simp only[show(4:Int).toNat=4 from rfl,Nat.reduceMul,Nat.reduceEqDiff,Go.Addr.add,↓reduceIte] at uJ)
        have aif:(4<dU.length)=True:=eq_true (Int.ofNat_lt.1 GV);(try rw[show((4:Int)).toNat=4 from rfl] at uJ)
        replace LV:=eq_true LV;replace GV:=eq_true GV;refine Ct (n:=18) (S:=fun w'=>w'.cell? ⟨iK.block,iK.off+1,none⟩=some (.int .i64 (rd dU 1))/\w'.cell? iK=some (.int .i64 (rd dU 0))/\w'.cell? ⟨iK.block,iK.off+2,none⟩=some (.int .i64 (rd dU 2))/\w'.cell? ⟨iK.block,iK.off+3,none⟩=some (.int .i64 (rd dU 3))/\w'.cell? ⟨iK.block,iK.off+4,none⟩=some (.int .i64 (rd dU 4))) (ds:=[]) #[false,false,false,false,false,false,false,false,false,false,false,false,false,false,false,false,false,false] eB rfl rfl ⟨uD,uF,uH,uI,uJ⟩ (fun hHeld=>?_);refine dY au.ah9 au.adm (fun HT_ HW_=>?_);generalize mo.drew=mV at jL eY HB uD uF uH uI uJ hHeld ⊢;refine bN 0 (some 34) ?_;refine bN 1 (some 35) ?_;refine bN 3 (some 37) ?_;refine bN 4 (some 38) ?_;refine bN 5 (some 39) ?_;refine bN 7 (some 41) ?_;refine bN 8 (some 42) ?_;refine bN 10 (some 44) ?_;refine bN 11 (some 45) ?_;refine bN 13 (some 47) ?_;refine bN 14 (some 48) ?_;refine fQ 2 (some 36) (hy:=Or.inl ⟨by rfl,Dk⟩) ?_;refine fQ 6 (some 40) (hy:=Or.inl ⟨by rfl,Dk⟩) ?_;refine fQ 9 (some 43) (hy:=Or.inl ⟨by rfl,Dk⟩) ?_;refine fQ 12 (some 46) (hy:=Or.inl ⟨by rfl,Dk⟩) ?_;refine fQ 15 (some 49) (hy:=Or.inl ⟨by rfl,Dk⟩) ?_;refine bN 16 (some 50) ?_;refine Cf (i:=17) (N:=none) #[true,true,true,true,true,true,true,true,true,true,true,true,true,true,true,true,true,true] rfl rfl (wD HT_.out eB) av (fun K hK=>?_);have _:=Js eY;have _:=ah eY.out 0;have aih:=Jt eY;have adn:=ah eY.out 1;have aii:=Qx eY;have ado:=ah eY.out 2;have aij:=QE eY;have adp:=ah eY.out 3;have aik:=QF eY;have adq:=ah eY.out 4;have adr:=Pb eY;have Zu:=ah eY.out 5;refine aad (w1:=?_) (by rfl) rfl ?_ ?_;rotate_left
        ·go_simp
         rfl
        have hne_:iK.block≠pq:=gq1;have cf_:∀(w':World) (o o':Nat) (v:Value),(w'.setCell ⟨pq,o,none⟩ v).cell? ⟨iK.block,o',none⟩=w'.cell? ⟨iK.block,o',none⟩:=fun w' o o' v=>cell_far (p:=⟨pq,o,none⟩) (a:=⟨iK.block,o',none⟩) hne_ v;have cg_:∀(w':World) (o:Nat) (v:Value),(w'.setCell ⟨pq,o,none⟩ v).cell? iK=w'.cell? iK:=fun w' o v=>cell_far (p:=⟨pq,o,none⟩) hne_ v;refine hK.out _ _ (by simp only[cf_,cg_];exact hHeld) (fun hHeld=>?_);clear hne_ cf_ cg_;clear hK K;refine lh (gP HT_.out eB) ?_;try go_wp2_with(((with_reducible refine lS 134 rfl ?_);refine MW 52 rfl Tryz.func134 (strings_IndexByte.calls a0 45 aaD _ A24.out) fun nd=>?_))
        go_meet
        case rel=>exact⟨_,(rd dU 1),(Nl),(rd dU 0),(rd dU 2),(rd dU 3),(rd dU 4),H,⟨agh⟩,⟨yz⟩,⟨dL⟩⟩
      ·(first|rw[Cj]|(simp only[jJ,lY];rw[Cj])|skip)
       replace H:=gN H;obtain⟨c53,aqc,-,H⟩:=H;have aqd:decide (4<dU.length)=true:=aQ aa;clear c53;replace H:=gN H;obtain⟨c54,aGb,-,H⟩:=H;have aGc:decide (0<dU.length)=true:=aQ aa;clear c54;replace H:=gN H;obtain⟨c55,aGd,-,H⟩:=H;have aGe:decide (1<dU.length)=true:=aQ aa;clear c55;replace H:=gN H;obtain⟨c56,XY,-,H⟩:=H;have aGf:decide (2<dU.length)=true:=aQ aa;clear c56;replace H:=gN H;obtain⟨c57,avF,-,H⟩:=H;have avG:decide (3<dU.length)=true:=aQ aa;clear c57;replace H:=ae.mk H;try go_wp2
       have hn0:=ae.mk (Kd.bP jL.out nd);have hn1:=ae.mk (jV eY.out nd);have hn2:=ae.mk (EB HB.out nd);clear jL eY HB;generalize w14.drewN nd=aAN at hn0 hn1 hn2 ⊢;have jL:=hn0;have eY:=hn1;have HB:=hn2;clear hn0 hn1 hn2;replace jL:=ae.mk (Kd.bV jL.out);replace eY:=ae.mk (dh eY.out);replace HB:=ae.mk (bn HB.out);have ail:0<=(4:Int):=av;have aeI:4<(dU.length:Int):=aX gq;obtain⟨wV,avH,Pz⟩:=Kd.uU (Kd.aJ jL.out).2.2 4 ail aeI;cases avH
       (try simp only[show(4:Int).toNat=4 from rfl,Nat.reduceMul,Nat.reduceEqDiff,Go.Addr.add,↓reduceIte] at Pz)
       have aAO:(4<dU.length)=True:=eq_true (Int.ofNat_lt.1 aeI);(try rw[show((4:Int)).toNat=4 from rfl] at Pz)
       replace ail:=eq_true ail;replace aeI:=eq_true aeI;have aim:0<=(0:Int):=av;have aeJ:0<(dU.length:Int):=aX gq;obtain⟨asQ,avI,PD⟩:=Kd.uU (Kd.aJ jL.out).2.2 0 aim aeJ;obtain rfl:wV=asQ:=(by injection avI);have aAP:(0<dU.length)=True:=eq_true (Int.ofNat_lt.1 aeJ);(try rw[show((0:Int)).toNat=0 from rfl] at PD)
       (try rw[Addr.add_zero'] at PD)
       replace aim:=eq_true aim;replace aeJ:=eq_true aeJ;have ain:0<=(1:Int):=av;have aeK:1<(dU.length:Int):=aX gq;obtain⟨asR,avJ,PE⟩:=Kd.uU (Kd.aJ jL.out).2.2 1 ain aeK;obtain rfl:wV=asR:=(by injection avJ);(try simp only[show(1:Int).toNat=1 from rfl,Nat.reduceMul,Nat.reduceEqDiff,Go.Addr.add,↓reduceIte] at PE)
       have aAQ:(1<dU.length)=True:=eq_true (Int.ofNat_lt.1 aeK);(try rw[show((1:Int)).toNat=1 from rfl] at PE)
       replace ain:=eq_true ain;replace aeK:=eq_true aeK;have aio:0<=(2:Int):=av;have aeL:2<(dU.length:Int):=aX gq;obtain⟨asS,avK,PG⟩:=Kd.uU (Kd.aJ jL.out).2.2 2 aio aeL;obtain rfl:wV=asS:=(by injection avK);(try simp only[show(2:Int).toNat=2 from rfl,Nat.reduceMul,Nat.reduceEqDiff,Go.Addr.add,↓reduceIte] at PG)
       have aAR:(2<dU.length)=True:=eq_true (Int.ofNat_lt.1 aeL);(try rw[show((2:Int)).toNat=2 from rfl] at PG)
       replace aio:=eq_true aio;replace aeL:=eq_true aeL;have aip:0<=(3:Int):=av;have aeM:3<(dU.length:Int):=aX gq;obtain⟨asT,avL,PH⟩:=Kd.uU (Kd.aJ jL.out).2.2 3 aip aeM;obtain rfl:wV=asT:=(by injection avL);(try simp only[show(3:Int).toNat=3 from rfl,Nat.reduceMul,Nat.reduceEqDiff,Go.Addr.add,↓reduceIte] at PH)
       have aAS:(3<dU.length)=True:=eq_true (Int.ofNat_lt.1 aeM);(try rw[show((3:Int)).toNat=3 from rfl] at PH)
       replace aip:=eq_true aip;replace aeM:=eq_true aeM;refine Ct (n:=18) (S:=fun w'=>w'.cell? ⟨wV.block,wV.off+4,none⟩=some (.int .i64 (rd dU 4))/\w'.cell? wV=some (.int .i64 (rd dU 0))/\w'.cell? ⟨wV.block,wV.off+1,none⟩=some (.int .i64 (rd dU 1))/\w'.cell? ⟨wV.block,wV.off+2,none⟩=some (.int .i64 (rd dU 2))/\w'.cell? ⟨wV.block,wV.off+3,none⟩=some (.int .i64 (rd dU 3))) (ds:=[]) #[false,false,false,false,false,false,false,false,false,false,false,false,false,false,false,false,false,false] eB rfl rfl ⟨Pz,PD,PE,PG,PH⟩ (fun hHeld=>?_);refine dY au.avD au.asO (fun HT_ HW_=>?_);generalize aAN.drew=aGg at jL eY HB Pz PD PE PG PH hHeld ⊢;refine bN 0 (some 65) ?_;refine bN 1 (some 66) ?_;refine bN 3 (some 68) ?_;refine bN 4 (some 69) ?_;refine bN 5 (some 70) ?_;refine bN 7 (some 72) ?_;refine bN 8 (some 73) ?_;refine bN 10 (some 75) ?_;refine bN 11 (some 76) ?_;refine bN 13 (some 78) ?_;refine bN 14 (some 79) ?_;refine fQ 2 (some 67) (hy:=Or.inl ⟨by rfl,Dk⟩) ?_;refine fQ 6 (some 71) (hy:=Or.inl ⟨by rfl,Dk⟩) ?_;refine fQ 9 (some 74) (hy:=Or.inl ⟨by rfl,Dk⟩) ?_;refine fQ 12 (some 77) (hy:=Or.inl ⟨by rfl,Dk⟩) ?_;refine fQ 15 (some 80) (hy:=Or.inl ⟨by rfl,Dk⟩) ?_;refine bN 16 (some 81) ?_;refine Cf (i:=17) (N:=none) #[true,true,true,true,true,true,true,true,true,true,true,true,true,true,true,true,true,true] rfl rfl (wD HT_.out eB) av (fun K hK=>?_);have _:=Js eY;have _:=ah eY.out 0;have aih:=Jt eY;have adn:=ah eY.out 1;have aii:=Qx eY;have ado:=ah eY.out 2;have aij:=QE eY;have adp:=ah eY.out 3;have aik:=QF eY;have adq:=ah eY.out 4;have adr:=Pb eY;have Zu:=ah eY.out 5;refine aad (w1:=?_) (by rfl) rfl ?_ ?_;rotate_left
       ·go_simp
        rfl
       have hne_:wV.block≠pq:=gq1;have cf_:∀(w':World) (o o':Nat) (v:Value),(w'.setCell ⟨pq,o,none⟩ v).cell? ⟨wV.block,o',none⟩=w'.cell? ⟨wV.block,o',none⟩:=fun w' o o' v=>cell_far (p:=⟨pq,o,none⟩) (a:=⟨wV.block,o',none⟩) hne_ v;have cg_:∀(w':World) (o:Nat) (v:Value),(w'.setCell ⟨pq,o,none⟩ v).cell? wV=w'.cell? wV:=fun w' o v=>cell_far (p:=⟨pq,o,none⟩) hne_ v;refine hK.out _ _ (by simp only[cf_,cg_];exact hHeld) (fun hHeld=>?_);clear hne_ cf_ cg_;clear hK K;refine lh (gP HT_.out eB) ?_;try go_wp2
       go_meet
       case rel=>exact⟨_,(rd dU 4),(aeG),(rd dU 0),(rd dU 1),(rd dU 2),(rd dU 3),H,⟨agh⟩,⟨yz⟩,⟨dL⟩⟩
     case rest=>
      clear asP;obtain⟨kq,FL,FM,FN,FO,FP,FQ,HA,HJ9,eY,HB⟩:=hcut;cases kq with
      |zero=>exact absurd HA.out (by simp[au.j1])
      |succ kj9=>
       have H:=HA.out;clear HA;simp only[au.j1] at H;replace H:=gD H;obtain⟨⟨aaE,aGh⟩,A65,H⟩:=H;dsimp only at H;replace H:=gB H;rcases H with⟨rfl,H⟩|⟨rfl,H⟩
       ·replace H:=gD H;obtain⟨ah6,A67,H⟩:=H;replace H:=gI H;rcases H with⟨c68,-,-,H⟩|⟨c68,-,-,H⟩
        ·obtain⟨avM,avN⟩:=Cu c68;clear c68;simp only[Option.some.injEq,Prod.mk.injEq] at H;obtain⟨rfl,rfl⟩:=H;have _:=TQ eY;exact au.e0
        ·obtain⟨avM,avN⟩:=Di c68;replace H:=gD H;obtain⟨ah7,A72,H⟩:=H;replace H:=gI H;rcases H with⟨c73,-,-,H⟩|⟨c73,-,-,H⟩
         ·obtain⟨avO,avP⟩:=Cu c73;clear c73;simp only[Option.some.injEq,Prod.mk.injEq] at H;obtain⟨rfl,rfl⟩:=H;have _:=TQ eY;exact au.e0
         ·obtain⟨avO,avP⟩:=Di c73;replace H:=gD H;obtain⟨ah8,A78,H⟩:=H;replace H:=gI H;rcases H with⟨c79,-,-,H⟩|⟨c79,-,-,H⟩
          ·obtain⟨avQ,avR⟩:=Cu c79;clear c79;simp only[Option.some.injEq,Prod.mk.injEq] at H;obtain⟨rfl,rfl⟩:=H;have _:=TQ eY;exact au.e0
          ·obtain⟨avQ,avR⟩:=Di c79;simp only[Option.some.injEq,Prod.mk.injEq] at H;obtain⟨rfl,rfl⟩:=H;have _:=TQ eY;exact au.e0
       ·simp only[Option.some.injEq,Prod.mk.injEq] at H;obtain⟨rfl,rfl⟩:=H;have _:=TQ eY;exact au.e0
    ·obtain⟨xV,M8⟩:=Di c6;simp only[Option.some.injEq,Prod.mk.injEq] at H;obtain⟨rfl,rfl⟩:=H;exact au.e0
@[reducible,instance] def au.c:=jM.of 0 Tryz.func91 @au.calls


def gM.f (k:Nat) (az:ByteArray) (aA:ByteArray):Option (Bool):=(pz.f k az).bind fun aAT=>(if aAT=true then(if(az.size:Int)<=40 then(if(aA.size:Int)<=190 then((bM.f k aA).bind fun aAU=>(if aAU=true then((dK.f k aA).bind fun asU=>(some (asU.toList==aA.toList))) else(some false))) else(some false)) else(some false)) else(some false))
def gM.T1 : Bool×List (List Nat×List Nat):=(true,[([],[]),([0],[0]),([1],[1]),([2,2],[2]),([3],[3]),([4,3],[3,4]),([5,3],[3,5]),([6,3],[3,6]),([3,7],[3,7]),([8,3],[8]),([9],[9]),([10,9],[9,10]),([11,9],[9,11]),([12,9],[9,12]),([9,13],[9,13]),([14,9],[14]),([15],[15]),([16,15],[15,16]),([17,15,15],[15,17]),([15,18],[15,18]),([19,18],[19]),([20],[20]),([21,20],[20,21]),([22,20,20],[20,22]),([20],[20]),([24,20],[20,24]),([23,25,20],[20,23,25]),([20,26],[20,26]),([27,23,0,1,2,3,4,5,6,7,8,9,10,11,12,13,14,15,16,17,18,19,20,21,22,23,24,25,26,27],[27])])
def gM.B1 : List Nat:=[0,1,3,7,15,31,63,127,255,511,1023,2047,4095,8191,16383,32767,65535,131071,262143,524287,1048575,2097151,4194303,8388607,2097151,18874367,67108863,134217727,268435455]
theorem gM.El : pX .any (opsOf Tryz.f66 1)=gM.T1:=by kernel_rfl
theorem gM.xn : jK gM.T1.2 gM.B1=true:=by kernel_rfl
theorem gM.e0 {p:Prop} (h:p:=by
  obtain rfl:=gK H.out
  go_enter Tryz.func66,Tryz.ntmps66
  try go_wp2_with(((with_reducible refine vJ 1 rfl ?_);refine Iz #[.string az,.string aA] 72 ?_;intro aaL hg mo hbox hb;have Ba:=ae.mk (hbox);have avS:=rE hg;replace HB:=iC hb;clear hb hbox hg))
  replace Ba:=ae.mk (dh Ba.out)
  replace HB:=ae.mk (bn HB.out)
  refine kJ (n:=29) (S:=fun w'=>w'.cell? ⟨aaL,0,none⟩=some (.string az)/\w'.cell? ⟨aaL,1,none⟩=some (.string aA)) (ds:=[]) (SF Ba) (fun hHeld=>?_);refine dY gM.El gM.xn (fun HT_ HW_=>?_)
  generalize mo.drew=mV at Ba HB hHeld ⊢
  repeat(first|refine mr ?_ (hy:=Or.inl ⟨by rfl,acW⟩)|refine ek ?_|(refine gV (fun K hK=>?_);refine lQ Tryz.func106 eB rfl #[.string az] (by rfl) rfl rfl Iu ?_;(with_reducible refine(pz.calls k az false _ A2.out).mono ?_);rintro e w' ⟨rfl,⟨nd,rfl⟩⟩;refine⟨_,rfl,?_⟩;refine hK.out _ _ (SF Ba) (fun hHeld=>?_);clear hK K;refine dI ?_)|(refine gV (fun K hK=>?_);refine lQ Tryz.func106 eB rfl #[.string az] (by rfl) rfl rfl Iu ?_;(with_reducible refine(pz.calls k az true _ A2.out).mono ?_);rintro e w' ⟨rfl,⟨nd,rfl⟩⟩;refine⟨_,rfl,?_⟩;refine hK.out _ _ (SF Ba) (fun hHeld=>?_);clear hK K;refine dI ?_)|(refine gV (fun K hK=>?_);refine lQ Tryz.func107 eB rfl #[.string aA,.func (.func 108) #[] #[]] (by rfl) rfl rfl Iu ?_;(with_reducible refine(bM.calls k aA  false _ A6.out).mono ?_);rintro e w' ⟨rfl,⟨nd,rfl⟩⟩;refine⟨_,rfl,?_⟩;refine hK.out _ _ (SF Ba) (fun hHeld=>?_);clear hK K;refine dI ?_))
  refine lh (gP HT_.out eB) ?_
  try go_wp2
  go_ret
  exact⟨su,dL⟩):p:=h
theorem gM.calls (k:Nat) (az aA:ByteArray) (r:Bool) (w:World) (h:gM.f k az aA=some r) :
  Calls Tryz.prog 66 #[.agg #[.string az,.string aA]] w fun e w'=>e = .returned (.bool r)/\Below w.heap.size w w':=by
 have UL:=Tryz.underlying72;have HB:=ae.mk (Below.refl w.heap.size w);have H:=ae.mk h;clear h;unfold gM.f at H;rcases D6 H with⟨A2,H⟩|⟨A2,H⟩
 ·rcases GM H with⟨c4,yE,-,H⟩|⟨c4,yE,-,H⟩
  ·have Kh:decide (az.size<=40)=true:=aQ aa;clear c4;rcases GM H with⟨c5,xW,-,H⟩|⟨c5,xW,-,H⟩
   ·have LW:decide (aA.size<=190)=true:=aQ aa;clear c5;rcases D6 H with⟨A6,H⟩|⟨A6,H⟩
    ·obtain⟨asU,A8,H⟩:=xE H;obtain rfl:=gK H.out;go_enter Tryz.func66,Tryz.ntmps66;try go_wp2_with(((with_reducible refine vJ 1 rfl ?_);refine Iz #[.string az,.string aA] 72 ?_;intro aaL hg mo hbox hb;have Ba:=ae.mk (hbox);have avS:=rE hg;replace HB:=iC hb;clear hb hbox hg))
     replace Ba:=ae.mk (dh Ba.out);replace HB:=ae.mk (bn HB.out);refine kJ (n:=29) (S:=fun w'=>w'.cell? ⟨aaL,0,none⟩=some (.string az)/\w'.cell? ⟨aaL,1,none⟩=some (.string aA)) (ds:=[]) (SF Ba) (fun hHeld=>?_);refine dY gM.El gM.xn (fun HT_ HW_=>?_);generalize mo.drew=mV at Ba HB hHeld ⊢;repeat(first|refine mr ?_ (hy:=Or.inl ⟨by rfl,acW⟩)|refine ek ?_)
     refine gV (fun K hK=>?_);refine Iw Tryz.func106 (pz.calls k az true _ A2.out) fun nd=>?_;refine hK.out _ _ (SF Ba) (fun hHeld=>?_);clear hK K;refine dI ?_;repeat(first|refine mr ?_ (hy:=Or.inl ⟨by rfl,acW⟩)|refine ek ?_)
     refine gV (fun K hK=>?_);refine Iw Tryz.func107 (bM.calls k aA  true _ A6.out) fun nd=>?_;refine hK.out _ _ (SF Ba) (fun hHeld=>?_);clear hK K;refine dI ?_;repeat(first|refine mr ?_ (hy:=Or.inl ⟨by rfl,acW⟩)|refine ek ?_)
     refine bN 24 (some 27) ?_;refine fQ 25 (some 28) (hy:=Or.inl ⟨by rfl,acW⟩) ?_;refine gV (fun K hK=>?_);refine Iw Tryz.func87 (dK.calls k aA asU _ A8.out) fun nd=>?_;refine hK.out _ _ (SF Ba) (fun hHeld=>?_);clear hK K;refine dI ?_;repeat(first|refine ek ?_)
     refine lh (gP HT_.out eB) ?_;try go_wp2
     go_ret;exact⟨su,dL⟩
    ·exact gM.e0
   ·have LW:decide (aA.size<=190)=false:=aT aa;clear c5;exact gM.e0
  ·have Kh:decide (az.size<=40)=false:=aT aa;clear c4;exact gM.e0
 ·exact gM.e0
@[reducible,instance] def gM.c:=jM.of 0 Tryz.func66 @gM.calls


def fB.l0 : Nat->List (j6)->Int->Int->Option (Bool)
 |0,_,_,_=>none
 |k+1,x8,x9,x10=>if x10<x9 then(if 0<=x10 then(if x10<(x8.length:Int) then((gM.f k ((bF x8 x10).f0) ((bF x8 x10).f1)).bind fun aAV=>(if aAV=true then(fB.l0 k x8 x9 (wrap64 (x10+1))) else(some false))) else(none)) else(none)) else(some true)
def fB.f (k:Nat) (l0:List (j6)):Option (Bool):=if(l0.length:Int)>20 then(some false) else(fB.l0 k l0 (l0.length:Int) 0)
theorem fB.calls (k:Nat) (A0:Option Addr) (c0:Nat) (l0:List (j6)) (r:Bool) (w:World) (hr0:Kd.C tZ w A0 l0.length l0) (hc0:l0.length<=c0) (h:fB.f k l0=some r) :
  Calls Tryz.prog 38 #[.slice A0 l0.length c0] w fun e w'=>e = .returned (.bool r)/\Below w.heap.size w w':=by
 have UL:=Tryz.underlying72;have GL:=ae.mk hr0;have GG:=ae.mk hc0;clear hr0 hc0;have HB:=ae.mk (Below.refl w.heap.size w);have H:=ae.mk h;clear h;unfold fB.f at H;rcases GM H with⟨c2,-,-,H⟩|⟨c2,-,-,H⟩
 ·have xU:decide (20<(l0.length:Int))=true:=aQ c2;have EG:decide (20<l0.length)=true:=aQ aa;clear c2;exact uE
 ·have xU:decide (20<(l0.length:Int))=false:=aT c2;have EG:decide (20<l0.length)=false:=aT aa;clear c2;go_enter Tryz.func38,Tryz.ntmps38;go_wp2;go_loopg [10] k (fun kq v10 w'=>∃(aiq:Int),v10 = .int .i64 aiq/\ae (fB.l0 kq l0 (l0.length:Int) aiq=some r)/\ae (kq<=k)/\ae (Below w.heap.size w w'))
  case atStart=>exact⟨(0),kD,H,⟨Nat.le_refl _⟩,⟨dL⟩⟩
  case round=>
   clear H;try clear c2
   try clear xU
   try clear EG
   obtain⟨aiq,rfl,HA,mh,HB⟩:=hrel;cases gk with
   |zero=>exact absurd HA.out (by simp[fB.l0])
   |succ k1=>
    have H:=HA;clear HA;simp only[fB.l0] at H;exact uW
@[reducible,instance] def fB.c:=jM.of 0 Tryz.func38 @fB.calls

def fT.l0 : Nat->ByteArray->List ByteArray->List (j6)->Int->Int->Option (List ByteArray)
 |0,_,_,_,_,_=>none
 |k+1,x1,x5,x11,x12,x13=>if x13<x12 then(if 0<=x13 then(if x13<(x11.length:Int) then((mY.f ((bF x11 x13).f0) x1).bind fun aAW=>(if aAW=true then(if x5.length<8796093022208 then(fT.l0 k x1 (x5 ++ [(bF x11 x13).f1]) x11 x12 (wrap64 (x13+1))) else(none)) else(fT.l0 k x1 x5 x11 x12 (wrap64 (x13+1))))) else(none)) else(none)) else(some x5)
def fT.f (k:Nat) (l0:List (j6)) (a1:ByteArray):Option (List ByteArray):=(fB.f k l0).bind fun aAX=>(if aAX=true then(fT.l0 k a1 ([]:List ByteArray) l0 (l0.length:Int) 0) else(some ([]:List ByteArray)))
theorem fT.calls (k:Nat) (A0:Option Addr) (c0:Nat) (l0:List (j6)) (a1:ByteArray) (r:List ByteArray) (w:World) (hr0:Kd.C tZ w A0 l0.length l0) (hc0:l0.length<=c0) (h:fT.f k l0 a1=some r) :
  Calls Tryz.prog 90 #[.slice A0 l0.length c0,.string a1] w fun e w'=>∃ KW:Value,e = .returned (KW)/\Kd.R Kd.string 9 w' w.heap.size (fun _=>True) KW r/\Below w.heap.size w w':=by
 have UL:=Tryz.underlying72;have GL:=ae.mk hr0;have GG:=ae.mk hc0;clear hr0 hc0;have HB:=ae.mk (Below.refl w.heap.size w);have H:=h;clear h;unfold fT.f at H;replace H:=WU H;rcases H with⟨A3,H⟩|⟨A3,H⟩
 ·replace H:=ae.mk H;go_enter Tryz.func90,Tryz.ntmps90;go_wp2_with(first|((with_reducible refine lS 38 rfl ?_);refine vI 9 rfl Tryz.func38 (fB.calls k _ _ l0 true _ zs0 GG.out A3.out) fun w5 hb HB=>?_;clear hb));go_loopg [5,13] k (fun kq v5 v13 w'=>∃(gH:List ByteArray) (vT:Int),v13 = .int .i64 vT/\ae (fT.l0 kq a1 gH l0 (l0.length:Int) vT=some r)/\ae (kq<=k)/\ae (Kd.R Kd.string 9 w' w.heap.size (fun _=>True) v5 gH)/\ae (Below w.heap.size w w'))
  case atStart=>exact⟨(([]:List ByteArray)),(0),kD,H,⟨Nat.le_refl _⟩,⟨Pe⟩,⟨dL⟩⟩
  case round=>
   clear H;obtain⟨gH,vT,rfl,HA,mh,wE,HB⟩:=hrel;cases gk with
   |zero=>exact absurd HA.out (by simp[fT.l0])
   |succ k1=>
    have H:=HA.out;clear HA;simp only[fT.l0] at H;replace H:=gI H;rcases H with⟨-,xV,-,H⟩|⟨-,xV,-,H⟩
    ·replace H:=gN H;obtain⟨-,Am,-,H⟩:=H;replace H:=gN H;obtain⟨-,zS,-,H⟩:=H;replace H:=WU H;rcases H with⟨A9,H⟩|⟨A9,H⟩
     ·replace H:=gN H;obtain⟨c11,-,-,H⟩:=H;have aaM:=ae.mk c11;clear c11;obtain⟨avT,aaN⟩:∃ y_:List ByteArray,y_=(gH ++ [(bF l0 vT).f1]):=⟨_,rfl⟩;replace H:(fT.l0 k1 a1 avT l0 (l0.length:Int) (wrap64 (vT+1)))=some r:=by first|(rw[aaN];with_reducible exact H)|(have mW:=(aj _ _).symm.trans H;rw[aaN];with_reducible exact mW)|(have mW:=(aj _ _).symm.trans H;with_reducible exact mW)|with_reducible exact H|(rw[aaN];exact H)|exact H
      have avU:=ae.mk aaN;clear aaN;replace H:=ae.mk H;have ads:0<=(vT:Int):=aX gq;have adt:vT<(l0.length:Int):=aX gq;obtain⟨avV,asV,Ki,Kj⟩:=D5 GL.out vT ads adt;cases asV
      replace Ki:=(HB.out.cell (World.block_lt_of_cell? w _ Ki)).trans Ki;replace Kj:=(HB.out.cell (World.block_lt_of_cell? w _ Kj)).trans Kj;replace ads:=eq_true ads;replace adt:=eq_true adt;go_wp2_with(first|((with_reducible refine vJ 7 rfl ?_);refine qo #[.string (⟨#[]⟩:af),.string (⟨#[]⟩:af)] 72 ?_;intro aeN hg Kk hbox hb;have FT:=ae.mk (hbox);have avW:=rE hg;replace wE:=ae.mk (Kd.bz SK hb);replace HB:=iC hb;clear hb hbox hg;have _:=SF FT;have _:=ali FT)|((with_reducible refine lS 131 rfl ?_);refine vI 20 rfl Tryz.func131 (mY.calls ((bF l0 vT).f0) a1 true _ A9.out) fun w14 hb _=>?_;replace wE:=ae.mk (Kd.bz (by(with_reducible repeat(first|apply Kd.bR|apply Kd.bP|apply Kd.bV));exact(EZ (Kd.nO wE.out FT.out av) (fun _ h_=>h_.1))) hb);replace FT:=jr (g:=aeN) (o:=.cells #[.string ((bF l0 vT).f0),.string ((bF l0 vT).f1)] 72 (0,0)) hb;replace HB:=iC hb;(try clear hb);(try clear hk);have _:=SF FT;have _:=ali FT)|((with_reducible refine iF (b:=.append) (xs:=#[.tmp 21,.tmp 24]) rfl ?_);at_builtin;refine Kd.mG Kd.string (w0:=w) w.heap.size rfl (.tmp 21) (.tmp 24) 76 9 (.string ⟨#[]⟩) 16 rfl Tryz.underlying76 Iy rfl av aa u5 gH ((bF l0 vT).f1) [.string ((bF l0 vT).f1)] (fun _=>True) (fun _=>False) rfl rfl ?aP (fun _ hk=>hk.elim) ?aF ?aO ?aB ?aS ?aL ?_;(case aP=>exact rfl);(case aB=>exact dL);(case aF=>exact(fun _ _=>trivial));(case aO=>exact SK);(case aS=>exact(bq dL));(case aL=>have:=aaM.out;omega);intro aIP w16 ho hb hg hat;rw[<- avU.out] at ho;have qb:=ae.mk (Xd (g:=aeN) (o:=.cells #[.string ((bF l0 vT).f0),.string ((bF l0 vT).f1)] 72 (0,0)) (by(with_reducible repeat(first|refine jV ?_ _|refine dh ?_|refine kU ?_ _));exact FT.out) hg (Kd.ag0 wE.out FT.out av));have qU:=ae.mk (hb);have I5:=ae.mk (ho);clear FT;clear HB;clear wE;have FT:=qb;have HB:=qU;have aGi:=I5;clear qb qU I5;clear ho hb hg hat));go_roundg k1
      case measure=>have:=mh.out;omega
      case rel=>exact⟨(avT),(wrap64 (vT+1)),kD,H,⟨by have:=mh.out;omega⟩,⟨wh⟩,⟨dL⟩⟩
     ·replace H:=ae.mk H;have ads:0<=(vT:Int):=aX gq;have adt:vT<(l0.length:Int):=aX gq;obtain⟨avV,asV,Ki,Kj⟩:=D5 GL.out vT ads adt;cases asV
      replace Ki:=(HB.out.cell (World.block_lt_of_cell? w _ Ki)).trans Ki;replace Kj:=(HB.out.cell (World.block_lt_of_cell? w _ Kj)).trans Kj;replace ads:=eq_true ads;replace adt:=eq_true adt;go_wp2_with(first|((with_reducible refine vJ 7 rfl ?_);refine qo #[.string (⟨#[]⟩:af),.string (⟨#[]⟩:af)] 72 ?_;intro aeN hg w17 hbox hb;have FT:=ae.mk (hbox);have avW:=rE hg;replace wE:=ae.mk (Kd.bz SK hb);replace HB:=iC hb;clear hb hbox hg;have _:=SF FT;have _:=ali FT)|((with_reducible refine lS 131 rfl ?_);refine vI 20 rfl Tryz.func131 (mY.calls ((bF l0 vT).f0) a1 false _ A9.out) fun w19 hb _=>?_;replace wE:=ae.mk (Kd.bz (by(with_reducible repeat(first|apply Kd.bR|apply Kd.bP|apply Kd.bV));exact(EZ (Kd.nO wE.out FT.out av) (fun _ h_=>h_.1))) hb);replace FT:=jr (g:=aeN) (o:=.cells #[.string ((bF l0 vT).f0),.string ((bF l0 vT).f1)] 72 (0,0)) hb;replace HB:=iC hb;(try clear hb);(try clear hk)));go_roundg k1
      case measure=>have:=mh.out;omega
      case rel=>exact⟨(gH),(wrap64 (vT+1)),kD,H,⟨by have:=mh.out;omega⟩,⟨wh⟩,⟨dL⟩⟩
    ·obtain rfl:=gK H;go_wp2;go_ret;exact⟨_,su,wh,dL⟩
 ·obtain rfl:=gK H;go_enter Tryz.func90,Tryz.ntmps90;go_wp2_with(first|((with_reducible refine lS 38 rfl ?_);refine vI 9 rfl Tryz.func38 (fB.calls k _ _ l0 false _ zs0 GG.out A3.out) fun w20 hb HB=>?_;clear hb));go_ret;exact⟨_,su,Pe,dL⟩
@[reducible,instance] def fT.c:=jM.of 0 Tryz.func90 @fT.calls

def kR.f (k:Nat) (l0:List (j6)) (a1:ByteArray):Option (Bool):=(fT.f k l0 a1).bind fun aAY=>(some (decide ((aAY.length:Int)>0)))
theorem kR.calls (k:Nat) (A0:Option Addr) (c0:Nat) (l0:List (j6)) (a1:ByteArray) (r:Bool) (w:World) (hr0:Kd.C tZ w A0 l0.length l0) (hc0:l0.length<=c0) (h:kR.f k l0 a1=some r) :
  Calls Tryz.prog 51 #[.slice A0 l0.length c0,.string a1] w fun e w'=>e = .returned (.bool r)/\Below w.heap.size w w':=by
 have GL:=ae.mk hr0;have GG:=ae.mk hc0;clear hr0 hc0;unfold kR.f at h;exact uA
@[reducible,instance] def kR.c:=jM.of 0 Tryz.func51 @kR.calls

def qO.f (az:ByteArray) (aA:ByteArray):Option (ByteArray):=if az.size+2<=9223372036854775807 then(if(az++(⟨#[58,32]⟩:af)).size+aA.size<=9223372036854775807 then(some ((az++(⟨#[58,32]⟩:af))++aA)) else(none)) else(none)
theorem qO.calls (az aA r:ByteArray) (w:World) (h:qO.f az aA=some r) :
  Calls Tryz.prog 112 #[.agg #[.string az,.string aA]] w fun e w'=>e = .returned (.string r)/\Below w.heap.size w w':=by
 have UL:=Tryz.underlying72;unfold qO.f at h;exact uA
@[reducible,instance] def qO.c:=jM.of 0 Tryz.func112 @qO.calls


def xh.f (k:Nat) (l0:List (j6)) (a1:ByteArray):Option (ByteArray×Bool):=(fT.f k l0 a1).bind fun Np=>(if(Np.length:Int)=0 then(some ((⟨#[]⟩:af),false)) else(if 0<(Np.length:Int) then(some (ed ByteArray.empty Np 0,true)) else(none)))
theorem xh.calls (k:Nat) (A0:Option Addr) (c0:Nat) (l0:List (j6)) (a1 r1:ByteArray) (r2:Bool) (w:World) (hr0:Kd.C tZ w A0 l0.length l0) (hc0:l0.length<=c0) (h:xh.f k l0 a1=some (r1,r2)) :
  Calls Tryz.prog 78 #[.slice A0 l0.length c0,.string a1] w fun e w'=>e = .returned (.tuple #[.string r1,.bool r2])/\Below w.heap.size w w':=by
 have GL:=ae.mk hr0;have GG:=ae.mk hc0;clear hr0 hc0;have HB:=ae.mk (Below.refl w.heap.size w);have H:=ae.mk h;clear h;unfold xh.f at H;obtain⟨Np,A3,H⟩:=xE H;rcases GM H with⟨c4,-,-,H⟩|⟨c4,-,-,H⟩
 ·obtain⟨yE,Kh⟩:=Cu c4;clear c4;simp only[Option.some.injEq,Prod.mk.injEq] at H;obtain⟨rfl,rfl⟩:=H;go_enter Tryz.func78,Tryz.ntmps78;go_wp2_with(first|((with_reducible refine lS 90 rfl ?_);refine WK 9 rfl Tryz.func90 (fT.calls k _ _ l0 a1 Np _ zs0 GG.out A3.out) ?_;rintro e w5 ⟨avX,rfl,ho0,hb⟩;refine⟨_,rfl,?_⟩;have Zv:=ae.mk (Kd.gZ ho0 (bq dL));replace HB:=iC hb;clear hb;(try clear ho0);obtain⟨Ao6,co6,eo6⟩:=Kd.dE Zv.out;subst eo6));go_ret2;exact⟨su,dL⟩
 ·obtain⟨yE,Kh⟩:=Di c4;have agw:¬ (Np = []):=fun h_=>c4 (by rw[h_];rfl);rcases GM H with⟨c7,Am,-,H⟩|⟨c7,-,-,H⟩
  ·have Zt:decide (0<Np.length)=true:=aQ aa;clear c7;simp only[Option.some.injEq,Prod.mk.injEq] at H;obtain⟨rfl,rfl⟩:=H;go_enter Tryz.func78,Tryz.ntmps78;go_wp2_with(first|((with_reducible refine lS 90 rfl ?_);refine WK 9 rfl Tryz.func90 (fT.calls k _ _ l0 a1 Np _ zs0 GG.out A3.out) ?_;rintro e w8 ⟨avX,rfl,ho0,hb⟩;refine⟨_,rfl,?_⟩;have Zv:=ae.mk (Kd.gZ ho0 (bq dL));replace HB:=iC hb;clear hb;(try clear ho0);obtain⟨Ao9,co9,eo9⟩:=Kd.dE Zv.out;subst eo9;have air:0<=(0:Int):=aa;have ais:0<(Np.length:Int):=aX gq;obtain⟨aAZ,avY,aaO⟩:=Kd.iM (Kd.aJ Zv.out).2.2 0 air ais;cases avY;have aA0:(0<Np.length)=True:=eq_true aa;(try rw[show((0:Int)).toNat=0 from rfl] at aaO);(try rw[Addr.add_zero'] at aaO);replace air:=eq_true air;replace ais:=eq_true ais));go_ret2;exact⟨su,dL⟩
  ·exact absurd H.out (by simp)
@[reducible,instance] def xh.c:=jM.of 0 Tryz.func78 @xh.calls

-- IMPORT Shelf
def joinL (l:List ByteArray):List UInt8:=Go.Lib.join (l.map fun x=>x.data.toList) [44,32]
theorem asW {w:World} {base:Nat} {v:Value} {xs:List ByteArray} {ok:Nat->Prop} (hR:Kd.R Kd.string 9 w base ok v xs) (h1:xs.length<=140737488355328) (h2:(joinL xs).length<=140737488355328) :
  Calls Tryz.prog 169 #[v,.string ⟨#[44,32]⟩] w fun e w'=>e = .returned (.string ⟨(joinL xs).toArray⟩)/\Below w.heap.size w w':=by
 obtain⟨inner,ho⟩:=Kd.Z9 hR
 rcases ho.2 with⟨rfl,h0⟩|⟨g,cap,cur,rfl,hg,hh,hc,hm,hs,ht⟩
 ·obtain rfl:xs = []:=List.length_eq_zero_iff.mp h0
  refine(Tryz.strings_Join_none none 0 ⟨#[44,32]⟩ w).mono ?_
  rintro e w' ⟨rfl,rfl⟩
  exact⟨rfl,Below.refl _ _⟩
 ·refine(Tryz.strings_Join g 0 cap xs ⟨#[44,32]⟩ w ?_ ?_ h1 hc h2).mono ?_
  ·intro j x hj
   have hlt:j<xs.length:=by
    by_cases hq:j<xs.length
    ·exact hq
    ·rw[List.getElem?_eq_none aa] at hj;cases hj
   have hcell:=(Kd.ar8 ByteArray.empty hR (j:Int) aa aa).1
   have e1:ed ByteArray.empty xs (j:Int)=x:=by
    unfold ed
    simp only[Int.toNat_natCast,List.getD_eq_getElem?_getD,hj,Option.getD_some]
   rw[e1] at hcell
   simpa using hcell
  ·exact zF hh
  ·rintro e w' ⟨rfl,hb⟩
   exact⟨rfl,hb⟩
def sj.f (k:Nat) (l0:List j6) (a1:ByteArray):Option ByteArray:=(fT.f k l0 a1).bind fun vs=>if vs.length<=140737488355328/\(joinL vs).length<=140737488355328 then some ⟨(joinL vs).toArray⟩ else none
theorem sj.calls (k:Nat) (A0:Option Addr) (c0:Nat) (l0:List j6) (a1 r:ByteArray) (w:World) (hr0:Kd.C tZ w A0 l0.length l0) (hc0:l0.length<=c0) (h:sj.f k l0 a1=some r) :
  Calls Tryz.prog 127 #[.slice A0 l0.length c0,.string a1] w fun e w'=>e = .returned (.string r)/\Below w.heap.size w w':=by
 obtain⟨vs,A0_,H⟩:=Option.bind_eq_some_iff.mp h;have GL:=ae.mk hr0;have GG:=ae.mk hc0;have A:=ae.mk A0_;clear A0_ hr0 hc0 h;by_cases hq:vs.length<=140737488355328/\(joinL vs).length<=140737488355328
 case neg=>rw[if_neg hq] at H;cases H
 rw[if_pos hq] at H;obtain rfl:=gK H;have HQ:=ae.mk hq;clear H hq;go_enter Tryz.func127,Tryz.ntmps127;go_wp2_with(first|((with_reducible refine lS 90 rfl ?_);refine wC (some 7) rfl rfl Tryz.func90 eB rfl #[.slice A0 l0.length c0,.string a1] rfl QG ?_;(with_reducible refine(fT.calls k A0 c0 l0 a1 vs _ ?ait ?aiu A.out).mono ?_);(case ait=>exact GL.out);(case aiu=>exact GG.out);rintro e w14 ⟨v7,rfl,hR,hb⟩;refine⟨_,rfl,?_⟩;have HR:=ae.mk hR;have HB:=ae.mk hb;clear hR hb)|((with_reducible refine lS 169 rfl ?_);refine wC (some 8) rfl rfl Tryz.func169 eB rfl #[v7,.string ⟨#[44,32]⟩] rfl QG ?_;(with_reducible refine(asW HR.out HQ.out.1 HQ.out.2).mono ?_);rintro e w15 ⟨rfl,hb⟩;refine⟨_,rfl,?_⟩;have HB2:=ae.mk (Cs HB.out hb);clear hb));go_ret;exact⟨rfl,HB2.out⟩
@[reducible,instance] def sj.c:=jM.of 0 Tryz.func127 @sj.calls

def mU.f (k:Nat) (l0:List (j6)) (a1:ByteArray):Option (List ByteArray):=(sj.f k l0 a1).bind fun aeO=>((eG.f k aeO).bind fun aiv=>(some aiv))
theorem mU.calls (k:Nat) (A0:Option Addr) (c0:Nat) (l0:List (j6)) (a1:ByteArray) (r:List ByteArray) (w:World) (hr0:Kd.C tZ w A0 l0.length l0) (hc0:l0.length<=c0) (h:mU.f k l0 a1=some r) :
  Calls Tryz.prog 85 #[.slice A0 l0.length c0,.string a1] w fun e w'=>∃ KW:Value,e = .returned (KW)/\Kd.R Kd.string 9 w' w.heap.size (fun _=>True) KW r/\Below w.heap.size w w':=by
 have GL:=ae.mk hr0;have GG:=ae.mk hc0;clear hr0 hc0;have HB:=ae.mk (Below.refl w.heap.size w);have H:=ae.mk h;clear h;unfold mU.f at H;obtain⟨aeO,A3,H⟩:=xE H;obtain⟨aiv,A4,H⟩:=xE H;obtain rfl:=gK H.out;go_enter Tryz.func85,Tryz.ntmps85;go_wp2_with(first|((with_reducible refine lS 127 rfl ?_);refine vI 7 rfl Tryz.func127 (sj.calls k _ _ l0 a1 aeO _ zs0 GG.out A3.out) fun w5 hb HB=>?_;clear hb)|((with_reducible refine lS 126 rfl ?_);refine WK 8 rfl Tryz.func126 (eG.calls k aeO aiv _ A4.out) ?_;rintro e w6 ⟨aGj,rfl,ho0,hb⟩;refine⟨_,rfl,?_⟩;have aA1:=ae.mk (Kd.gZ ho0 (bq dL));replace HB:=iC hb;clear hb;(try clear ho0)));go_ret;exact⟨_,su,wh,dL⟩
@[reducible,instance] def mU.c:=jM.of 0 Tryz.func85 @mU.calls

end Go.Proofs.YtfhllanhldbkkaaGreatDoor.P
