import Derived.Test.YtfhllanhldbkkaaGreatDoorPxspec07e
set_option maxHeartbeats 8000000
set_option maxRecDepth 100000
namespace Go.Proofs.YtfhllanhldbkkaaGreatDoor.P
open Go.RowKit Go.Proofs.YtfhllanhldbkkaaGreatDoorW.aW Go.Proofs.YtfhllanhldbkkaaGreatDoorW.eQ Go.Proofs.YtfhllanhldbkkaaGreatDoorW.fO
attribute [local go_sem] kV kW mE mF jP jQ kX kY dZ E8 E9 Fa Fb oU oV
set_option linter.unusedVariables false
set_option linter.unusedSimpArgs false

mutual
def bG.j0 : Nat->List (j6)->List ByteArray->Bool->Bool->Bool->Bool->Bool->Bool->Int->Int->Int->Int->Option (Bool×Bool×Bool×Bool×Bool×Bool×Int×Int×Int×Int)
 |0,_,_,_,_,_,_,_,_,_,_,_,_=>none
 |k+1,x0,x3,Jg,ME,Jh,Ji,Jj,Jk,Qe,Qf,Qg,Qh=>(jU.f k x3 (⟨#[109,97,120,45,97,103,101]⟩:af) 0 0).bind fun DU=>((jU.f k x3 (⟨#[115,45,109,97,120,97,103,101]⟩:af) 0 0).bind fun F7=>((jU.f k x3 (⟨#[109,97,120,45,115,116,97,108,101]⟩:af) 2147483648 0).bind fun Jl=>((jU.f k x3 (⟨#[109,105,110,45,102,114,101,115,104]⟩:af) 2147483648 2147483648).bind fun MF=>((mM.f k x0 (⟨#[99,97,99,104,101,45,99,111,110,116,114,111,108]⟩:af)).bind fun atO=>(if atO.2=true then(some (Jg,ME,Jh,Ji,Jj,Jk,DU,F7,Jl,MF)) else((mR.f k x0 (⟨#[112,114,97,103,109,97]⟩:af)).bind fun V6=>(bG.l0 k V6 0 Jg ME Jh Ji Jj Jk DU F7 Jl MF)))))))
def bG.l0 : Nat->List ByteArray->Int->Bool->Bool->Bool->Bool->Bool->Bool->Int->Int->Int->Int->Option (Bool×Bool×Bool×Bool×Bool×Bool×Int×Int×Int×Int)
 |0,_,_,_,_,_,_,_,_,_,_,_,_=>none
 |k+1,x7,x8,Jg,ME,Jh,Ji,Jj,Jk,Qe,Qf,Qg,Qh=>if x8<(x7.length:Int) then(if ME=true then(bG.l0 k x7 (wrap64 (x8+1)) Jg true Jh Ji Jj Jk Qe Qf Qg Qh) else(if 0<=x8 then((jk.f (ed ByteArray.empty x7 x8)).bind fun afy=>(bG.l0 k x7 (wrap64 (x8+1)) Jg (afy.toList==([110,111,45,99,97,99,104,101]:aM)) Jh Ji Jj Jk Qe Qf Qg Qh)) else(none))) else(some (Jg,ME,Jh,Ji,Jj,Jk,Qe,Qf,Qg,Qh))
end
def bG.f (k:Nat) (l0:List (j6)):Option (Bool×Bool×Bool×Bool×Bool×Bool×Int×Int×Int×Int):=(mR.f k l0 (⟨#[99,97,99,104,101,45,99,111,110,116,114,111,108]⟩:af)).bind fun mI=>((iA.f k mI (⟨#[110,111,45,115,116,111,114,101]⟩:af)).bind fun Ag=>((iA.f k mI (⟨#[110,111,45,99,97,99,104,101]⟩:af)).bind fun Cq=>((iA.f k mI (⟨#[112,114,105,118,97,116,101]⟩:af)).bind fun Ah=>((iA.f k mI (⟨#[112,117,98,108,105,99]⟩:af)).bind fun Ai=>((iA.f k mI (⟨#[111,110,108,121,45,105,102,45,99,97,99,104,101,100]⟩:af)).bind fun Aj=>((iA.f k mI (⟨#[109,117,115,116,45,114,101,118,97,108,105,100,97,116,101]⟩:af)).bind fun ayo=>(if ayo=true then(bG.j0 k l0 mI Ag Cq Ah Ai true Aj 0 0 0 0) else((iA.f k mI (⟨#[112,114,111,120,121,45,114,101,118,97,108,105,100,97,116,101]⟩:af)).bind fun afz=>(bG.j0 k l0 mI Ag Cq Ah Ai afz Aj 0 0 0 0)))))))))
theorem bG.WL {p:Prop} (h:p:=by repeat(first|(with_reducible first|exact ae.out (by assumption)|apply oK|(apply uf;assumption)|apply jV|apply dh|apply kU)|(simp only[List.setIfInBounds_toArray,List.set_cons_zero,List.set_cons_succ];with_reducible rfl)|(simp only[List.setIfInBounds_toArray,List.set_cons_zero,List.set_cons_succ];done)|exact(rfl:(_:Array Value)=_))):p:=h
theorem bG.ZY {W w1:World} {g:Nat} {o:Obj} (hb:Below W.heap.size W w1) (h:W.heap[g]? = some o:=by exact bG.WL):ae (w1.heap[g]? = some o):=⟨pU h hb⟩
theorem bG.calls (k:Nat) (A0:Option Addr) (c0:Nat) (l0:List (j6)) (r1 r2:Bool) (r3 r4:Bool) (r5 r6:Bool) (r7 r8:Int) (r9 Y2:Int) (w:World) (hr0:Kd.C tZ w A0 l0.length l0) (hc0:l0.length<=c0) (h:bG.f k l0=some (r1,r2,r3,r4,r5,r6,r7,r8,r9,Y2)) :
  Calls Tryz.prog 48 #[.slice A0 l0.length c0] w fun e w'=>e = .returned (.agg #[.bool r1,.bool r2,.bool r3,.bool r4,.bool r5,.bool r6,.int .i64 r7,.int .i64 r8,.int .i64 r9,.int .i64 Y2])/\Below w.heap.size w w':=by
 have adh:=Tryz.underlying44;have GL:=ae.mk hr0;have GG:=ae.mk hc0;clear hr0 hc0;have HB:=ae.mk (Below.refl w.heap.size w);have H:=h;clear h;unfold bG.f at H;replace H:=gD H;obtain⟨mI,A2,H⟩:=H;replace H:=gD H;obtain⟨Ag,A3,H⟩:=H;replace H:=gD H;obtain⟨Cq,A4,H⟩:=H;replace H:=gD H;obtain⟨Ah,A5,H⟩:=H;replace H:=gD H;obtain⟨Ai,A6,H⟩:=H;replace H:=gD H;obtain⟨Aj,A7,H⟩:=H;have HC8:=ae.mk H;clear H;go_enter Tryz.func48,Tryz.ntmps48;go_upto_region 3 with(first|((with_reducible refine vJ 2 rfl ?_);refine agk #[.bool false,.bool false,.bool false,.bool false,.bool false,.bool false,.int .i64 0,.int .i64 0,.int .i64 0,.int .i64 0] 44 ?_;clear HB;intro qi w9 qQ aDQ HB)|((with_reducible refine lS 80 rfl ?_);refine WK 10 rfl Tryz.func80 (mR.calls k _ _ l0 (⟨#[99,97,99,104,101,45,99,111,110,116,114,111,108]⟩:af) mI _ auF GG.out A2.out) ?_;rintro e w10 ⟨aHv,rfl,ho0,hb⟩;refine⟨_,rfl,?_⟩;have sH:=ae.mk (Kd.gZ ho0 (bq dL));replace qQ:=jr (g:=qi) hb;replace HB:=iC hb;clear hb;(try clear ho0);obtain⟨MG,IA,atP⟩:=Kd.dE sH.out;subst atP)|((with_reducible refine lS 81 rfl ?_);refine vI (args:=#[.slice MG mI.length IA,.string (⟨#[110,111,45,115,116,111,114,101]⟩:af)]) 12 rfl Tryz.func81 (iA.calls k _ _ mI (⟨#[110,111,45,115,116,111,114,101]⟩:af) Ag _ agl ((Kd.aJ sH.out).2.1) A3.out) fun Kk hb HB=>?_;replace sH:=ae.mk (Kd.bz ac0 hb);replace qQ:=jr (g:=qi) hb;clear hb)|((with_reducible refine lS 81 rfl ?_);refine vI (args:=#[.slice MG mI.length IA,.string (⟨#[110,111,45,99,97,99,104,101]⟩:af)]) 14 rfl Tryz.func81 (iA.calls k _ _ mI (⟨#[110,111,45,99,97,99,104,101]⟩:af) Cq _ agl ((Kd.aJ sH.out).2.1) A4.out) fun Kg hb HB=>?_;replace sH:=ae.mk (Kd.bz ac0 hb);replace qQ:=jr (g:=qi) hb;clear hb)|((with_reducible refine lS 81 rfl ?_);refine vI (args:=#[.slice MG mI.length IA,.string (⟨#[112,114,105,118,97,116,101]⟩:af)]) 16 rfl Tryz.func81 (iA.calls k _ _ mI (⟨#[112,114,105,118,97,116,101]⟩:af) Ah _ agl ((Kd.aJ sH.out).2.1) A5.out) fun w14 hb HB=>?_;replace sH:=ae.mk (Kd.bz ac0 hb);replace qQ:=jr (g:=qi) hb;clear hb)|((with_reducible refine lS 81 rfl ?_);refine vI (args:=#[.slice MG mI.length IA,.string (⟨#[112,117,98,108,105,99]⟩:af)]) 18 rfl Tryz.func81 (iA.calls k _ _ mI (⟨#[112,117,98,108,105,99]⟩:af) Ai _ agl ((Kd.aJ sH.out).2.1) A6.out) fun w15 hb HB=>?_;replace sH:=ae.mk (Kd.bz ac0 hb);replace qQ:=jr (g:=qi) hb;clear hb)|((with_reducible refine lS 81 rfl ?_);refine vI (args:=#[.slice MG mI.length IA,.string (⟨#[111,110,108,121,45,105,102,45,99,97,99,104,101,100]⟩:af)]) 20 rfl Tryz.func81 (iA.calls k _ _ mI (⟨#[111,110,108,121,45,105,102,45,99,97,99,104,101,100]⟩:af) Aj _ agl ((Kd.aJ sH.out).2.1) A7.out) fun w16 hb HB=>?_;replace sH:=ae.mk (Kd.bz ac0 hb);replace qQ:=jr (g:=qi) hb;clear hb)|((with_reducible refine vJ 4 rfl ?_);refine qo #[.bool false,.bool false,.bool false,.bool false,.bool false,.bool false,.int .i64 0,.int .i64 0,.int .i64 0,.int .i64 0] 44 ?_;intro yj hg w17 hbox hb;have bJ:=ae.mk (hbox);have aDR:=rE hg;have uQ:=O9 (g:=qi) hg;have wz:=QD uQ;replace sH:=ae.mk (Kd.bz ac0 hb);replace qQ:=jr (g:=qi) hb;replace HB:=iC hb;clear hb hbox hg;have aHw:=wz.out;have aHx:=uQ.out;have afA:=Js bJ;have afB:=Jt bJ;have afC:=Qx bJ;have afD:=QE bJ;have afE:=QF bJ;have afF:=Pb bJ;have afG:=cz6 bJ;have afH:=cz7 bJ;have afI:=(ug bJ).2.2.2.2.2.2.2.2.1;have afJ:=(ug bJ).2.2.2.2.2.2.2.2.2;have afK:=ah bJ.out 0;have afL:=ah bJ.out 1;have afM:=ah bJ.out 2;have afN:=ah bJ.out 3;have afO:=ah bJ.out 4;have afP:=ah bJ.out 5;have afQ:=ah bJ.out 6;have afR:=ah bJ.out 7;have afS:=ah bJ.out 8;have afT:=ah bJ.out 9));(try simp only[Act.put,List.setIfInBounds_toArray,List.set_cons_zero,List.set_cons_succ])
 go_cut [] (fun wc=>∃(kq:Nat) (oG:Bool),ae (bG.j0 kq l0 mI Ag Cq Ah Ai oG Aj 0 0 0 0=some (r1,r2,r3,r4,r5,r6,r7,r8,r9,Y2))/\ae (kq<=k)/\ae (Kd.R Kd.string 9 wc w.heap.size (fun _=>True) (.slice MG mI.length IA) mI)/\ae (wc.heap[qi]? = some (.cells #[.bool false,.bool false,.bool false,.bool false,.bool false,.bool false,.int .i64 0,.int .i64 0,.int .i64 0,.int .i64 0] 44 (0,0)))/\ae (wc.heap[yj]? = some (.cells #[.bool Ag,.bool Cq,.bool Ah,.bool Ai,.bool oG,.bool Aj,.int .i64 0,.int .i64 0,.int .i64 0,.int .i64 0] 44 (0,0)))/\ae (Below w.heap.size w wc))
 case first=>
  have H:=HC8.out;clear HC8;replace H:=WU H;rcases H with⟨A20,H⟩|⟨A20,H⟩
  ·replace H:=ae.mk H;go_wp2_with(((with_reducible refine lS 81 rfl ?_);refine vI (args:=#[.slice MG mI.length IA,.string (⟨#[109,117,115,116,45,114,101,118,97,108,105,100,97,116,101]⟩:af)]) 23 rfl Tryz.func81 (iA.calls k _ _ mI (⟨#[109,117,115,116,45,114,101,118,97,108,105,100,97,116,101]⟩:af) true _ auG ((Kd.aJ sH.out).2.1) A20.out) fun mo hb HB=>?_;replace sH:=ae.mk (Kd.bz asf hb);replace qQ:=jr (g:=qi) hb;replace bJ:=bG.ZY (g:=yj) (o:=.cells #[.bool Ag,.bool Cq,.bool Ah,.bool Ai,.bool false,.bool Aj,.int .i64 0,.int .i64 0,.int .i64 0,.int .i64 0] 44 (0,0)) hb;clear hb;have ayp:=wz.out;have ayq:=uQ.out;have _:=qH bJ));go_meet
   case rel=>exact⟨_,(true),H,⟨Ld⟩,⟨by(with_reducible repeat(first|apply Kd.bR|apply Kd.bP|apply Kd.bV));exact EZ (Kd.nO sH.out bJ.out av) (fun _ hk=>trivial)⟩,⟨yz⟩,⟨yz⟩,⟨dL⟩⟩
  ·replace H:=gD H;obtain⟨afz,A25,H⟩:=H;replace H:=ae.mk H;go_wp2_with(first|((with_reducible refine lS 81 rfl ?_);refine vI (args:=#[.slice MG mI.length IA,.string (⟨#[109,117,115,116,45,114,101,118,97,108,105,100,97,116,101]⟩:af)]) 23 rfl Tryz.func81 (iA.calls k _ _ mI (⟨#[109,117,115,116,45,114,101,118,97,108,105,100,97,116,101]⟩:af) false _ auG ((Kd.aJ sH.out).2.1) A20.out) fun mV hb HB=>?_;replace sH:=ae.mk (Kd.bz asf hb);replace qQ:=jr (g:=qi) hb;replace bJ:=bG.ZY (g:=yj) (o:=.cells #[.bool Ag,.bool Cq,.bool Ah,.bool Ai,.bool false,.bool Aj,.int .i64 0,.int .i64 0,.int .i64 0,.int .i64 0] 44 (0,0)) hb;clear hb)|(go_at_call 81;(with_reducible refine(iA.calls k _ _ mI (⟨#[112,114,111,120,121,45,114,101,118,97,108,105,100,97,116,101]⟩:af) afz _ ?ait ?aiu A25.out).mono ?_);(case ait=>exact agl);(case aiu=>exact(Kd.aJ sH.out).2.1);rintro e tT ⟨rfl,hb⟩;replace sH:=ae.mk (Kd.bz ac0 hb);replace qQ:=jr (g:=qi) hb;replace bJ:=jr (g:=yj) hb;replace HB:=iC hb;clear hb;have aHy:=wz.out;have aHz:=uQ.out;have _:=qH bJ));go_meet
   case rel=>exact⟨_,(afz),H,⟨Ld⟩,⟨by(with_reducible repeat(first|apply Kd.bR|apply Kd.bP|apply Kd.bV));exact EZ (Kd.nO sH.out bJ.out av) (fun _ hk=>trivial)⟩,⟨yz⟩,⟨yz⟩,⟨dL⟩⟩
 case rest=>
  clear HC8;try clear afA
  try clear afB
  try clear afC
  try clear afD
  try clear afE
  try clear afF
  try clear afG
  try clear afH
  try clear afI
  try clear afJ
  try clear afK
  try clear afL
  try clear afM
  try clear afN
  try clear afO
  try clear afP
  try clear afQ
  try clear afR
  try clear afS
  try clear afT
  obtain⟨kq,oG,HA,HJ7,jY,qQ,bJ,HB⟩:=hcut;cases kq with
  |zero=>exact absurd HA.out (by simp[bG.j0])
  |succ kj7=>
   have H:=HA.out;clear HA;simp only[bG.j0] at H;replace H:=gD H;obtain⟨DU,A30,H⟩:=H;replace H:=gD H;obtain⟨F7,A31,H⟩:=H;replace H:=gD H;obtain⟨Jl,A32,H⟩:=H;replace H:=gD H;obtain⟨MF,A33,H⟩:=H;replace H:=gD H;obtain⟨⟨aq6,aHA⟩,A34,H⟩:=H;dsimp only at H;replace H:=gB H;rcases H with⟨rfl,H⟩|⟨rfl,H⟩
   ·simp only[Option.some.injEq,Prod.mk.injEq] at H;obtain⟨rfl,rfl,rfl,rfl,rfl,rfl,rfl,rfl,rfl,rfl⟩:=H;go_wp2_with(first|((with_reducible refine lS 82 rfl ?_);refine vI (args:=#[.slice MG mI.length IA,.string (⟨#[109,97,120,45,97,103,101]⟩:af),.int .i64 0,.int .i64 0]) 30 rfl Tryz.func82 (jU.calls kj7 _ _ mI (⟨#[109,97,120,45,97,103,101]⟩:af) 0 0 DU _ zs3 ((Kd.aJ jY.out).2.1) A30.out) fun Og hb HB=>?_;replace jY:=ae.mk (Kd.bz SG hb);replace qQ:=jr (g:=qi) hb;replace bJ:=jr (g:=yj) hb;clear hb;have avt:=wz.out;have avu:=uQ.out;have _:=qH bJ)|((with_reducible refine lS 82 rfl ?_);refine vI (args:=#[.slice MG mI.length IA,.string (⟨#[115,45,109,97,120,97,103,101]⟩:af),.int .i64 0,.int .i64 0]) 33 rfl Tryz.func82 (jU.calls kj7 _ _ mI (⟨#[115,45,109,97,120,97,103,101]⟩:af) 0 0 F7 _ agm ((Kd.aJ jY.out).2.1) A31.out) fun GH hb HB=>?_;replace jY:=ae.mk (Kd.bz YF hb);replace qQ:=jr (g:=qi) hb;replace bJ:=bG.ZY (g:=yj) (o:=.cells #[.bool Ag,.bool Cq,.bool Ah,.bool Ai,.bool oG,.bool Aj,.int .i64 DU,.int .i64 0,.int .i64 0,.int .i64 0] 44 (0,0)) hb;clear hb;have _:=qH bJ)|((with_reducible refine lS 82 rfl ?_);refine vI (args:=#[.slice MG mI.length IA,.string (⟨#[109,97,120,45,115,116,97,108,101]⟩:af),.int .i64 2147483648,.int .i64 0]) 36 rfl Tryz.func82 (jU.calls kj7 _ _ mI (⟨#[109,97,120,45,115,116,97,108,101]⟩:af) 2147483648 0 Jl _ agm ((Kd.aJ jY.out).2.1) A32.out) fun LG hb HB=>?_;replace jY:=ae.mk (Kd.bz YF hb);replace qQ:=jr (g:=qi) hb;replace bJ:=bG.ZY (g:=yj) (o:=.cells #[.bool Ag,.bool Cq,.bool Ah,.bool Ai,.bool oG,.bool Aj,.int .i64 DU,.int .i64 F7,.int .i64 0,.int .i64 0] 44 (0,0)) hb;clear hb;have _:=qH bJ)|((with_reducible refine lS 82 rfl ?_);refine vI (args:=#[.slice MG mI.length IA,.string (⟨#[109,105,110,45,102,114,101,115,104]⟩:af),.int .i64 2147483648,.int .i64 2147483648]) 39 rfl Tryz.func82 (jU.calls kj7 _ _ mI (⟨#[109,105,110,45,102,114,101,115,104]⟩:af) 2147483648 2147483648 MF _ agm ((Kd.aJ jY.out).2.1) A33.out) fun M7 hb HB=>?_;replace jY:=ae.mk (Kd.bz YF hb);replace qQ:=jr (g:=qi) hb;replace bJ:=bG.ZY (g:=yj) (o:=.cells #[.bool Ag,.bool Cq,.bool Ah,.bool Ai,.bool oG,.bool Aj,.int .i64 DU,.int .i64 F7,.int .i64 Jl,.int .i64 0] 44 (0,0)) hb;clear hb;have _:=qH bJ)|((with_reducible refine lS 44 rfl ?_);refine vI 43 rfl Tryz.func44 (mM.calls kj7 _ _ l0 (⟨#[99,97,99,104,101,45,99,111,110,116,114,111,108]⟩:af) aq6 true _ (Kd.ng GL.out dL) GG.out A34.out) fun agp hb HB=>?_;replace jY:=ae.mk (Kd.bz YF hb);replace qQ:=jr (g:=qi) hb;replace bJ:=bG.ZY (g:=yj) (o:=.cells #[.bool Ag,.bool Cq,.bool Ah,.bool Ai,.bool oG,.bool Aj,.int .i64 DU,.int .i64 F7,.int .i64 Jl,.int .i64 MF] 44 (0,0)) hb;clear hb;have _:=qH bJ;have _:=qH qQ));refine bodyPost_ret (results_cell_row rfl _ _ qi 44 #[.bool Ag,.bool Cq,.bool Ah,.bool Ai,.bool oG,.bool Aj,.int .i64 DU,.int .i64 F7,.int .i64 Jl,.int .i64 MF] (0,0) _ rfl gBz Tryz.underlying44 rfl eB) rfl ?_;exact⟨su,dL⟩
   ·replace H:=gD H;obtain⟨V6,A48,H⟩:=H;replace H:=ae.mk H;go_wp2_with(first|((with_reducible refine lS 82 rfl ?_);refine vI (args:=#[.slice MG mI.length IA,.string (⟨#[109,97,120,45,97,103,101]⟩:af),.int .i64 0,.int .i64 0]) 30 rfl Tryz.func82 (jU.calls kj7 _ _ mI (⟨#[109,97,120,45,97,103,101]⟩:af) 0 0 DU _ zs3 ((Kd.aJ jY.out).2.1) A30.out) fun w49 hb HB=>?_;replace jY:=ae.mk (Kd.bz SG hb);replace qQ:=jr (g:=qi) hb;replace bJ:=jr (g:=yj) hb;clear hb;have avv:=wz.out;have avw:=uQ.out;have an8:=Js bJ;have an9:=Jt bJ;have aoa:=Qx bJ;have aob:=QE bJ;have aoc:=QF bJ;have aod:=Pb bJ;have aoe:=cz6 bJ;have aof:=cz7 bJ;have aog:=(ug bJ).2.2.2.2.2.2.2.2.1;have aoh:=(ug bJ).2.2.2.2.2.2.2.2.2;have aoi:=ah bJ.out 0;have aoj:=ah bJ.out 1;have aok:=ah bJ.out 2;have aol:=ah bJ.out 3;have aom:=ah bJ.out 4;have aon:=ah bJ.out 5;have aoo:=ah bJ.out 6;have aop:=ah bJ.out 7;have aoq:=ah bJ.out 8;have aor:=ah bJ.out 9)|((with_reducible refine lS 82 rfl ?_);refine vI (args:=#[.slice MG mI.length IA,.string (⟨#[115,45,109,97,120,97,103,101]⟩:af),.int .i64 0,.int .i64 0]) 33 rfl Tryz.func82 (jU.calls kj7 _ _ mI (⟨#[115,45,109,97,120,97,103,101]⟩:af) 0 0 F7 _ agm ((Kd.aJ jY.out).2.1) A31.out) fun w52 hb HB=>?_;replace jY:=ae.mk (Kd.bz YF hb);replace qQ:=jr (g:=qi) hb;replace bJ:=bG.ZY (g:=yj) (o:=.cells #[.bool Ag,.bool Cq,.bool Ah,.bool Ai,.bool oG,.bool Aj,.int .i64 DU,.int .i64 0,.int .i64 0,.int .i64 0] 44 (0,0)) hb;clear hb;have aos:=Js bJ;have aot:=Jt bJ;have aou:=Qx bJ;have aov:=QE bJ;have aow:=QF bJ;have aox:=Pb bJ;have aoy:=cz6 bJ;have aoz:=cz7 bJ;have aoA:=(ug bJ).2.2.2.2.2.2.2.2.1;have aoB:=(ug bJ).2.2.2.2.2.2.2.2.2;have aoC:=ah bJ.out 0;have aoD:=ah bJ.out 1;have aoE:=ah bJ.out 2;have aoF:=ah bJ.out 3;have aoG:=ah bJ.out 4;have aoH:=ah bJ.out 5;have aoI:=ah bJ.out 6;have aoJ:=ah bJ.out 7;have aoK:=ah bJ.out 8;have aoL:=ah bJ.out 9)|((with_reducible refine lS 82 rfl ?_);refine vI (args:=#[.slice MG mI.length IA,.string (⟨#[109,97,120,45,115,116,97,108,101]⟩:af),.int .i64 2147483648,.int .i64 0]) 36 rfl Tryz.func82 (jU.calls kj7 _ _ mI (⟨#[109,97,120,45,115,116,97,108,101]⟩:af) 2147483648 0 Jl _ agm ((Kd.aJ jY.out).2.1) A32.out) fun w54 hb HB=>?_;replace jY:=ae.mk (Kd.bz YF hb);replace qQ:=jr (g:=qi) hb;replace bJ:=bG.ZY (g:=yj) (o:=.cells #[.bool Ag,.bool Cq,.bool Ah,.bool Ai,.bool oG,.bool Aj,.int .i64 DU,.int .i64 F7,.int .i64 0,.int .i64 0] 44 (0,0)) hb;clear hb;have aoM:=Js bJ;have aoN:=Jt bJ;have aoO:=Qx bJ;have aoP:=QE bJ;have aoQ:=QF bJ;have aoR:=Pb bJ;have aoS:=cz6 bJ;have aoT:=cz7 bJ;have aoU:=(ug bJ).2.2.2.2.2.2.2.2.1;have aoV:=(ug bJ).2.2.2.2.2.2.2.2.2;have aoW:=ah bJ.out 0;have aoX:=ah bJ.out 1;have aoY:=ah bJ.out 2;have aoZ:=ah bJ.out 3;have ao0:=ah bJ.out 4;have ao1:=ah bJ.out 5;have ao2:=ah bJ.out 6;have ao3:=ah bJ.out 7;have ao4:=ah bJ.out 8;have ao5:=ah bJ.out 9)|((with_reducible refine lS 82 rfl ?_);refine vI (args:=#[.slice MG mI.length IA,.string (⟨#[109,105,110,45,102,114,101,115,104]⟩:af),.int .i64 2147483648,.int .i64 2147483648]) 39 rfl Tryz.func82 (jU.calls kj7 _ _ mI (⟨#[109,105,110,45,102,114,101,115,104]⟩:af) 2147483648 2147483648 MF _ agm ((Kd.aJ jY.out).2.1) A33.out) fun w56 hb HB=>?_;replace jY:=ae.mk (Kd.bz YF hb);replace qQ:=jr (g:=qi) hb;replace bJ:=bG.ZY (g:=yj) (o:=.cells #[.bool Ag,.bool Cq,.bool Ah,.bool Ai,.bool oG,.bool Aj,.int .i64 DU,.int .i64 F7,.int .i64 Jl,.int .i64 0] 44 (0,0)) hb;clear hb;have ao6:=Js bJ;have ao7:=Jt bJ;have ao8:=Qx bJ;have ao9:=QE bJ;have apa:=QF bJ;have apb:=Pb bJ;have apc:=cz6 bJ;have apd:=cz7 bJ;have ape:=(ug bJ).2.2.2.2.2.2.2.2.1;have apf:=(ug bJ).2.2.2.2.2.2.2.2.2;have apg:=ah bJ.out 0;have aph:=ah bJ.out 1;have api:=ah bJ.out 2;have apj:=ah bJ.out 3;have apk:=ah bJ.out 4;have apl:=ah bJ.out 5;have apm:=ah bJ.out 6;have apn:=ah bJ.out 7;have apo:=ah bJ.out 8;have apq:=ah bJ.out 9)|((with_reducible refine lS 44 rfl ?_);refine vI 43 rfl Tryz.func44 (mM.calls kj7 _ _ l0 (⟨#[99,97,99,104,101,45,99,111,110,116,114,111,108]⟩:af) aq6 false _ (Kd.ng GL.out dL) GG.out A34.out) fun w58 hb HB=>?_;replace jY:=ae.mk (Kd.bz YF hb);replace qQ:=jr (g:=qi) hb;replace bJ:=bG.ZY (g:=yj) (o:=.cells #[.bool Ag,.bool Cq,.bool Ah,.bool Ai,.bool oG,.bool Aj,.int .i64 DU,.int .i64 F7,.int .i64 Jl,.int .i64 MF] 44 (0,0)) hb;clear hb)|((with_reducible refine lS 80 rfl ?_);refine WK 49 rfl Tryz.func80 (mR.calls kj7 _ _ l0 (⟨#[112,114,97,103,109,97]⟩:af) V6 _ auF GG.out A48.out) ?_;rintro e w59 ⟨ayr,rfl,ho0,hb⟩;refine⟨_,rfl,?_⟩;have atQ:=ae.mk (Kd.gZ (Kd.oF ho0 (Kd.vG SG)) (bq dL));replace jY:=ae.mk (Kd.EX SG (Kd.nH ho0) hb);replace qQ:=jr (g:=qi) hb;replace bJ:=jr (g:=yj) hb;replace HB:=iC hb;clear hb;(try clear ho0)));go_loopg [8] kj7 (fun kq v8 w'=>∃(ZK:Int) (Kw:Bool),v8 = .int .i64 ZK/\ae (bG.l0 kq V6 ZK Ag Kw Ah Ai oG Aj DU F7 Jl MF=some (r1,r2,r3,r4,r5,r6,r7,r8,r9,Y2))/\ae (kq<=kj7)/\ae (Kd.R Kd.string 9 w' w.heap.size (fun _=>True) ayr V6)/\ae (w'.heap[qi]? = some (.cells #[.bool false,.bool false,.bool false,.bool false,.bool false,.bool false,.int .i64 0,.int .i64 0,.int .i64 0,.int .i64 0] 44 (0,0)))/\ae (w'.heap[yj]? = some (.cells #[.bool Ag,.bool Kw,.bool Ah,.bool Ai,.bool oG,.bool Aj,.int .i64 DU,.int .i64 F7,.int .i64 Jl,.int .i64 MF] 44 (0,0)))/\ae (Below w.heap.size w w'))
    case atStart=>exact⟨(0),(Cq),kD,H,⟨Nat.le_refl _⟩,⟨by(with_reducible repeat(first|apply Kd.bR|apply Kd.bP|apply Kd.bV));exact Kd.iR atQ.out (fun _ hk=>trivial)⟩,⟨yz⟩,⟨yz⟩,⟨dL⟩⟩
    case round=>
     clear H;try clear afA
     try clear afB
     try clear afC
     try clear afD
     try clear afE
     try clear afF
     try clear afG
     try clear afH
     try clear afI
     try clear afJ
     try clear an8
     try clear an9
     try clear aoa
     try clear aob
     try clear aoc
     try clear aod
     try clear aoe
     try clear aof
     try clear aog
     try clear aoh
     try clear aos
     try clear aot
     try clear aou
     try clear aov
     try clear aow
     try clear aox
     try clear aoy
     try clear aoz
     try clear aoA
     try clear aoB
     try clear aoM
     try clear aoN
     try clear aoO
     try clear aoP
     try clear aoQ
     try clear aoR
     try clear aoS
     try clear aoT
     try clear aoU
     try clear aoV
     try clear ao6
     try clear ao7
     try clear ao8
     try clear ao9
     try clear apa
     try clear apb
     try clear apc
     try clear apd
     try clear ape
     try clear apf
     try clear afK
     try clear afL
     try clear afM
     try clear afN
     try clear afO
     try clear afP
     try clear afQ
     try clear afR
     try clear afS
     try clear afT
     try clear aoi
     try clear aoj
     try clear aok
     try clear aol
     try clear aom
     try clear aon
     try clear aoo
     try clear aop
     try clear aoq
     try clear aor
     try clear aoC
     try clear aoD
     try clear aoE
     try clear aoF
     try clear aoG
     try clear aoH
     try clear aoI
     try clear aoJ
     try clear aoK
     try clear aoL
     try clear aoW
     try clear aoX
     try clear aoY
     try clear aoZ
     try clear ao0
     try clear ao1
     try clear ao2
     try clear ao3
     try clear ao4
     try clear ao5
     try clear apg
     try clear aph
     try clear api
     try clear apj
     try clear apk
     try clear apl
     try clear apm
     try clear apn
     try clear apo
     try clear apq
     obtain⟨ZK,Kw,rfl,HA,Cv,acj,qQ,bJ,HB⟩:=hrel;cases gk with
     |zero=>exact absurd HA.out (by simp[bG.l0])
     |succ k2=>
      have H:=HA.out;clear HA;simp only[bG.l0] at H;replace H:=gI H;rcases H with⟨-,aqX,-,H⟩|⟨-,aqX,-,H⟩
      ·replace H:=gB H;rcases H with⟨rfl,H⟩|⟨rfl,H⟩
       ·replace H:=ae.mk H;obtain⟨aJu,aJv,aDS⟩:=Kd.dE acj.out;subst aDS;have aHB:=wz.out;have aHC:=uQ.out;have _:=qH bJ;go_wp2;go_roundg k2
        case measure=>have:=HJ7.out;have:=Cv.out;omega
        case rel=>exact⟨(wrap64 (ZK+1)),(true),kD,H,⟨by have:=HJ7.out;have:=Cv.out;omega⟩,⟨by(with_reducible repeat(first|apply Kd.bR|apply Kd.bP|apply Kd.bV));exact EZ (Kd.nO acj.out bJ.out av) (fun _ hk=>trivial)⟩,⟨yz⟩,⟨yz⟩,⟨dL⟩⟩
       ·replace H:=gN H;obtain⟨-,aHD,-,H⟩:=H;replace H:=gD H;obtain⟨afy,A66,H⟩:=H;replace H:=ae.mk H;obtain⟨aJw,aJx,aDT⟩:=Kd.dE acj.out;subst aDT;have aHE:=wz.out;have aHF:=uQ.out;have _:=qH bJ;have akJ:0<=(ZK:Int):=aX gq;have akK:ZK<(V6.length:Int):=aX gq;obtain⟨aDU,ays,ayt⟩:=Kd.iM (Kd.aJ acj.out).2.2 ZK akJ akK;cases ays
        replace akJ:=eq_true akJ;replace akK:=eq_true akK;go_wp2_with((go_at_call 83;(with_reducible refine(jk.calls (ed ByteArray.empty V6 ZK) afy _ A66.out).mono ?_);rintro e SS ⟨rfl,hb⟩;replace acj:=ae.mk (Kd.bz (by(with_reducible repeat(first|apply Kd.bR|apply Kd.bP|apply Kd.bV));exact acj.out) hb);replace qQ:=jr (g:=qi) hb;replace bJ:=jr (g:=yj) hb;replace HB:=iC hb;clear hb;have _:=qH bJ));go_roundg k2
        case measure=>have:=HJ7.out;have:=Cv.out;omega
        case rel=>exact⟨(wrap64 (ZK+1)),((afy.toList==([110,111,45,99,97,99,104,101]:aM))),kD,H,⟨by have:=HJ7.out;have:=Cv.out;omega⟩,⟨by(with_reducible repeat(first|apply Kd.bR|apply Kd.bP|apply Kd.bV));exact EZ (Kd.nO acj.out bJ.out av) (fun _ hk=>trivial)⟩,⟨yz⟩,⟨yz⟩,⟨dL⟩⟩
      ·simp only[Option.some.injEq,Prod.mk.injEq] at H;obtain⟨rfl,rfl,rfl,rfl,rfl,rfl,rfl,rfl,rfl,rfl⟩:=H;obtain⟨aJy,aJz,aDV⟩:=Kd.dE acj.out;subst aDV;have aHG:=wz.out;have aHH:=uQ.out;have _:=qH bJ;have _:=qH qQ;go_wp2;refine bodyPost_ret (results_cell_row rfl _ _ qi 44 #[.bool Ag,.bool Kw,.bool Ah,.bool Ai,.bool oG,.bool Aj,.int .i64 DU,.int .i64 F7,.int .i64 Jl,.int .i64 MF] (0,0) _ rfl gBz Tryz.underlying44 rfl eB) rfl ?_;exact⟨su,dL⟩
@[reducible,instance] def bG.c:=jM.of 0 Tryz.func48 @bG.calls


def pJ.f (a0:Int):Option (Bool):=if a0>=(-1) then(some (decide (a0<=2147483648))) else(some false)
theorem pJ.calls (a0:Int) (r:Bool) (w:World) (h:pJ.f a0=some r) :
  Calls Tryz.prog 93 #[.int .i64 a0] w fun e w'=>e = .returned (.bool r)/\bL w w':=by
 unfold pJ.f at h;exact uA
@[reducible,instance] def pJ.c:=jM.of 0 Tryz.func93 @pJ.calls

def wy.f (az:Bool) (aA:Bool) (aC:Bool) (bI:Bool) (aG:Bool) (bH:Bool) (aZ:Int) (df:Int) (cZ:Int) (Pt:Int):Option (Bool):=(pJ.f aZ).bind fun ayu=>(if ayu=true then((pJ.f df).bind fun ayv=>(if ayv=true then((pJ.f cZ).bind fun ayw=>(if ayw=true then((pJ.f Pt).bind fun ayx=>(some ayx)) else(some false))) else(some false))) else(some false))
theorem wy.calls (az aA:Bool) (aC bI:Bool) (aG bH:Bool) (aZ df:Int) (cZ Pt:Int) (r:Bool) (w:World) (h:wy.f az aA aC bI aG bH aZ df cZ Pt=some r) :
  Calls Tryz.prog 54 #[.agg #[.bool az,.bool aA,.bool aC,.bool bI,.bool aG,.bool bH,.int .i64 aZ,.int .i64 df,.int .i64 cZ,.int .i64 Pt]] w fun e w'=>e = .returned (.bool r)/\Below w.heap.size w w':=by
 have adh:=Tryz.underlying44;unfold wy.f at h;exact uA
@[reducible,instance] def wy.c:=jM.of 0 Tryz.func54 @wy.calls


def kg.f (k:Nat) (az:ByteArray) (aA:Int) (aC:Int) (bK:List (j6)) (aG:ByteArray) (bH:ByteArray) (aZ:Int) (df:ByteArray) (cZ:Bool) (bD:List (j6)) (bg:ByteArray):Option (Bool):=(qG.f k az).bind fun aDW=>(if aDW=true then((lq.f aA).bind fun aDX=>(if aDX=true then((lq.f aC).bind fun aDY=>(if aDY=true then(if aA<=aC then((fJ.f k bK).bind fun aDZ=>(if aDZ=true then((jR.f k aG bH aZ df cZ bD bg).bind fun aD0=>(if aD0=true then(if aG.toList=([]:aM) then(some (!cZ)) else(some false)) else(some false))) else(some false))) else(some false)) else(some false))) else(some false))) else(some false))
theorem kg.calls (k:Nat) (az:ByteArray) (aA aC:Int) (jy:Option Addr) (jA:Nat) (bK:List (j6)) (aG bH:ByteArray) (aZ:Int) (df:ByteArray) (cZ:Bool) (jB:Option Addr) (jC:Nat) (bD:List (j6)) (bg:ByteArray) (r:Bool) (w:World) (ku:Kd.C tZ w jy bK.length bK) (kv:bK.length<=jA) (ky:Kd.C tZ w jB bD.length bD) (kz:bD.length<=jC) (h:kg.f k az aA aC bK aG bH aZ df cZ bD bg=some r) :
  Calls Tryz.prog 11 #[.agg #[.string az,.int .i64 aA,.int .i64 aC,.slice jy bK.length jA,.string aG,.string bH,.int .i64 aZ,.string df,.bool cZ,.slice jB bD.length jC,.string bg]] w fun e w'=>e = .returned (.bool r)/\Below w.heap.size w w':=by
 have J9:=Tryz.underlying33;have WV:=Tryz.underlying31;have xI:=ae.mk ku;have mD:=ae.mk kv;clear ku kv;have xB:=ae.mk ky;have lg:=ae.mk kz;clear ky kz;unfold kg.f at h;exact uA
@[reducible,instance] def kg.c:=jM.of 0 Tryz.func11 @kg.calls


def ny.f (k:Nat) (l0:List (j6)) (a1:ByteArray):Option (Int×Bool):=(mM.f k l0 a1).bind fun akL=>(if akL.2=true then((ai.f k akL.1).bind fun akM=>(some (akM.1,akM.2))) else(some (0,false)))
theorem ny.calls (k:Nat) (A0:Option Addr) (c0:Nat) (l0:List (j6)) (a1:ByteArray) (r1:Int) (r2:Bool) (w:World) (hr0:Kd.C tZ w A0 l0.length l0) (hc0:l0.length<=c0) (h:ny.f k l0 a1=some (r1,r2)) :
  Calls Tryz.prog 42 #[.slice A0 l0.length c0,.string a1] w fun e w'=>e = .returned (.tuple #[.int .i64 r1,.bool r2])/\Below w.heap.size w w':=by
 have GL:=ae.mk hr0;have GG:=ae.mk hc0;clear hr0 hc0;unfold ny.f at h;exact uA
@[reducible,instance] def ny.c:=jM.of 0 Tryz.func42 @ny.calls

def lZ.f (k:Nat) (az:ByteArray) (aA:Int) (aC:Int) (bK:List (j6)) (aG:ByteArray) (bH:ByteArray) (aZ:Int) (df:ByteArray) (cZ:Bool) (bD:List (j6)) (bg:ByteArray):Option (Int):=(kg.f k az aA aC bK aG bH aZ df cZ bD bg).bind fun ayy=>(if ayy=true then((ny.f k bD (⟨#[100,97,116,101]⟩:af)).bind fun akN=>(if akN.2=true then(some akN.1) else(some aC))) else(some (-1)))
theorem lZ.calls (k:Nat) (az:ByteArray) (aA aC:Int) (jy:Option Addr) (jA:Nat) (bK:List (j6)) (aG bH:ByteArray) (aZ:Int) (df:ByteArray) (cZ:Bool) (jB:Option Addr) (jC:Nat) (bD:List (j6)) (bg:ByteArray) (r:Int) (w:World) (ku:Kd.C tZ w jy bK.length bK) (kv:bK.length<=jA) (ky:Kd.C tZ w jB bD.length bD) (kz:bD.length<=jC) (h:lZ.f k az aA aC bK aG bH aZ df cZ bD bg=some r) :
  Calls Tryz.prog 15 #[.agg #[.string az,.int .i64 aA,.int .i64 aC,.slice jy bK.length jA,.string aG,.string bH,.int .i64 aZ,.string df,.bool cZ,.slice jB bD.length jC,.string bg]] w fun e w'=>e = .returned (.int .i64 r)/\Below w.heap.size w w':=by
 have J9:=Tryz.underlying33;have xI:=ae.mk ku;have mD:=ae.mk kv;clear ku kv;have xB:=ae.mk ky;have lg:=ae.mk kz;clear ky kz;unfold lZ.f at h;exact uA
@[reducible,instance] def lZ.c:=jM.of 0 Tryz.func15 @lZ.calls

def ma.f (a0:Int) (a1:Int):Option (Int):=if a0>a1 then(some a0) else(some a1)
theorem ma.calls (a0 a1 r:Int) (w:World) (h:ma.f a0 a1=some r) :
  Calls Tryz.prog 46 #[.int .i64 a0,.int .i64 a1] w fun e w'=>e = .returned (.int .i64 r)/\bL w w':=by
 unfold ma.f at h;exact uA
@[reducible,instance] def ma.c:=jM.of 0 Tryz.func46 @ma.calls


def jb.f (k:Nat) (az:ByteArray) (aA:Int) (aC:Int) (bK:List (j6)) (aG:ByteArray) (bH:ByteArray) (aZ:Int) (df:ByteArray) (cZ:Bool) (bD:List (j6)) (bg:ByteArray):Option (Int):=(kg.f k az aA aC bK aG bH aZ df cZ bD bg).bind fun ayz=>(if ayz=true then((mM.f k bD (⟨#[97,103,101]⟩:af)).bind fun atS=>((jG.f k atS.1).bind fun atT=>((lZ.f k az aA aC bK aG bH aZ df cZ bD bg).bind fun afU=>((ma.f (wrap64 (aC-afU)) 0).bind fun afV=>((ma.f afV (wrap64 ((wrap64 (atT.1+aC))-aA))).bind fun akO=>(some akO)))))) else(some (-1)))
def jb.T5 : Bool×List (List Nat×List Nat):=(true,[([],[]),([0],[0]),([],[]),([2],[2]),([1,3],[1,3]),([4,3],[4]),([],[]),([],[]),([7],[7]),([6,8],[6,8]),([],[]),([10],[10]),([9,11],[9,11]),([5,12,5],[5,12]),([13,13,0,1,2,3,4,5,6,7,8,9,10,11,12,13],[13])])
def jb.B5 : List Nat:=[0,1,0,4,15,31,0,0,128,448,0,1024,4032,8191,16383]
theorem jb.atE : pX .any (opsOf Tryz.f17 5)=jb.T5:=by kernel_rfl
theorem jb.ako : jK jb.T5.2 jb.B5=true:=by kernel_rfl
theorem jb.calls (k:Nat) (az:ByteArray) (aA aC:Int) (jy:Option Addr) (jA:Nat) (bK:List (j6)) (aG bH:ByteArray) (aZ:Int) (df:ByteArray) (cZ:Bool) (jB:Option Addr) (jC:Nat) (bD:List (j6)) (bg:ByteArray) (r:Int) (w:World) (ku:Kd.C tZ w jy bK.length bK) (kv:bK.length<=jA) (ky:Kd.C tZ w jB bD.length bD) (kz:bD.length<=jC) (h:jb.f k az aA aC bK aG bH aZ df cZ bD bg=some r) :
  Calls Tryz.prog 17 #[.agg #[.string az,.int .i64 aA,.int .i64 aC,.slice jy bK.length jA,.string aG,.string bH,.int .i64 aZ,.string df,.bool cZ,.slice jB bD.length jC,.string bg]] w fun e w'=>e = .returned (.int .i64 r)/\Below w.heap.size w w':=by
 have J9:=Tryz.underlying33;have xI:=ae.mk ku;have mD:=ae.mk kv;clear ku kv;have xB:=ae.mk ky;have lg:=ae.mk kz;clear ky kz;have HB:=ae.mk (Below.refl w.heap.size w);have H:=ae.mk h;clear h;unfold jb.f at H;rcases D6 H with⟨A2,H⟩|⟨A2,H⟩
 ·obtain⟨⟨aq7,ayA⟩,A4,H⟩:=xE H;dsimp only at H;obtain⟨⟨aq8,ayB⟩,A5,H⟩:=xE H;dsimp only at H;obtain⟨afU,A6,H⟩:=xE H;obtain⟨afV,A7,H⟩:=xE H;obtain⟨akO,A8,H⟩:=xE H;obtain rfl:=gK H.out;go_enter Tryz.func17,Tryz.ntmps17;try go_wp2_with(first|((with_reducible refine vJ 1 rfl ?_);refine qo #[.string az,.int .i64 aA,.int .i64 aC,.slice jy bK.length jA,.string aG,.string bH,.int .i64 aZ,.string df,.bool cZ,.slice jB bD.length jC,.string bg] 33 ?_;intro zU hg mo hbox hb;have Ba:=ae.mk (hbox);have aD1:=rE hg;replace HB:=iC hb;clear hb hbox hg;obtain⟨_,_,_,_,_,_,_,_,_,_,_⟩:=rV Ba;obtain⟨_,_,_,_,_,_,_,_,_,_,_⟩:=KV Ba)|((with_reducible refine lS 11 rfl ?_);refine vI 8 rfl Tryz.func11 (kg.calls k az aA aC _ _ bK aG bH aZ df cZ _ _ bD bg true _ RL mD.out MX lg.out A2.out) fun mV hb _=>?_;replace Ba:=jr (g:=zU) hb;replace HB:=iC hb;(try clear hb);obtain⟨_,_,_,_,_,_,_,_,_,_,_⟩:=rV Ba;obtain⟨_,_,_,_,_,_,_,_,_,_,_⟩:=KV Ba)|((with_reducible refine lS 44 rfl ?_);refine vI 14 rfl Tryz.func44 (mM.calls k _ _ bD (⟨#[97,103,101]⟩:af) aq7 ayA _ MX lg.out A4.out) fun tT hb _=>?_;replace Ba:=jr (g:=zU) hb;replace HB:=iC hb;(try clear hb))|((with_reducible refine lS 45 rfl ?_);refine MW 19 rfl Tryz.func45 (jG.calls k aq7 aq8 ayB _ A5.out) fun nd=>?_))
  (try(rw[qW tT];generalize hq_:World.drewN tT _=tT;have yc:ae (tT.heap[zU]? = some (.cells #[.string az,.int .i64 aA,.int .i64 aC,.slice jy bK.length jA,.string aG,.string bH,.int .i64 aZ,.string df,.bool cZ,.slice jB bD.length jC,.string bg] 33 (0,0))):=⟨by rw[<- hq_];exact(by(with_reducible repeat(first|refine jV ?_ _|refine dh ?_|refine kU ?_ _));exact Ba.out)⟩;have Mj:ae (Below w.heap.size w tT):=⟨by rw[<- hq_];exact dL⟩;clear Ba HB hq_;have Ba:=yc;have HB:=Mj;clear yc Mj))
  replace Ba:=ae.mk (dh Ba.out);replace HB:=ae.mk (bn HB.out);refine kJ (n:=15) (S:=fun w'=>w'.cell? ⟨zU,0,none⟩=some (.string az)/\w'.cell? ⟨zU,1,none⟩=some (.int .i64 aA)/\w'.cell? ⟨zU,2,none⟩=some (.int .i64 aC)/\w'.cell? ⟨zU,3,none⟩=some (.slice jy bK.length jA)/\w'.cell? ⟨zU,4,none⟩=some (.string aG)/\w'.cell? ⟨zU,5,none⟩=some (.string bH)/\w'.cell? ⟨zU,6,none⟩=some (.int .i64 aZ)/\w'.cell? ⟨zU,7,none⟩=some (.string df)/\w'.cell? ⟨zU,8,none⟩=some (.bool cZ)/\w'.cell? ⟨zU,9,none⟩=some (.slice jB bD.length jC)/\w'.cell? ⟨zU,10,none⟩=some (.string bg)) (ds:=[]) (rV Ba) (fun hHeld=>?_);refine dY jb.atE jb.ako (fun HT_ HW_=>?_);generalize tT.drew=GH at Ba HB hHeld ⊢;repeat(first|refine mr ?_ (hy:=Or.inl ⟨by rfl,SL⟩)|refine ek ?_)
  refine bN 6 (some 28) ?_;refine bN 7 (some 29) ?_;refine fQ 8 (some 30) (hy:=Or.inl ⟨by rfl,SL⟩) ?_;refine bN 9 (some 31) ?_;refine bN 10 (some 32) ?_;refine fQ 11 (some 33) (hy:=Or.inl ⟨by rfl,SL⟩) ?_;refine bN 12 (some 34) ?_;refine gV (fun K hK=>?_);refine EC Tryz.func15 (lZ.calls k az aA aC _ _ bK aG bH aZ df cZ _ _ bD bg afU _ RL mD.out MX lg.out A6.out) fun LG hb=>?_;replace Ba:=jr (g:=zU) hb;replace HB:=iC hb;(try clear hb)
  refine hK.out _ _ (rV Ba) (fun hHeld=>?_);clear hK K;refine dI ?_;repeat(first|refine ek ?_)
  refine gV (fun K hK=>?_);refine Iw Tryz.func46 (ma.calls (wrap64 (aC-afU)) 0 afV _ A7.out) fun nd=>?_;refine hK.out _ _ (rV Ba) (fun hHeld=>?_);clear hK K;refine dI ?_;refine gV (fun K hK=>?_);refine Iw Tryz.func46 (ma.calls afV (wrap64 ((wrap64 (aq8+aC))-aA)) akO _ A8.out) fun nd=>?_;refine hK.out _ _ (rV Ba) (fun hHeld=>?_);clear hK K;refine dI ?_;repeat(first|refine ek ?_)
  refine lh (gP HT_.out eB) ?_;try go_wp2
  go_ret;exact⟨su,dL⟩
 ·exact uE
@[reducible,instance] def jb.c:=jM.of 0 Tryz.func17 @jb.calls


def jI.f (k:Nat) (az:ByteArray) (aA:Int) (aC:Int) (bK:List (j6)) (aG:ByteArray) (bH:ByteArray) (aZ:Int) (df:ByteArray) (cZ:Bool) (bD:List (j6)) (bg:ByteArray) (a1:Int):Option (Int):=(kg.f k az aA aC bK aG bH aZ df cZ bD bg).bind fun ayC=>(if ayC=true then((lq.f a1).bind fun ayD=>(if ayD=true then(if a1<aC then(some (-1)) else((jb.f k az aA aC bK aG bH aZ df cZ bD bg).bind fun akP=>(some (wrap64 ((wrap64 (akP+a1))-aC))))) else(some (-1)))) else(some (-1)))
def jI.T3 : Bool×List (List Nat×List Nat):=(true,[([],[]),([0],[0]),([],[]),([1,2],[1,2]),([],[]),([4],[4]),([3,5],[3,5]),([6,1,0,1,2,3,4,5,6],[6])])
def jI.B3 : List Nat:=[0,1,0,7,0,16,63,127]
theorem jI.UR : pX .any (opsOf Tryz.f19 3)=jI.T3:=by kernel_rfl
theorem jI.LJ : jK jI.T3.2 jI.B3=true:=by kernel_rfl
theorem jI.e0 {p:Prop} (h:p:=by
  obtain rfl:=gK H.out
  go_enter Tryz.func19,Tryz.ntmps19
  go_wp2_with(first|((with_reducible refine vJ 2 rfl ?_);refine qo #[.string az,.int .i64 aA,.int .i64 aC,.slice jy bK.length jA,.string aG,.string bH,.int .i64 aZ,.string df,.bool cZ,.slice jB bD.length jC,.string bg] 33 ?_;intro yl hg mo hbox hb;have Ba:=ae.mk (hbox);have atU:=rE hg;replace HB:=iC hb;clear hb hbox hg;obtain⟨_,_,_,_,_,_,_,_,_,_,_⟩:=rV Ba;obtain⟨_,_,_,_,_,_,_,_,_,_,_⟩:=KV Ba)|((with_reducible refine lS 11 rfl ?_);refine vI 6 rfl Tryz.func11 (kg.calls k az aA aC _ _ bK aG bH aZ df cZ _ _ bD bg false _ RL mD.out MX lg.out A3.out) fun LG hb _=>?_;replace Ba:=jr (g:=yl) hb;replace HB:=iC hb;(try clear hb))|((with_reducible refine lS 11 rfl ?_);refine vI 6 rfl Tryz.func11 (kg.calls k az aA aC _ _ bK aG bH aZ df cZ _ _ bD bg true _ RL mD.out MX lg.out A3.out) fun mV hb _=>?_;replace Ba:=jr (g:=yl) hb;replace HB:=iC hb;(try clear hb))|(go_at_call 31;(with_reducible refine(lq.calls a1 false _ A5.out).mono ?_);rintro e w' ⟨rfl,⟨nd,rfl⟩⟩)|(go_at_call 31;(with_reducible refine(lq.calls a1 true _ A5.out).mono ?_);rintro e w' ⟨rfl,⟨nd,rfl⟩⟩;obtain⟨_,_,_,_,_,_,_,_,_,_,_⟩:=rV Ba;obtain⟨_,_,_,_,_,_,_,_,_,_,_⟩:=KV Ba))
  go_ret
  exact⟨su,dL⟩):p:=h
theorem jI.calls (k:Nat) (az:ByteArray) (aA aC:Int) (jy:Option Addr) (jA:Nat) (bK:List (j6)) (aG bH:ByteArray) (aZ:Int) (df:ByteArray) (cZ:Bool) (jB:Option Addr) (jC:Nat) (bD:List (j6)) (bg:ByteArray) (a1 r:Int) (w:World) (ku:Kd.C tZ w jy bK.length bK) (kv:bK.length<=jA) (ky:Kd.C tZ w jB bD.length bD) (kz:bD.length<=jC) (h:jI.f k az aA aC bK aG bH aZ df cZ bD bg a1=some r) :
  Calls Tryz.prog 19 #[.agg #[.string az,.int .i64 aA,.int .i64 aC,.slice jy bK.length jA,.string aG,.string bH,.int .i64 aZ,.string df,.bool cZ,.slice jB bD.length jC,.string bg],.int .i64 a1] w fun e w'=>e = .returned (.int .i64 r)/\Below w.heap.size w w':=by
 have J9:=Tryz.underlying33;have xI:=ae.mk ku;have mD:=ae.mk kv;clear ku kv;have xB:=ae.mk ky;have lg:=ae.mk kz;clear ky kz;have HB:=ae.mk (Below.refl w.heap.size w);have H:=ae.mk h;clear h;unfold jI.f at H;rcases D6 H with⟨A3,H⟩|⟨A3,H⟩
 ·rcases D6 H with⟨A5,H⟩|⟨A5,H⟩
  ·rcases GM H with⟨-,Am,-,H⟩|⟨-,Am,-,H⟩
   ·exact jI.e0
   ·obtain⟨akP,Y3,H⟩:=xE H;obtain rfl:=gK H.out;go_enter Tryz.func19,Tryz.ntmps19;try go_wp2_with(first|((with_reducible refine vJ 2 rfl ?_);refine qo #[.string az,.int .i64 aA,.int .i64 aC,.slice jy bK.length jA,.string aG,.string bH,.int .i64 aZ,.string df,.bool cZ,.slice jB bD.length jC,.string bg] 33 ?_;intro yl hg mo hbox hb;have Ba:=ae.mk (hbox);have atU:=rE hg;replace HB:=iC hb;clear hb hbox hg;obtain⟨_,_,_,_,_,_,_,_,_,_,_⟩:=rV Ba;obtain⟨_,_,_,_,_,_,_,_,_,_,_⟩:=KV Ba)|((with_reducible refine lS 11 rfl ?_);refine vI 6 rfl Tryz.func11 (kg.calls k az aA aC _ _ bK aG bH aZ df cZ _ _ bD bg true _ RL mD.out MX lg.out A3.out) fun mV hb _=>?_;replace Ba:=jr (g:=yl) hb;replace HB:=iC hb;(try clear hb))|(go_at_call 31;(with_reducible refine(lq.calls a1 true _ A5.out).mono ?_);rintro e w' ⟨rfl,⟨nd,rfl⟩⟩;obtain⟨_,_,_,_,_,_,_,_,_,_,_⟩:=rV Ba;obtain⟨_,_,_,_,_,_,_,_,_,_,_⟩:=KV Ba))
    (try(rw[qW mV];generalize hq_:World.drewN mV _=mV;have yJ:ae (mV.heap[yl]? = some (.cells #[.string az,.int .i64 aA,.int .i64 aC,.slice jy bK.length jA,.string aG,.string bH,.int .i64 aZ,.string df,.bool cZ,.slice jB bD.length jC,.string bg] 33 (0,0))):=⟨by rw[<- hq_];exact(by(with_reducible repeat(first|refine jV ?_ _|refine dh ?_|refine kU ?_ _));exact Ba.out)⟩;have xY:ae (Below w.heap.size w mV):=⟨by rw[<- hq_];exact dL⟩;clear Ba HB hq_;have Ba:=yJ;have HB:=xY;clear yJ xY))
    replace Ba:=ae.mk (dh Ba.out);replace HB:=ae.mk (bn HB.out);refine kJ (n:=8) (S:=fun w'=>w'.cell? ⟨yl,0,none⟩=some (.string az)/\w'.cell? ⟨yl,1,none⟩=some (.int .i64 aA)/\w'.cell? ⟨yl,2,none⟩=some (.int .i64 aC)/\w'.cell? ⟨yl,3,none⟩=some (.slice jy bK.length jA)/\w'.cell? ⟨yl,4,none⟩=some (.string aG)/\w'.cell? ⟨yl,5,none⟩=some (.string bH)/\w'.cell? ⟨yl,6,none⟩=some (.int .i64 aZ)/\w'.cell? ⟨yl,7,none⟩=some (.string df)/\w'.cell? ⟨yl,8,none⟩=some (.bool cZ)/\w'.cell? ⟨yl,9,none⟩=some (.slice jB bD.length jC)/\w'.cell? ⟨yl,10,none⟩=some (.string bg)) (ds:=[]) (rV Ba) (fun hHeld=>?_);refine dY jI.UR jI.LJ (fun HT_ HW_=>?_);generalize mV.drew=Og at Ba HB hHeld ⊢;repeat(first|refine mr ?_ (hy:=Or.inl ⟨by rfl,SL⟩)|refine ek ?_)
    refine bN 2 (some 21) ?_;refine bN 4 (some 23) ?_;refine fQ 5 (some 24) (hy:=Or.inl ⟨by rfl,SL⟩) ?_;refine gV (fun K hK=>?_);refine EC Tryz.func17 (jb.calls k az aA aC _ _ bK aG bH aZ df cZ _ _ bD bg akP _ RL mD.out MX lg.out Y3.out) fun GH hb=>?_;replace Ba:=jr (g:=yl) hb;replace HB:=iC hb;(try clear hb)
    refine hK.out _ _ (rV Ba) (fun hHeld=>?_);clear hK K;refine dI ?_;repeat(first|refine ek ?_)
    refine lh (gP HT_.out eB) ?_;try go_wp2
    go_ret;exact⟨su,dL⟩
  ·exact jI.e0
 ·exact jI.e0
@[reducible,instance] def jI.c:=jM.of 0 Tryz.func19 @jI.calls


def qB.f (a0:Int):Option (Bool):=if a0=200 then(some true) else(if a0=203 then(some true) else(if a0=204 then(some true) else(if a0=300 then(some true) else(if a0=301 then(some true) else(if a0=308 then(some true) else(if a0=404 then(some true) else(if a0=405 then(some true) else(if a0=410 then(some true) else(if a0=414 then(some true) else(if a0=501 then(some true) else(some false)))))))))))
theorem qB.calls (a0:Int) (r:Bool) (w:World) (h:qB.f a0=some r) :
  Calls Tryz.prog 49 #[.int .i64 a0] w fun e w'=>e = .returned (.bool r)/\bL w w':=by
 unfold qB.f at h;exact uA
@[reducible,instance] def qB.c:=jM.of 0 Tryz.func49 @qB.calls

end Go.Proofs.YtfhllanhldbkkaaGreatDoor.P
