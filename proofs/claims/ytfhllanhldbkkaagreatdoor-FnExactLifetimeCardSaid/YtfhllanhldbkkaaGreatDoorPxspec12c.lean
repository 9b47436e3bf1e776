import Derived.Test.YtfhllanhldbkkaaGreatDoorPxspec07b
namespace Go.Proofs.YtfhllanhldbkkaaGreatDoor.P
set_option maxHeartbeats 8000000
set_option maxRecDepth 100000
open Go.RowKit Go.Proofs.YtfhllanhldbkkaaGreatDoorW.bf Go.Proofs.YtfhllanhldbkkaaGreatDoorW.iK Go.Proofs.YtfhllanhldbkkaaGreatDoorW.kG
attribute [local go_sem] rE rF uF uG pE pF rG rH   -- for this text's walks alone
set_option linter.unusedVariables false
set_option linter.unusedSimpArgs false

mutual
def bJ.j0 : Nat->List (lq)->List ByteArray->Bool->Bool->Bool->Bool->Bool->Bool->Int->Int->Int->Int->Option (Bool×Bool×Bool×Bool×Bool×Bool×Int×Int×Int×Int)
 |0,_,_,_,_,_,_,_,_,_,_,_,_=>none
 |k+1,x0,x3,BF,Ey,BG,BH,BI,BJ,Jn,Jo,Jp,Jq=>(iF.f k x3 (⟨#[109,97,120,45,97,103,101]⟩:af) 0 0).bind fun xU=>((iF.f k x3 (⟨#[115,45,109,97,120,97,103,101]⟩:af) 0 0).bind fun zX=>((iF.f k x3 (⟨#[109,97,120,45,115,116,97,108,101]⟩:af) 2147483648 0).bind fun BK=>((iF.f k x3 (⟨#[109,105,110,45,102,114,101,115,104]⟩:af) 2147483648 2147483648).bind fun Ez=>((nC.f k x0 (⟨#[99,97,99,104,101,45,99,111,110,116,114,111,108]⟩:af)).bind fun art=>(if art.2=true then(some (BF,Ey,BG,BH,BI,BJ,xU,zX,BK,Ez)) else((oF.f k x0 (⟨#[112,114,97,103,109,97]⟩:af)).bind fun Pp=>(bJ.l0 k Pp 0 BF Ey BG BH BI BJ xU zX BK Ez)))))))
def bJ.l0 : Nat->List ByteArray->Int->Bool->Bool->Bool->Bool->Bool->Bool->Int->Int->Int->Int->Option (Bool×Bool×Bool×Bool×Bool×Bool×Int×Int×Int×Int)
 |0,_,_,_,_,_,_,_,_,_,_,_,_=>none
 |k+1,x7,x8,BF,Ey,BG,BH,BI,BJ,Jn,Jo,Jp,Jq=>if x8<(x7.length:Int) then(if Ey=true then(bJ.l0 k x7 (wrap64 (x8+1)) BF true BG BH BI BJ Jn Jo Jp Jq) else(if 0<=x8 then((il.f (dh ByteArray.empty x7 x8)).bind fun acf=>(bJ.l0 k x7 (wrap64 (x8+1)) BF (acf.toList==([110,111,45,99,97,99,104,101]:aQ)) BG BH BI BJ Jn Jo Jp Jq)) else(none))) else(some (BF,Ey,BG,BH,BI,BJ,Jn,Jo,Jp,Jq))
end
def bJ.f (k:Nat) (l0:List (lq)):Option (Bool×Bool×Bool×Bool×Bool×Bool×Int×Int×Int×Int):=(oF.f k l0 (⟨#[99,97,99,104,101,45,99,111,110,116,114,111,108]⟩:af)).bind fun kL=>((iB.f k kL (⟨#[110,111,45,115,116,111,114,101]⟩:af)).bind fun vk=>((iB.f k kL (⟨#[110,111,45,99,97,99,104,101]⟩:af)).bind fun wY=>((iB.f k kL (⟨#[112,114,105,118,97,116,101]⟩:af)).bind fun vo=>((iB.f k kL (⟨#[112,117,98,108,105,99]⟩:af)).bind fun vv=>((iB.f k kL (⟨#[111,110,108,121,45,105,102,45,99,97,99,104,101,100]⟩:af)).bind fun vw=>((iB.f k kL (⟨#[109,117,115,116,45,114,101,118,97,108,105,100,97,116,101]⟩:af)).bind fun avM=>(if avM=true then(bJ.j0 k l0 kL vk wY vo vv true vw 0 0 0 0) else((iB.f k kL (⟨#[112,114,111,120,121,45,114,101,118,97,108,105,100,97,116,101]⟩:af)).bind fun acg=>(bJ.j0 k l0 kL vk wY vo vv acg vw 0 0 0 0)))))))))
theorem bJ.gBs {p:Prop} (h:p:=by repeat(first|(with_reducible first|exact aa.out (by assumption)|apply qL|(apply Bh;assumption)|apply kH|apply eu|apply lX)|(simp only[List.setIfInBounds_toArray,List.set_cons_zero,List.set_cons_succ];with_reducible rfl)|(simp only[List.setIfInBounds_toArray,List.set_cons_zero,List.set_cons_succ];done)|exact(rfl:(_:Array Value)=_))):p:=h
theorem bJ.Vi {W w1:World} {g:Nat} {o:Obj} (hb:Below W.heap.size W w1) (h:W.heap[g]? = some o:=by exact bJ.gBs):aa (w1.heap[g]? = some o):=⟨ou h hb⟩
theorem bJ.calls (k:Nat) (A0:Option Addr) (c0:Nat) (l0:List (lq)) (r1 r2:Bool) (r3 r4:Bool) (r5 r6:Bool) (r7 r8:Int) (r9 YX:Int) (w:World) (hr0:Kd.C wQ w A0 l0.length l0) (hc0:l0.length<=c0) (h:bJ.f k l0=some (r1,r2,r3,r4,r5,r6,r7,r8,r9,YX)) :
  Calls Tryz.prog 48 #[.slice A0 l0.length c0] w fun e w'=>e = .returned (.agg #[.bool r1,.bool r2,.bool r3,.bool r4,.bool r5,.bool r6,.int .i64 r7,.int .i64 r8,.int .i64 r9,.int .i64 YX])/\Below w.heap.size w w':=by
 have atJ:=Tryz.underlying44;have wR:=aa.mk hr0;have xw:=aa.mk hc0;clear hr0 hc0;have HB:=aa.mk (Below.refl w.heap.size w);have H:=h;clear h;unfold bJ.f at H;replace H:=gD H;obtain⟨kL,A2,H⟩:=H;replace H:=gD H;obtain⟨vk,A3,H⟩:=H;replace H:=gD H;obtain⟨wY,A4,H⟩:=H;replace H:=gD H;obtain⟨vo,A5,H⟩:=H;replace H:=gD H;obtain⟨vv,A6,H⟩:=H;replace H:=gD H;obtain⟨vw,A7,H⟩:=H;have HC8:=aa.mk H;clear H;go_enter Tryz.func48,Tryz.ntmps48;go_upto_region 3 with(first|((with_reducible refine lT 2 rfl ?_);refine Fp #[.bool false,.bool false,.bool false,.bool false,.bool false,.bool false,.int .i64 0,.int .i64 0,.int .i64 0,.int .i64 0] 44 ?_;clear HB;intro mV w9 nJ aAr HB)|((with_reducible refine cZ 80 rfl ?_);refine NL 10 rfl Tryz.func80 (oF.calls k _ _ l0 (⟨#[99,97,99,104,101,45,99,111,110,116,114,111,108]⟩:af) kL _ asP xw.out A2.out) ?_;rintro e w10 ⟨aDy,rfl,ho0,hb⟩;refine⟨_,rfl,?_⟩;have oD:=aa.mk (Kd.gu ho0 (aN aX));replace nJ:=eF (g:=mV) hb;replace HB:=fw hb;clear hb;(try clear ho0);obtain⟨EA,Bi,aru⟩:=Kd.eD oD.out;subst aru)|((with_reducible refine cZ 81 rfl ?_);refine iW (args:=#[.slice EA kL.length Bi,.string (⟨#[110,111,45,115,116,111,114,101]⟩:af)]) 12 rfl Tryz.func81 (iB.calls k _ _ kL (⟨#[110,111,45,115,116,111,114,101]⟩:af) vk _ adw ((Kd.aH oD.out).2.1) A3.out) fun DF hb HB=>?_;replace oD:=aa.mk (Kd.bL Zf hb);replace nJ:=eF (g:=mV) hb;clear hb)|((with_reducible refine cZ 81 rfl ?_);refine iW (args:=#[.slice EA kL.length Bi,.string (⟨#[110,111,45,99,97,99,104,101]⟩:af)]) 14 rfl Tryz.func81 (iB.calls k _ _ kL (⟨#[110,111,45,99,97,99,104,101]⟩:af) wY _ adw ((Kd.aH oD.out).2.1) A4.out) fun AX hb HB=>?_;replace oD:=aa.mk (Kd.bL Zf hb);replace nJ:=eF (g:=mV) hb;clear hb)|((with_reducible refine cZ 81 rfl ?_);refine iW (args:=#[.slice EA kL.length Bi,.string (⟨#[112,114,105,118,97,116,101]⟩:af)]) 16 rfl Tryz.func81 (iB.calls k _ _ kL (⟨#[112,114,105,118,97,116,101]⟩:af) vo _ adw ((Kd.aH oD.out).2.1) A5.out) fun w14 hb HB=>?_;replace oD:=aa.mk (Kd.bL Zf hb);replace nJ:=eF (g:=mV) hb;clear hb)|((with_reducible refine cZ 81 rfl ?_);refine iW (args:=#[.slice EA kL.length Bi,.string (⟨#[112,117,98,108,105,99]⟩:af)]) 18 rfl Tryz.func81 (iB.calls k _ _ kL (⟨#[112,117,98,108,105,99]⟩:af) vv _ adw ((Kd.aH oD.out).2.1) A6.out) fun w15 hb HB=>?_;replace oD:=aa.mk (Kd.bL Zf hb);replace nJ:=eF (g:=mV) hb;clear hb)|((with_reducible refine cZ 81 rfl ?_);refine iW (args:=#[.slice EA kL.length Bi,.string (⟨#[111,110,108,121,45,105,102,45,99,97,99,104,101,100]⟩:af)]) 20 rfl Tryz.func81 (iB.calls k _ _ kL (⟨#[111,110,108,121,45,105,102,45,99,97,99,104,101,100]⟩:af) vw _ adw ((Kd.aH oD.out).2.1) A7.out) fun w16 hb HB=>?_;replace oD:=aa.mk (Kd.bL Zf hb);replace nJ:=eF (g:=mV) hb;clear hb)|((with_reducible refine lT 4 rfl ?_);refine jL #[.bool false,.bool false,.bool false,.bool false,.bool false,.bool false,.int .i64 0,.int .i64 0,.int .i64 0,.int .i64 0] 44 ?_;intro tq hg w17 hbox hb;have aT:=aa.mk (hbox);have aAs:=lJ hg;have qg:=CZ (g:=mV) hg;have rf:=DL qg;replace oD:=aa.mk (Kd.bL Zf hb);replace nJ:=eF (g:=mV) hb;replace HB:=fw hb;clear hb hbox hg;have af7:=rf.out;have af8:=qg.out;have ach:=Dz aT;have aci:=DC aT;have acj:=L8 aT;have Nc:=MV aT;have Nf:=L9 aT;have Ng:=Gj aT;have ack:=cz6 aT;have acm:=cz7 aT;have acn:=(xJ aT).2.2.2.2.2.2.2.2.1;have aco:=(xJ aT).2.2.2.2.2.2.2.2.2;have acp:=ag aT.out 0;have acr:=ag aT.out 1;have acs:=ag aT.out 2;have acu:=ag aT.out 3;have acv:=ag aT.out 4;have acw:=ag aT.out 5;have acx:=ag aT.out 6;have acy:=ag aT.out 7;have acz:=ag aT.out 8;have acA:=ag aT.out 9));(try simp only[Act.put,List.setIfInBounds_toArray,List.set_cons_zero,List.set_cons_succ])
 go_cut [] (fun wc=>∃(kq:Nat) (lV:Bool),aa (bJ.j0 kq l0 kL vk wY vo vv lV vw 0 0 0 0=some (r1,r2,r3,r4,r5,r6,r7,r8,r9,YX))/\aa (kq<=k)/\aa (Kd.R Kd.string 9 wc w.heap.size (fun _=>True) (.slice EA kL.length Bi) kL)/\aa (wc.heap[mV]? = some (.cells #[.bool false,.bool false,.bool false,.bool false,.bool false,.bool false,.int .i64 0,.int .i64 0,.int .i64 0,.int .i64 0] 44 (0,0)))/\aa (wc.heap[tq]? = some (.cells #[.bool vk,.bool wY,.bool vo,.bool vv,.bool lV,.bool vw,.int .i64 0,.int .i64 0,.int .i64 0,.int .i64 0] 44 (0,0)))/\aa (Below w.heap.size w wc))
 case first=>
  have H:=HC8.out;clear HC8;replace H:=xE H;rcases H with⟨A20,H⟩|⟨A20,H⟩
  ·replace H:=aa.mk H;go_wp2_with(((with_reducible refine cZ 81 rfl ?_);refine iW (args:=#[.slice EA kL.length Bi,.string (⟨#[109,117,115,116,45,114,101,118,97,108,105,100,97,116,101]⟩:af)]) 23 rfl Tryz.func81 (iB.calls k _ _ kL (⟨#[109,117,115,116,45,114,101,118,97,108,105,100,97,116,101]⟩:af) true _ asQ ((Kd.aH oD.out).2.1) A20.out) fun gG hb HB=>?_;replace oD:=aa.mk (Kd.bL apC hb);replace nJ:=eF (g:=mV) hb;replace aT:=bJ.Vi (g:=tq) (o:=.cells #[.bool vk,.bool wY,.bool vo,.bool vv,.bool false,.bool vw,.int .i64 0,.int .i64 0,.int .i64 0,.int .i64 0] 44 (0,0)) hb;clear hb;have aDz:=rf.out;have aDA:=qg.out;have _:=zl aT));go_meet
   case rel=>exact⟨_,(true),H,⟨tT⟩,⟨by(with_reducible repeat(first|apply Kd.cK|apply Kd.cz|apply Kd.dB));exact Cg (Kd.mJ oD.out aT.out aA) (fun _ hk=>trivial)⟩,⟨oQ⟩,⟨oQ⟩,⟨aX⟩⟩
  ·replace H:=gD H;obtain⟨acg,UD,H⟩:=H;replace H:=aa.mk H;go_wp2_with(first|((with_reducible refine cZ 81 rfl ?_);refine iW (args:=#[.slice EA kL.length Bi,.string (⟨#[109,117,115,116,45,114,101,118,97,108,105,100,97,116,101]⟩:af)]) 23 rfl Tryz.func81 (iB.calls k _ _ kL (⟨#[109,117,115,116,45,114,101,118,97,108,105,100,97,116,101]⟩:af) false _ asQ ((Kd.aH oD.out).2.1) A20.out) fun jH hb HB=>?_;replace oD:=aa.mk (Kd.bL apC hb);replace nJ:=eF (g:=mV) hb;replace aT:=bJ.Vi (g:=tq) (o:=.cells #[.bool vk,.bool wY,.bool vo,.bool vv,.bool false,.bool vw,.int .i64 0,.int .i64 0,.int .i64 0,.int .i64 0] 44 (0,0)) hb;clear hb)|(go_at_call 81;(with_reducible refine(iB.calls k _ _ kL (⟨#[112,114,111,120,121,45,114,101,118,97,108,105,100,97,116,101]⟩:af) acg _ ?nG ?nH UD.out).mono ?_);(case nG=>exact adw);(case nH=>exact(Kd.aH oD.out).2.1);rintro e mP ⟨rfl,hb⟩;replace oD:=aa.mk (Kd.bL Zf hb);replace nJ:=eF (g:=mV) hb;replace aT:=eF (g:=tq) hb;replace HB:=fw hb;clear hb;have aDB:=rf.out;have aDC:=qg.out;have _:=zl aT));go_meet
   case rel=>exact⟨_,(acg),H,⟨tT⟩,⟨by(with_reducible repeat(first|apply Kd.cK|apply Kd.cz|apply Kd.dB));exact Cg (Kd.mJ oD.out aT.out aA) (fun _ hk=>trivial)⟩,⟨oQ⟩,⟨oQ⟩,⟨aX⟩⟩
 case rest=>
  clear HC8;try clear ach
  try clear aci
  try clear acj
  try clear Nc
  try clear Nf
  try clear Ng
  try clear ack
  try clear acm
  try clear acn
  try clear aco
  try clear acp
  try clear acr
  try clear acs
  try clear acu
  try clear acv
  try clear acw
  try clear acx
  try clear acy
  try clear acz
  try clear acA
  obtain⟨kq,lV,HA,HJ7,iV,nJ,aT,HB⟩:=hcut;cases kq with
  |zero=>exact absurd HA.out (by simp[bJ.j0])
  |succ kj7=>
   have H:=HA.out;clear HA;simp only[bJ.j0] at H;replace H:=gD H;obtain⟨xU,ZP,H⟩:=H;replace H:=gD H;obtain⟨zX,A31,H⟩:=H;replace H:=gD H;obtain⟨BK,A32,H⟩:=H;replace H:=gD H;obtain⟨Ez,A33,H⟩:=H;replace H:=gD H;obtain⟨⟨aoM,aDD⟩,YY,H⟩:=H;dsimp only at H;replace H:=gB H;rcases H with⟨rfl,H⟩|⟨rfl,H⟩
   ·simp only[Option.some.injEq,Prod.mk.injEq] at H;obtain⟨rfl,rfl,rfl,rfl,rfl,rfl,rfl,rfl,rfl,rfl⟩:=H;go_wp2_with(first|((with_reducible refine cZ 82 rfl ?_);refine iW (args:=#[.slice EA kL.length Bi,.string (⟨#[109,97,120,45,97,103,101]⟩:af),.int .i64 0,.int .i64 0]) 30 rfl Tryz.func82 (iF.calls kj7 _ _ kL (⟨#[109,97,120,45,97,103,101]⟩:af) 0 0 xU _ apF ((Kd.aH iV.out).2.1) ZP.out) fun wS hb HB=>?_;replace iV:=aa.mk (Kd.bL Ma hb);replace nJ:=eF (g:=mV) hb;replace aT:=eF (g:=tq) hb;clear hb;have aDE:=rf.out;have aDF:=qg.out;have _:=zl aT)|((with_reducible refine cZ 82 rfl ?_);refine iW (args:=#[.slice EA kL.length Bi,.string (⟨#[115,45,109,97,120,97,103,101]⟩:af),.int .i64 0,.int .i64 0]) 33 rfl Tryz.func82 (iF.calls kj7 _ _ kL (⟨#[115,45,109,97,120,97,103,101]⟩:af) 0 0 zX _ adx ((Kd.aH iV.out).2.1) A31.out) fun uo hb HB=>?_;replace iV:=aa.mk (Kd.bL TF hb);replace nJ:=eF (g:=mV) hb;replace aT:=bJ.Vi (g:=tq) (o:=.cells #[.bool vk,.bool wY,.bool vo,.bool vv,.bool lV,.bool vw,.int .i64 xU,.int .i64 0,.int .i64 0,.int .i64 0] 44 (0,0)) hb;clear hb;have _:=zl aT)|((with_reducible refine cZ 82 rfl ?_);refine iW (args:=#[.slice EA kL.length Bi,.string (⟨#[109,97,120,45,115,116,97,108,101]⟩:af),.int .i64 2147483648,.int .i64 0]) 36 rfl Tryz.func82 (iF.calls kj7 _ _ kL (⟨#[109,97,120,45,115,116,97,108,101]⟩:af) 2147483648 0 BK _ adx ((Kd.aH iV.out).2.1) A32.out) fun Af hb HB=>?_;replace iV:=aa.mk (Kd.bL TF hb);replace nJ:=eF (g:=mV) hb;replace aT:=bJ.Vi (g:=tq) (o:=.cells #[.bool vk,.bool wY,.bool vo,.bool vv,.bool lV,.bool vw,.int .i64 xU,.int .i64 zX,.int .i64 0,.int .i64 0] 44 (0,0)) hb;clear hb;have _:=zl aT)|((with_reducible refine cZ 82 rfl ?_);refine iW (args:=#[.slice EA kL.length Bi,.string (⟨#[109,105,110,45,102,114,101,115,104]⟩:af),.int .i64 2147483648,.int .i64 2147483648]) 39 rfl Tryz.func82 (iF.calls kj7 _ _ kL (⟨#[109,105,110,45,102,114,101,115,104]⟩:af) 2147483648 2147483648 Ez _ adx ((Kd.aH iV.out).2.1) A33.out) fun Cu hb HB=>?_;replace iV:=aa.mk (Kd.bL TF hb);replace nJ:=eF (g:=mV) hb;replace aT:=bJ.Vi (g:=tq) (o:=.cells #[.bool vk,.bool wY,.bool vo,.bool vv,.bool lV,.bool vw,.int .i64 xU,.int .i64 zX,.int .i64 BK,.int .i64 0] 44 (0,0)) hb;clear hb;have _:=zl aT)|((with_reducible refine cZ 44 rfl ?_);refine iW 43 rfl Tryz.func44 (nC.calls kj7 _ _ l0 (⟨#[99,97,99,104,101,45,99,111,110,116,114,111,108]⟩:af) aoM true _ (Kd.kV wR.out aX) xw.out YY.out) fun Kb hb HB=>?_;replace iV:=aa.mk (Kd.bL TF hb);replace nJ:=eF (g:=mV) hb;replace aT:=bJ.Vi (g:=tq) (o:=.cells #[.bool vk,.bool wY,.bool vo,.bool vv,.bool lV,.bool vw,.int .i64 xU,.int .i64 zX,.int .i64 BK,.int .i64 Ez] 44 (0,0)) hb;clear hb;have _:=zl aT;have _:=zl nJ));refine bodyPost_ret (results_cell_row rfl _ _ mV 44 #[.bool vk,.bool wY,.bool vo,.bool vv,.bool lV,.bool vw,.int .i64 xU,.int .i64 zX,.int .i64 BK,.int .i64 Ez] (0,0) _ rfl gBz Tryz.underlying44 rfl dK) rfl ?_;exact⟨jv,aX⟩
   ·replace H:=gD H;obtain⟨Pp,A48,H⟩:=H;replace H:=aa.mk H;go_wp2_with(first|((with_reducible refine cZ 82 rfl ?_);refine iW (args:=#[.slice EA kL.length Bi,.string (⟨#[109,97,120,45,97,103,101]⟩:af),.int .i64 0,.int .i64 0]) 30 rfl Tryz.func82 (iF.calls kj7 _ _ kL (⟨#[109,97,120,45,97,103,101]⟩:af) 0 0 xU _ apF ((Kd.aH iV.out).2.1) ZP.out) fun w49 hb HB=>?_;replace iV:=aa.mk (Kd.bL Ma hb);replace nJ:=eF (g:=mV) hb;replace aT:=eF (g:=tq) hb;clear hb;have atr:=rf.out;have att:=qg.out;have akI:=Dz aT;have akJ:=DC aT;have akK:=L8 aT;have akL:=MV aT;have akM:=L9 aT;have akN:=Gj aT;have akO:=cz6 aT;have akP:=cz7 aT;have akQ:=(xJ aT).2.2.2.2.2.2.2.2.1;have akR:=(xJ aT).2.2.2.2.2.2.2.2.2;have akS:=ag aT.out 0;have akT:=ag aT.out 1;have akU:=ag aT.out 2;have akV:=ag aT.out 3;have akW:=ag aT.out 4;have akX:=ag aT.out 5;have akY:=ag aT.out 6;have akZ:=ag aT.out 7;have ak0:=ag aT.out 8;have ak1:=ag aT.out 9)|((with_reducible refine cZ 82 rfl ?_);refine iW (args:=#[.slice EA kL.length Bi,.string (⟨#[115,45,109,97,120,97,103,101]⟩:af),.int .i64 0,.int .i64 0]) 33 rfl Tryz.func82 (iF.calls kj7 _ _ kL (⟨#[115,45,109,97,120,97,103,101]⟩:af) 0 0 zX _ adx ((Kd.aH iV.out).2.1) A31.out) fun w52 hb HB=>?_;replace iV:=aa.mk (Kd.bL TF hb);replace nJ:=eF (g:=mV) hb;replace aT:=bJ.Vi (g:=tq) (o:=.cells #[.bool vk,.bool wY,.bool vo,.bool vv,.bool lV,.bool vw,.int .i64 xU,.int .i64 0,.int .i64 0,.int .i64 0] 44 (0,0)) hb;clear hb;have ak2:=Dz aT;have ak3:=DC aT;have ak4:=L8 aT;have ak5:=MV aT;have ak6:=L9 aT;have ak7:=Gj aT;have ak8:=cz6 aT;have ak9:=cz7 aT;have ala:=(xJ aT).2.2.2.2.2.2.2.2.1;have alb:=(xJ aT).2.2.2.2.2.2.2.2.2;have alc:=ag aT.out 0;have ald:=ag aT.out 1;have ale:=ag aT.out 2;have alf:=ag aT.out 3;have alg:=ag aT.out 4;have alh:=ag aT.out 5;have ali:=ag aT.out 6;have alj:=ag aT.out 7;have alk:=ag aT.out 8;have alm:=ag aT.out 9)|((with_reducible refine cZ 82 rfl ?_);refine iW (args:=#[.slice EA kL.length Bi,.string (⟨#[109,97,120,45,115,116,97,108,101]⟩:af),.int .i64 2147483648,.int .i64 0]) 36 rfl Tryz.func82 (iF.calls kj7 _ _ kL (⟨#[109,97,120,45,115,116,97,108,101]⟩:af) 2147483648 0 BK _ adx ((Kd.aH iV.out).2.1) A32.out) fun w54 hb HB=>?_;replace iV:=aa.mk (Kd.bL TF hb);replace nJ:=eF (g:=mV) hb;replace aT:=bJ.Vi (g:=tq) (o:=.cells #[.bool vk,.bool wY,.bool vo,.bool vv,.bool lV,.bool vw,.int .i64 xU,.int .i64 zX,.int .i64 0,.int .i64 0] 44 (0,0)) hb;clear hb;have aln:=Dz aT;have alo:=DC aT;have alp:=L8 aT;have alq:=MV aT;have alr:=L9 aT;have als:=Gj aT;have alu:=cz6 aT;have alv:=cz7 aT;have alx:=(xJ aT).2.2.2.2.2.2.2.2.1;have aly:=(xJ aT).2.2.2.2.2.2.2.2.2;have alz:=ag aT.out 0;have alA:=ag aT.out 1;have alB:=ag aT.out 2;have alC:=ag aT.out 3;have alD:=ag aT.out 4;have alE:=ag aT.out 5;have alF:=ag aT.out 6;have alG:=ag aT.out 7;have alH:=ag aT.out 8;have alI:=ag aT.out 9)|((with_reducible refine cZ 82 rfl ?_);refine iW (args:=#[.slice EA kL.length Bi,.string (⟨#[109,105,110,45,102,114,101,115,104]⟩:af),.int .i64 2147483648,.int .i64 2147483648]) 39 rfl Tryz.func82 (iF.calls kj7 _ _ kL (⟨#[109,105,110,45,102,114,101,115,104]⟩:af) 2147483648 2147483648 Ez _ adx ((Kd.aH iV.out).2.1) A33.out) fun w56 hb HB=>?_;replace iV:=aa.mk (Kd.bL TF hb);replace nJ:=eF (g:=mV) hb;replace aT:=bJ.Vi (g:=tq) (o:=.cells #[.bool vk,.bool wY,.bool vo,.bool vv,.bool lV,.bool vw,.int .i64 xU,.int .i64 zX,.int .i64 BK,.int .i64 0] 44 (0,0)) hb;clear hb;have alJ:=Dz aT;have alK:=DC aT;have alL:=L8 aT;have alM:=MV aT;have alN:=L9 aT;have alO:=Gj aT;have alP:=cz6 aT;have alQ:=cz7 aT;have alR:=(xJ aT).2.2.2.2.2.2.2.2.1;have alS:=(xJ aT).2.2.2.2.2.2.2.2.2;have alT:=ag aT.out 0;have alU:=ag aT.out 1;have alV:=ag aT.out 2;have alW:=ag aT.out 3;have alX:=ag aT.out 4;have alY:=ag aT.out 5;have alZ:=ag aT.out 6;have al0:=ag aT.out 7;have al1:=ag aT.out 8;have al2:=ag aT.out 9)|((with_reducible refine cZ 44 rfl ?_);refine iW 43 rfl Tryz.func44 (nC.calls kj7 _ _ l0 (⟨#[99,97,99,104,101,45,99,111,110,116,114,111,108]⟩:af) aoM false _ (Kd.kV wR.out aX) xw.out YY.out) fun w58 hb HB=>?_;replace iV:=aa.mk (Kd.bL TF hb);replace nJ:=eF (g:=mV) hb;replace aT:=bJ.Vi (g:=tq) (o:=.cells #[.bool vk,.bool wY,.bool vo,.bool vv,.bool lV,.bool vw,.int .i64 xU,.int .i64 zX,.int .i64 BK,.int .i64 Ez] 44 (0,0)) hb;clear hb)|((with_reducible refine cZ 80 rfl ?_);refine NL 49 rfl Tryz.func80 (oF.calls kj7 _ _ l0 (⟨#[112,114,97,103,109,97]⟩:af) Pp _ asP xw.out A48.out) ?_;rintro e w59 ⟨avN,rfl,ho0,hb⟩;refine⟨_,rfl,?_⟩;have arv:=aa.mk (Kd.gu (Kd.rq ho0 (Kd.vI Ma)) (aN aX));replace iV:=aa.mk (Kd.zh Ma (Kd.qo ho0) hb);replace nJ:=eF (g:=mV) hb;replace aT:=eF (g:=tq) hb;replace HB:=fw hb;clear hb;(try clear ho0)));go_loopg [8] kj7 (fun kq v8 w'=>∃(UL:Int) (CJ:Bool),v8 = .int .i64 UL/\aa (bJ.l0 kq Pp UL vk CJ vo vv lV vw xU zX BK Ez=some (r1,r2,r3,r4,r5,r6,r7,r8,r9,YX))/\aa (kq<=kj7)/\aa (Kd.R Kd.string 9 w' w.heap.size (fun _=>True) avN Pp)/\aa (w'.heap[mV]? = some (.cells #[.bool false,.bool false,.bool false,.bool false,.bool false,.bool false,.int .i64 0,.int .i64 0,.int .i64 0,.int .i64 0] 44 (0,0)))/\aa (w'.heap[tq]? = some (.cells #[.bool vk,.bool CJ,.bool vo,.bool vv,.bool lV,.bool vw,.int .i64 xU,.int .i64 zX,.int .i64 BK,.int .i64 Ez] 44 (0,0)))/\aa (Below w.heap.size w w'))
    case atStart=>exact⟨(0),(wY),bR,H,⟨Nat.le_refl _⟩,⟨by(with_reducible repeat(first|apply Kd.cK|apply Kd.cz|apply Kd.dB));exact Kd.kg arv.out (fun _ hk=>trivial)⟩,⟨oQ⟩,⟨oQ⟩,⟨aX⟩⟩
    case round=>
     clear H;try clear ach
     try clear aci
     try clear acj
     try clear Nc
     try clear Nf
     try clear Ng
     try clear ack
     try clear acm
     try clear acn
     try clear aco
     try clear akI
     try clear akJ
     try clear akK
     try clear akL
     try clear akM
     try clear akN
     try clear akO
     try clear akP
     try clear akQ
     try clear akR
     try clear ak2
     try clear ak3
     try clear ak4
     try clear ak5
     try clear ak6
     try clear ak7
     try clear ak8
     try clear ak9
     try clear ala
     try clear alb
     try clear aln
     try clear alo
     try clear alp
     try clear alq
     try clear alr
     try clear als
     try clear alu
     try clear alv
     try clear alx
     try clear aly
     try clear alJ
     try clear alK
     try clear alL
     try clear alM
     try clear alN
     try clear alO
     try clear alP
     try clear alQ
     try clear alR
     try clear alS
     try clear acp
     try clear acr
     try clear acs
     try clear acu
     try clear acv
     try clear acw
     try clear acx
     try clear acy
     try clear acz
     try clear acA
     try clear akS
     try clear akT
     try clear akU
     try clear akV
     try clear akW
     try clear akX
     try clear akY
     try clear akZ
     try clear ak0
     try clear ak1
     try clear alc
     try clear ald
     try clear ale
     try clear alf
     try clear alg
     try clear alh
     try clear ali
     try clear alj
     try clear alk
     try clear alm
     try clear alz
     try clear alA
     try clear alB
     try clear alC
     try clear alD
     try clear alE
     try clear alF
     try clear alG
     try clear alH
     try clear alI
     try clear alT
     try clear alU
     try clear alV
     try clear alW
     try clear alX
     try clear alY
     try clear alZ
     try clear al0
     try clear al1
     try clear al2
     obtain⟨UL,CJ,rfl,HA,tO,XR,nJ,aT,HB⟩:=hrel;cases gk with
     |zero=>exact absurd HA.out (by simp[bJ.l0])
     |succ k2=>
      have H:=HA.out;clear HA;simp only[bJ.l0] at H;replace H:=gI H;rcases H with⟨-,aoN,-,H⟩|⟨-,aoN,-,H⟩
      ·replace H:=gB H;rcases H with⟨rfl,H⟩|⟨rfl,H⟩
       ·replace H:=aa.mk H;obtain⟨aFT,aFU,aAt⟩:=Kd.eD XR.out;subst aAt;have avO:=rf.out;have avP:=qg.out;have _:=zl aT;go_wp2;go_roundg k2
        case measure=>have:=HJ7.out;have:=tO.out;omega
        case rel=>exact⟨(wrap64 (UL+1)),(true),bR,H,⟨by have:=HJ7.out;have:=tO.out;omega⟩,⟨by(with_reducible repeat(first|apply Kd.cK|apply Kd.cz|apply Kd.dB));exact Cg (Kd.mJ XR.out aT.out aA) (fun _ hk=>trivial)⟩,⟨oQ⟩,⟨oQ⟩,⟨aX⟩⟩
       ·replace H:=gN H;obtain⟨-,aDG,-,H⟩:=H;replace H:=gD H;obtain⟨acf,A66,H⟩:=H;replace H:=aa.mk H;obtain⟨aFV,aFW,aAu⟩:=Kd.eD XR.out;subst aAu;have avQ:=rf.out;have avR:=qg.out;have _:=zl aT;have ah0:0<=(UL:Int):=ay bM;have ah1:UL<(Pp.length:Int):=ay bM;obtain⟨aAv,avS,avT⟩:=Kd.eG (Kd.aH XR.out).2.2 UL ah0 ah1;cases avS
        replace ah0:=eq_true ah0;replace ah1:=eq_true ah1;go_wp2_with((go_at_call 83;(with_reducible refine(il.calls (dh ByteArray.empty Pp UL) acf _ A66.out).mono ?_);rintro e ZF ⟨rfl,hb⟩;replace XR:=aa.mk (Kd.bL (by(with_reducible repeat(first|apply Kd.cK|apply Kd.cz|apply Kd.dB));exact XR.out) hb);replace nJ:=eF (g:=mV) hb;replace aT:=eF (g:=tq) hb;replace HB:=fw hb;clear hb;have _:=zl aT));go_roundg k2
        case measure=>have:=HJ7.out;have:=tO.out;omega
        case rel=>exact⟨(wrap64 (UL+1)),((acf.toList==([110,111,45,99,97,99,104,101]:aQ))),bR,H,⟨by have:=HJ7.out;have:=tO.out;omega⟩,⟨by(with_reducible repeat(first|apply Kd.cK|apply Kd.cz|apply Kd.dB));exact Cg (Kd.mJ XR.out aT.out aA) (fun _ hk=>trivial)⟩,⟨oQ⟩,⟨oQ⟩,⟨aX⟩⟩
      ·simp only[Option.some.injEq,Prod.mk.injEq] at H;obtain⟨rfl,rfl,rfl,rfl,rfl,rfl,rfl,rfl,rfl,rfl⟩:=H;obtain⟨aFX,aFY,aAw⟩:=Kd.eD XR.out;subst aAw;have aDH:=rf.out;have aDI:=qg.out;have _:=zl aT;have _:=zl nJ;go_wp2;refine bodyPost_ret (results_cell_row rfl _ _ mV 44 #[.bool vk,.bool CJ,.bool vo,.bool vv,.bool lV,.bool vw,.int .i64 xU,.int .i64 zX,.int .i64 BK,.int .i64 Ez] (0,0) _ rfl gBz Tryz.underlying44 rfl dK) rfl ?_;exact⟨jv,aX⟩


def gT.f (k:Nat) (ak:ByteArray) (au:Int) (az:Int) (fo:List (lq)) (aD:ByteArray) (di:ByteArray) (bF:Int) (ik:ByteArray) (gY:Bool) (dF:List (lq)) (dJ:ByteArray):Option (Bool):=(mE.f k ak).bind fun aAx=>(if aAx=true then((jR.f au).bind fun aAy=>(if aAy=true then((jR.f az).bind fun aAz=>(if aAz=true then(if au<=az then((fe.f k fo).bind fun aAA=>(if aAA=true then((fV.f k aD di bF ik gY dF dJ).bind fun aAB=>(if aAB=true then(if aD.toList=([]:aQ) then(some (!gY)) else(some false)) else(some false))) else(some false))) else(some false)) else(some false))) else(some false))) else(some false))
theorem gT.e0 {p:Prop} (h:p:=by
  obtain rfl:=aI H.out
  go_enter Tryz.func11,Tryz.ntmps11
  go_wp2_with(first|((with_reducible refine lT 1 rfl ?_);refine jL #[.string ak,.int .i64 au,.int .i64 az,.slice oH fo.length oI,.string aD,.string di,.int .i64 bF,.string ik,.bool gY,.slice oJ dF.length oK,.string dJ] 33 ?_;intro SE hg gG hbox hb;have F4:=aa.mk (hbox);have aDJ:=lJ hg;replace HB:=fw hb;clear hb hbox hg;have _:=jQ F4)|((with_reducible refine cZ 30 rfl ?_);refine iW 5 rfl Tryz.func30 (mE.calls k ak false _ A2.out) fun Cu hb HB=>?_;replace F4:=eF (g:=SE) hb;clear hb)|((with_reducible refine cZ 30 rfl ?_);refine iW 5 rfl Tryz.func30 (mE.calls k ak true _ A2.out) fun jH hb HB=>?_;replace F4:=eF (g:=SE) hb;clear hb;have _:=jQ F4)|(go_at_call 31;(with_reducible refine(jR.calls au false _ A4.out).mono ?_);rintro e w' ⟨rfl,⟨nd,rfl⟩⟩)|(go_at_call 31;(with_reducible refine(jR.calls au true _ A4.out).mono ?_);rintro e w' ⟨rfl,⟨nd,rfl⟩⟩)|(go_at_call 31;(with_reducible refine(jR.calls az false _ A6.out).mono ?_);rintro e w' ⟨rfl,⟨nd,rfl⟩⟩)|(go_at_call 31;(with_reducible refine(jR.calls az true _ A6.out).mono ?_);rintro e w' ⟨rfl,⟨nd,rfl⟩⟩)|(go_at_call 32;(with_reducible refine(fe.calls k _ _ fo false _ ?nG ?nH A9.out).mono ?_);(case nG=>exact afb);(case nH=>exact mO.out);rintro e Af ⟨rfl,hb⟩;replace F4:=eF (g:=SE) hb;replace HB:=fw hb;clear hb)|(go_at_call 32;(with_reducible refine(fe.calls k _ _ fo true _ ?nG ?nH A9.out).mono ?_);(case nG=>exact afb);(case nH=>exact mO.out);rintro e mP ⟨rfl,hb⟩;replace F4:=eF (g:=SE) hb;replace HB:=fw hb;clear hb;have _:=jQ F4)|(go_at_call 33;(with_reducible refine(fV.calls k aD di bF ik gY _ _ dF dJ false _ ?nG ?nH M3.out).mono ?_);(case nG=>exact Ch);(case nH=>exact jN.out);rintro e uo ⟨rfl,hb⟩;replace F4:=eF (g:=SE) hb;replace HB:=fw hb;clear hb)|(go_at_call 33;(with_reducible refine(fV.calls k aD di bF ik gY _ _ dF dJ true _ ?nG ?nH M3.out).mono ?_);(case nG=>exact Ch);(case nH=>exact jN.out);rintro e wS ⟨rfl,hb⟩;replace F4:=eF (g:=SE) hb;replace HB:=fw hb;clear hb;have _:=jQ F4))
  go_ret
  exact⟨jv,aX⟩):p:=h
theorem gT.calls (k:Nat) (ak:ByteArray) (au az:Int) (oH:Option Addr) (oI:Nat) (fo:List (lq)) (aD di:ByteArray) (bF:Int) (ik:ByteArray) (gY:Bool) (oJ:Option Addr) (oK:Nat) (dF:List (lq)) (dJ:ByteArray) (r:Bool) (w:World) (pR:Kd.C wQ w oH fo.length fo) (pU:fo.length<=oI) (pV:Kd.C wQ w oJ dF.length dF) (pW:dF.length<=oK) (h:gT.f k ak au az fo aD di bF ik gY dF dJ=some r) :
  Calls Tryz.prog 11 #[.agg #[.string ak,.int .i64 au,.int .i64 az,.slice oH fo.length oI,.string aD,.string di,.int .i64 bF,.string ik,.bool gY,.slice oJ dF.length oK,.string dJ]] w fun e w'=>e = .returned (.bool r)/\Below w.heap.size w w':=by
 have VP:=Tryz.underlying33;have QM:=Tryz.underlying31;have C8:=aa.mk pR;have mO:=aa.mk pU;clear pR pU;have yA:=aa.mk pV;have jN:=aa.mk pW;clear pV pW;have HB:=aa.mk (Below.refl w.heap.size w);have H:=aa.mk h;clear h;unfold gT.f at H;rcases lu H with⟨A2,H⟩|⟨A2,H⟩
 ·rcases lu H with⟨A4,H⟩|⟨A4,H⟩
  ·rcases lu H with⟨A6,H⟩|⟨A6,H⟩
   ·rcases jw H with⟨-,mU,-,H⟩|⟨-,mU,-,H⟩
    ·rcases lu H with⟨A9,H⟩|⟨A9,H⟩
     ·rcases lu H with⟨M3,H⟩|⟨M3,H⟩
      ·rcases jw H with⟨c13,-,-,H⟩|⟨c13,-,-,H⟩
       ·obtain⟨qG,wo⟩:=kT c13;clear c13;exact gT.e0
       ·obtain⟨qG,wo⟩:=kU c13;exact gT.e0
      ·exact gT.e0
     ·exact gT.e0
    ·exact gT.e0
   ·exact gT.e0
  ·exact gT.e0
 ·exact gT.e0


def kY.f (k:Nat) (l0:List (lq)) (a1:ByteArray):Option (Int×Bool):=(nC.f k l0 a1).bind fun ah2=>(if ah2.2=true then((ai.f k ah2.1).bind fun ah3=>(some (ah3.1,ah3.2))) else(some (0,false)))
theorem kY.calls (k:Nat) (A0:Option Addr) (c0:Nat) (l0:List (lq)) (a1:ByteArray) (r1:Int) (r2:Bool) (w:World) (hr0:Kd.C wQ w A0 l0.length l0) (hc0:l0.length<=c0) (h:kY.f k l0 a1=some (r1,r2)) :
  Calls Tryz.prog 42 #[.slice A0 l0.length c0,.string a1] w fun e w'=>e = .returned (.tuple #[.int .i64 r1,.bool r2])/\Below w.heap.size w w':=by
 have wR:=aa.mk hr0;have xw:=aa.mk hc0;clear hr0 hc0;have HB:=aa.mk (Below.refl w.heap.size w);have H:=h;clear h;unfold kY.f at H;replace H:=gD H;obtain⟨⟨ah4,aDK⟩,A3,H⟩:=H;dsimp only at H;replace H:=gB H;rcases H with⟨rfl,H⟩|⟨rfl,H⟩
 ·replace H:=gD H;obtain⟨⟨avU,avV⟩,A5,H⟩:=H;dsimp only at H;simp only[Option.some.injEq,Prod.mk.injEq] at H;obtain⟨rfl,rfl⟩:=H;go_enter Tryz.func42,Tryz.ntmps42;go_wp2_with(first|((with_reducible refine cZ 44 rfl ?_);refine iW 11 rfl Tryz.func44 (nC.calls k _ _ l0 a1 ah4 true _ Rk xw.out A3.out) fun w6 hb HB=>?_;clear hb)|((with_reducible refine cZ 75 rfl ?_);refine iW 17 rfl Tryz.func75 (ai.calls k ah4 avU avV _ A5.out) fun w7 hb HB=>?_;clear hb));go_ret2;exact⟨jv,aX⟩
 ·simp only[Option.some.injEq,Prod.mk.injEq] at H;obtain⟨rfl,rfl⟩:=H;go_enter Tryz.func42,Tryz.ntmps42;go_wp2_with(first|((with_reducible refine cZ 44 rfl ?_);refine iW 11 rfl Tryz.func44 (nC.calls k _ _ l0 a1 ah4 false _ Rk xw.out A3.out) fun w8 hb HB=>?_;clear hb));go_ret2;exact⟨jv,aX⟩

def jU.f (k:Nat) (ak:ByteArray) (au:Int) (az:Int) (fo:List (lq)) (aD:ByteArray) (di:ByteArray) (bF:Int) (ik:ByteArray) (gY:Bool) (dF:List (lq)) (dJ:ByteArray):Option (Int):=(gT.f k ak au az fo aD di bF ik gY dF dJ).bind fun avW=>(if avW=true then((kY.f k dF (⟨#[100,97,116,101]⟩:af)).bind fun ah5=>(if ah5.2=true then(some ah5.1) else(some az))) else(some (-1)))
theorem jU.e0 {p:Prop} (h:p:=by
  obtain rfl:=aI H
  go_enter Tryz.func15,Tryz.ntmps15
  go_wp2_with(first|((with_reducible refine lT 1 rfl ?_);refine jL #[.string ak,.int .i64 au,.int .i64 az,.slice oH fo.length oI,.string aD,.string di,.int .i64 bF,.string ik,.bool gY,.slice oJ dF.length oK,.string dJ] 33 ?_;intro UM hg gG hbox hb;have GX:=aa.mk (hbox);have aAC:=lJ hg;replace HB:=fw hb;clear hb hbox hg;have _:=jQ GX)|((with_reducible refine cZ 11 rfl ?_);refine iW 6 rfl Tryz.func11 (gT.calls k ak au az _ _ fo aD di bF ik gY _ _ dF dJ false _ Qo mO.out Ch jN.out A2.out) fun uo hb HB=>?_;replace GX:=eF (g:=UM) hb;clear hb)|((with_reducible refine cZ 11 rfl ?_);refine iW 6 rfl Tryz.func11 (gT.calls k ak au az _ _ fo aD di bF ik gY _ _ dF dJ true _ Qo mO.out Ch jN.out A2.out) fun jH hb HB=>?_;replace GX:=eF (g:=UM) hb;clear hb;have _:=jQ GX)|((with_reducible refine cZ 42 rfl ?_);refine iW 12 rfl Tryz.func42 (kY.calls k _ _ dF (⟨#[100,97,116,101]⟩:af) aoO false _ Ch jN.out A4.out) fun wS hb HB=>?_;replace GX:=eF (g:=UM) hb;clear hb;have _:=jQ GX)|((with_reducible refine cZ 42 rfl ?_);refine iW 12 rfl Tryz.func42 (kY.calls k _ _ dF (⟨#[100,97,116,101]⟩:af) aoO true _ Ch jN.out A4.out) fun mP hb HB=>?_;replace GX:=eF (g:=UM) hb;clear hb))
  go_ret
  exact⟨jv,aX⟩):p:=h
theorem jU.calls (k:Nat) (ak:ByteArray) (au az:Int) (oH:Option Addr) (oI:Nat) (fo:List (lq)) (aD di:ByteArray) (bF:Int) (ik:ByteArray) (gY:Bool) (oJ:Option Addr) (oK:Nat) (dF:List (lq)) (dJ:ByteArray) (r:Int) (w:World) (pR:Kd.C wQ w oH fo.length fo) (pU:fo.length<=oI) (pV:Kd.C wQ w oJ dF.length dF) (pW:dF.length<=oK) (h:jU.f k ak au az fo aD di bF ik gY dF dJ=some r) :
  Calls Tryz.prog 15 #[.agg #[.string ak,.int .i64 au,.int .i64 az,.slice oH fo.length oI,.string aD,.string di,.int .i64 bF,.string ik,.bool gY,.slice oJ dF.length oK,.string dJ]] w fun e w'=>e = .returned (.int .i64 r)/\Below w.heap.size w w':=by
 have VP:=Tryz.underlying33;have C8:=aa.mk pR;have mO:=aa.mk pU;clear pR pU;have yA:=aa.mk pV;have jN:=aa.mk pW;clear pV pW;have HB:=aa.mk (Below.refl w.heap.size w);have H:=h;clear h;unfold jU.f at H;replace H:=xE H;rcases H with⟨A2,H⟩|⟨A2,H⟩
 ·replace H:=gD H;obtain⟨⟨aoO,aDL⟩,A4,H⟩:=H;dsimp only at H;replace H:=gB H;rcases H with⟨rfl,H⟩|⟨rfl,H⟩
  ·exact jU.e0
  ·exact jU.e0
 ·exact jU.e0

def rA.f (a0:Int) (a1:Int):Option (Int):=if a0>a1 then(some a0) else(some a1)
theorem rA.calls (a0 a1 r:Int) (w:World) (h:rA.f a0 a1=some r) :
  Calls Tryz.prog 46 #[.int .i64 a0,.int .i64 a1] w fun e w'=>e = .returned (.int .i64 r)/\bH w w':=by
 have H:=aa.mk h;clear h;unfold rA.f at H;rcases jw H with⟨-,cB,-,H⟩|⟨-,cB,-,H⟩
 ·obtain rfl:=aI H.out;go_enter Tryz.func46,Tryz.ntmps46;go_wp2;go_ret;exact⟨bR,iL⟩
 ·obtain rfl:=aI H.out;go_enter Tryz.func46,Tryz.ntmps46;go_wp2;go_ret;exact⟨bR,iL⟩




def pQ.f (a0:Int):Option (Bool):=if a0=200 then(some true) else(if a0=203 then(some true) else(if a0=204 then(some true) else(if a0=300 then(some true) else(if a0=301 then(some true) else(if a0=308 then(some true) else(if a0=404 then(some true) else(if a0=405 then(some true) else(if a0=410 then(some true) else(if a0=414 then(some true) else(if a0=501 then(some true) else(some false)))))))))))
theorem pQ.calls (a0:Int) (r:Bool) (w:World) (h:pQ.f a0=some r) :
  Calls Tryz.prog 49 #[.int .i64 a0] w fun e w'=>e = .returned (.bool r)/\bH w w':=by
 have H:=aa.mk h;clear h;unfold pQ.f at H;rcases jw H with⟨c2,-,-,H⟩|⟨c2,-,-,H⟩
 ·obtain⟨jc,nD⟩:=kT c2;clear c2;obtain rfl:=aI H.out;go_enter Tryz.func49,Tryz.ntmps49;go_wp2;go_ret;exact⟨bR,iL⟩
 ·obtain⟨jc,nD⟩:=kU c2;rcases jw H with⟨c3,-,-,H⟩|⟨c3,-,-,H⟩
  ·obtain⟨cB,nE⟩:=kT c3;clear c3;obtain rfl:=aI H.out;go_enter Tryz.func49,Tryz.ntmps49;go_wp2;go_ret;exact⟨bR,iL⟩
  ·obtain⟨cB,nE⟩:=kU c3;rcases jw H with⟨c4,-,-,H⟩|⟨c4,-,-,H⟩
   ·obtain⟨jr,qy⟩:=kT c4;clear c4;obtain rfl:=aI H.out;go_enter Tryz.func49,Tryz.ntmps49;go_wp2;go_ret;exact⟨bR,iL⟩
   ·obtain⟨jr,qy⟩:=kU c4;rcases jw H with⟨c5,-,-,H⟩|⟨c5,-,-,H⟩
    ·obtain⟨jV,rO⟩:=kT c5;clear c5;obtain rfl:=aI H.out;go_enter Tryz.func49,Tryz.ntmps49;go_wp2;go_ret;exact⟨bR,iL⟩
    ·obtain⟨jV,rO⟩:=kU c5;rcases jw H with⟨c6,-,-,H⟩|⟨c6,-,-,H⟩
     ·obtain⟨jy,pq⟩:=kT c6;clear c6;obtain rfl:=aI H.out;go_enter Tryz.func49,Tryz.ntmps49;go_wp2;go_ret;exact⟨bR,iL⟩
     ·obtain⟨jy,pq⟩:=kU c6;rcases jw H with⟨c7,-,-,H⟩|⟨c7,-,-,H⟩
      ·obtain⟨nR,Ag⟩:=kT c7;clear c7;obtain rfl:=aI H.out;go_enter Tryz.func49,Tryz.ntmps49;go_wp2;go_ret;exact⟨bR,iL⟩
      ·obtain⟨nR,Ag⟩:=kU c7;rcases jw H with⟨c8,-,-,H⟩|⟨c8,-,-,H⟩
       ·obtain⟨mU,za⟩:=kT c8;clear c8;obtain rfl:=aI H.out;go_enter Tryz.func49,Tryz.ntmps49;go_wp2;go_ret;exact⟨bR,iL⟩
       ·obtain⟨mU,za⟩:=kU c8;rcases jw H with⟨c9,-,-,H⟩|⟨c9,-,-,H⟩
        ·obtain⟨pg,xy⟩:=kT c9;clear c9;obtain rfl:=aI H.out;go_enter Tryz.func49,Tryz.ntmps49;go_wp2;go_ret;exact⟨bR,iL⟩
        ·obtain⟨pg,xy⟩:=kU c9;rcases jw H with⟨c10,-,-,H⟩|⟨c10,-,-,H⟩
         ·obtain⟨pX,Aw⟩:=kT c10;clear c10;obtain rfl:=aI H.out;go_enter Tryz.func49,Tryz.ntmps49;go_wp2;go_ret;exact⟨bR,iL⟩
         ·obtain⟨pX,Aw⟩:=kU c10;rcases jw H with⟨c11,-,-,H⟩|⟨c11,-,-,H⟩
          ·obtain⟨oV,Aq⟩:=kT c11;clear c11;obtain rfl:=aI H.out;go_enter Tryz.func49,Tryz.ntmps49;go_wp2;go_ret;exact⟨bR,iL⟩
          ·obtain⟨oV,Aq⟩:=kU c11;rcases jw H with⟨c12,-,-,H⟩|⟨c12,-,-,H⟩
           ·obtain⟨nS,yH⟩:=kT c12;clear c12;obtain rfl:=aI H.out;go_enter Tryz.func49,Tryz.ntmps49;go_wp2;go_ret;exact⟨bR,iL⟩
           ·obtain⟨nS,yH⟩:=kU c12;obtain rfl:=aI H.out;go_enter Tryz.func49,Tryz.ntmps49;go_wp2;go_ret;exact⟨bR,iL⟩


def dO.j0 : Nat->Int->Bool->ByteArray->Int->Int->List (lq)->ByteArray->ByteArray->Int->ByteArray->Bool->List (lq)->ByteArray->Option (Int)
 |0,_,_,_,_,_,_,_,_,_,_,_,_,_=>none
 |k+1,x9,x67,ah6,ah7,ah8,ah9,aia,aib,aic,aid,aie,aif,aih=>if x67=true then(some 0) else((jU.f k ah6 ah7 ah8 ah9 aia aib aic aid aie aif aih).bind fun XT=>(if(wrap64 (Int.tdiv (wrap64 (XT-x9)) 10))<86400 then(some (wrap64 (Int.tdiv (wrap64 (XT-x9)) 10))) else(some 86400)))
def dO.f (k:Nat) (ak:ByteArray) (au:Int) (az:Int) (fo:List (lq)) (aD:ByteArray) (di:ByteArray) (bF:Int) (ik:ByteArray) (gY:Bool) (dF:List (lq)) (dJ:ByteArray):Option (Int):=(gT.f k ak au az fo aD di bF ik gY dF dJ).bind fun avX=>(if avX=true then((bJ.f k dF).bind fun UN=>(if UN.2.2.2.2.2.2.2.1>=0 then(some UN.2.2.2.2.2.2.2.1) else(if UN.2.2.2.2.2.2.1>=0 then(some UN.2.2.2.2.2.2.1) else((nC.f k dF (⟨#[101,120,112,105,114,101,115]⟩:af)).bind fun arw=>(if arw.2=true then((kY.f k dF (⟨#[101,120,112,105,114,101,115]⟩:af)).bind fun aii=>(if aii.2=true then((jU.f k ak au az fo aD di bF ik gY dF dJ).bind fun acB=>((rA.f (wrap64 (aii.1-acB)) 0).bind fun aij=>(some aij))) else(some 0))) else((kY.f k dF (⟨#[108,97,115,116,45,109,111,100,105,102,105,101,100]⟩:af)).bind fun Pq=>(if Pq.2=true then((pQ.f bF).bind fun avY=>(if avY=true then((jU.f k ak au az fo aD di bF ik gY dF dJ).bind fun acC=>(dO.j0 k Pq.1 (decide (Pq.1>acC)) ak au az fo aD di bF ik gY dF dJ)) else(dO.j0 k Pq.1 true ak au az fo aD di bF ik gY dF dJ))) else(dO.j0 k Pq.1 true ak au az fo aD di bF ik gY dF dJ)))))))) else(some (-1)))
theorem dO.gBs {p:Prop} (h:p:=by repeat(first|(with_reducible first|exact aa.out (by assumption)|apply qL|(apply Bh;assumption)|apply kH|apply eu|apply lX)|(simp only[List.setIfInBounds_toArray,List.set_cons_zero,List.set_cons_succ];with_reducible rfl)|(simp only[List.setIfInBounds_toArray,List.set_cons_zero,List.set_cons_succ];done)|exact(rfl:(_:Array Value)=_))):p:=h
theorem dO.Vi {W w1:World} {g:Nat} {o:Obj} (hb:Below W.heap.size W w1) (h:W.heap[g]? = some o:=by exact dO.gBs):aa (w1.heap[g]? = some o):=⟨ou h hb⟩
theorem dO.e0 {p:Prop} (h:p:=by
  obtain rfl:=aI H
  go_enter Tryz.func21,Tryz.ntmps21
  go_wp2_with(first|((with_reducible refine lT 1 rfl ?_);refine jL #[.string ak,.int .i64 au,.int .i64 az,.slice oH fo.length oI,.string aD,.string di,.int .i64 bF,.string ik,.bool gY,.slice oJ dF.length oK,.string dJ] 33 ?_;intro pz hg gG hbox hb;have eZ:=aa.mk (hbox);have arx:=lJ hg;replace HB:=fw hb;clear hb hbox hg;have _:=jQ eZ)|((with_reducible refine cZ 11 rfl ?_);refine iW 13 rfl Tryz.func11 (gT.calls k ak au az _ _ fo aD di bF ik gY _ _ dF dJ false _ Qo mO.out Ch jN.out A2.out) fun aog hb HB=>?_;replace eZ:=eF (g:=pz) hb;clear hb)|((with_reducible refine cZ 11 rfl ?_);refine iW 13 rfl Tryz.func11 (gT.calls k ak au az _ _ fo aD di bF ik gY _ _ dF dJ true _ Qo mO.out Ch jN.out A2.out) fun jH hb HB=>?_;replace eZ:=eF (g:=pz) hb;clear hb;have _:=jQ eZ)|((with_reducible refine cZ 48 rfl ?_);refine iW 19 rfl Tryz.func48 (bJ.calls k _ _ dF XU XV XW XX XY XZ X0 X3 X4 X5 _ Ch jN.out A4.out) fun mP hb HB=>?_;replace eZ:=eF (g:=pz) hb;clear hb)|((with_reducible refine lT 4 rfl ?_);refine jL #[.bool false,.bool false,.bool false,.bool false,.bool false,.bool false,.int .i64 0,.int .i64 0,.int .i64 0,.int .i64 0] 44 ?_;intro zY hg VR hbox hb;have lI:=aa.mk (hbox);have ary:=lJ hg;have qh:=CZ (g:=pz) hg;have tu:=DL qh;replace eZ:=eF (g:=pz) hb;replace HB:=fw hb;clear hb hbox hg;have aDM:=tu.out;have aDN:=qh.out;have _:=zl lI)|((with_reducible refine cZ 44 rfl ?_);refine iW 32 rfl Tryz.func44 (nC.calls k _ _ dF (⟨#[101,120,112,105,114,101,115]⟩:af) aoP true _ (Kd.kV yA.out aX) jN.out A23.out) fun Cu hb HB=>?_;replace eZ:=eF (g:=pz) hb;replace lI:=dO.Vi (g:=zY) (o:=.cells #[.bool XU,.bool XV,.bool XW,.bool XX,.bool XY,.bool XZ,.int .i64 X0,.int .i64 X3,.int .i64 X4,.int .i64 X5] 44 (0,0)) hb;clear hb)|((with_reducible refine cZ 42 rfl ?_);refine iW 38 rfl Tryz.func42 (kY.calls k _ _ dF (⟨#[101,120,112,105,114,101,115]⟩:af) aik false _ Ch jN.out UD.out) fun K7 hb HB=>?_;replace eZ:=eF (g:=pz) hb;replace lI:=eF (g:=zY) hb;clear hb)|((with_reducible refine cZ 42 rfl ?_);refine iW 38 rfl Tryz.func42 (kY.calls k _ _ dF (⟨#[101,120,112,105,114,101,115]⟩:af) aik true _ Ch jN.out UD.out) fun Kb hb HB=>?_;replace eZ:=eF (g:=pz) hb;replace lI:=eF (g:=zY) hb;clear hb;have _:=jQ eZ)|((with_reducible refine cZ 15 rfl ?_);refine iW 45 rfl Tryz.func15 (jU.calls k ak au az _ _ fo aD di bF ik gY _ _ dF dJ acB _ Qo mO.out Ch jN.out A27.out) fun ZF hb HB=>?_;replace eZ:=eF (g:=pz) hb;replace lI:=eF (g:=zY) hb;clear hb)|((with_reducible refine cZ 46 rfl ?_);refine mM 47 rfl Tryz.func46 (rA.calls (wrap64 (aik-acB)) 0 aij _ A28.out) fun nd=>?_))
  go_ret
  exact⟨jv,aX⟩):p:=h
theorem dO.calls (k:Nat) (ak:ByteArray) (au az:Int) (oH:Option Addr) (oI:Nat) (fo:List (lq)) (aD di:ByteArray) (bF:Int) (ik:ByteArray) (gY:Bool) (oJ:Option Addr) (oK:Nat) (dF:List (lq)) (dJ:ByteArray) (r:Int) (w:World) (pR:Kd.C wQ w oH fo.length fo) (pU:fo.length<=oI) (pV:Kd.C wQ w oJ dF.length dF) (pW:dF.length<=oK) (h:dO.f k ak au az fo aD di bF ik gY dF dJ=some r) :
  Calls Tryz.prog 21 #[.agg #[.string ak,.int .i64 au,.int .i64 az,.slice oH fo.length oI,.string aD,.string di,.int .i64 bF,.string ik,.bool gY,.slice oJ dF.length oK,.string dJ]] w fun e w'=>e = .returned (.int .i64 r)/\Below w.heap.size w w':=by
 have VP:=Tryz.underlying33;have atJ:=Tryz.underlying44;have C8:=aa.mk pR;have mO:=aa.mk pU;clear pR pU;have yA:=aa.mk pV;have jN:=aa.mk pW;clear pV pW;have HB:=aa.mk (Below.refl w.heap.size w);have H:=h;clear h;unfold dO.f at H;replace H:=xE H;rcases H with⟨A2,H⟩|⟨A2,H⟩
 ·replace H:=gD H;obtain⟨⟨XU,XV,XW,XX,XY,XZ,X0,X3,X4,X5⟩,A4,H⟩:=H;dsimp only at H;replace H:=gI H;rcases H with⟨-,jV,-,H⟩|⟨-,jV,-,H⟩
  ·exact dO.e0
  ·replace H:=gI H;rcases H with⟨-,wu,-,H⟩|⟨-,wu,-,H⟩
   ·exact dO.e0
   ·replace H:=gD H;obtain⟨⟨aoP,aDO⟩,A23,H⟩:=H;dsimp only at H;replace H:=gB H;rcases H with⟨rfl,H⟩|⟨rfl,H⟩
    ·replace H:=gD H;obtain⟨⟨aik,aDP⟩,UD,H⟩:=H;dsimp only at H;replace H:=gB H;rcases H with⟨rfl,H⟩|⟨rfl,H⟩
     ·replace H:=gD H;obtain⟨acB,A27,H⟩:=H;replace H:=gD H;obtain⟨aij,A28,H⟩:=H;exact dO.e0
     ·exact dO.e0
    ·replace H:=gD H;obtain⟨⟨ail,avZ⟩,A51,H⟩:=H;dsimp only at H;have arz:=aa.mk H;clear H;go_enter Tryz.func21,Tryz.ntmps21;go_upto_region 16 with(first|((with_reducible refine lT 1 rfl ?_);refine jL #[.string ak,.int .i64 au,.int .i64 az,.slice oH fo.length oI,.string aD,.string di,.int .i64 bF,.string ik,.bool gY,.slice oJ dF.length oK,.string dJ] 33 ?_;intro pz hg w53 hbox hb;have eZ:=aa.mk (hbox);have arx:=lJ hg;replace HB:=fw hb;clear hb hbox hg;have al3:=Dz eZ;have al4:=DC eZ;have al5:=L8 eZ;have al6:=MV eZ;have al7:=L9 eZ;have al8:=Gj eZ;have al9:=cz6 eZ;have ama:=cz7 eZ;have amb:=(xJ eZ).2.2.2.2.2.2.2.2.1;have amc:=(xJ eZ).2.2.2.2.2.2.2.2.2;have aim:w53.cell? ⟨pz,10,none⟩=some (.string dJ):=(ah eZ.out 10).trans rfl;have amd:=ag eZ.out 0;have ame:=ag eZ.out 1;have amf:=ag eZ.out 2;have amg:=ag eZ.out 3;have amh:=ag eZ.out 4;have ami:=ag eZ.out 5;have amj:=ag eZ.out 6;have amk:=ag eZ.out 7;have aml:=ag eZ.out 8;have amm:=ag eZ.out 9;have ain:=ag eZ.out 10)|((with_reducible refine cZ 11 rfl ?_);refine iW 13 rfl Tryz.func11 (gT.calls k ak au az _ _ fo aD di bF ik gY _ _ dF dJ true _ Qo mO.out Ch jN.out A2.out) fun w55 hb HB=>?_;replace eZ:=eF (g:=pz) hb;clear hb;have amn:=Dz eZ;have amo:=DC eZ;have amq:=L8 eZ;have amr:=MV eZ;have ams:=L9 eZ;have amt:=Gj eZ;have amu:=cz6 eZ;have amv:=cz7 eZ;have amw:=(xJ eZ).2.2.2.2.2.2.2.2.1;have amx:=(xJ eZ).2.2.2.2.2.2.2.2.2;have aio:w55.cell? ⟨pz,10,none⟩=some (.string dJ):=(ah eZ.out 10).trans rfl;have amy:=ag eZ.out 0;have amz:=ag eZ.out 1;have amA:=ag eZ.out 2;have amB:=ag eZ.out 3;have amC:=ag eZ.out 4;have amD:=ag eZ.out 5;have amE:=ag eZ.out 6;have amF:=ag eZ.out 7;have amG:=ag eZ.out 8;have amH:=ag eZ.out 9;have aip:=ag eZ.out 10)|((with_reducible refine cZ 48 rfl ?_);refine iW 19 rfl Tryz.func48 (bJ.calls k _ _ dF XU XV XW XX XY XZ X0 X3 X4 X5 _ Ch jN.out A4.out) fun w57 hb HB=>?_;replace eZ:=eF (g:=pz) hb;clear hb)|((with_reducible refine lT 4 rfl ?_);refine jL #[.bool false,.bool false,.bool false,.bool false,.bool false,.bool false,.int .i64 0,.int .i64 0,.int .i64 0,.int .i64 0] 44 ?_;intro zY hg w58 hbox hb;have lI:=aa.mk (hbox);have ary:=lJ hg;have qh:=CZ (g:=pz) hg;have tu:=DL qh;replace eZ:=eF (g:=pz) hb;replace HB:=fw hb;clear hb hbox hg;have aDQ:=tu.out;have aDR:=qh.out;have amI:=Dz lI;have amJ:=DC lI;have amK:=L8 lI;have amL:=MV lI;have amM:=L9 lI;have amN:=Gj lI;have amO:=cz6 lI;have amP:=cz7 lI;have amQ:=(xJ lI).2.2.2.2.2.2.2.2.1;have amR:=(xJ lI).2.2.2.2.2.2.2.2.2;have amS:=ag lI.out 0;have amT:=ag lI.out 1;have amU:=ag lI.out 2;have amV:=ag lI.out 3;have amW:=ag lI.out 4;have amX:=ag lI.out 5;have amY:=ag lI.out 6;have amZ:=ag lI.out 7;have am0:=ag lI.out 8;have am1:=ag lI.out 9)|((with_reducible refine cZ 44 rfl ?_);refine iW 32 rfl Tryz.func44 (nC.calls k _ _ dF (⟨#[101,120,112,105,114,101,115]⟩:af) aoP false _ (Kd.kV yA.out aX) jN.out A23.out) fun w61 hb HB=>?_;replace eZ:=eF (g:=pz) hb;replace lI:=dO.Vi (g:=zY) (o:=.cells #[.bool XU,.bool XV,.bool XW,.bool XX,.bool XY,.bool XZ,.int .i64 X0,.int .i64 X3,.int .i64 X4,.int .i64 X5] 44 (0,0)) hb;clear hb)|((with_reducible refine cZ 42 rfl ?_);refine iW 50 rfl Tryz.func42 (kY.calls k _ _ dF (⟨#[108,97,115,116,45,109,111,100,105,102,105,101,100]⟩:af) ail avZ _ Ch jN.out A51.out) fun w62 hb HB=>?_;replace eZ:=eF (g:=pz) hb;replace lI:=eF (g:=zY) hb;clear hb));(try simp only[Act.put,List.setIfInBounds_toArray,List.set_cons_zero,List.set_cons_succ])
     go_cut [67] (fun v67 wc=>∃(kq:Nat) (aaO:Bool),v67 = .bool aaO/\aa (dO.j0 kq ail aaO ak au az fo aD di bF ik gY dF dJ=some r)/\aa (kq<=k)/\aa (wc.heap[pz]? = some (.cells #[.string ak,.int .i64 au,.int .i64 az,(.slice oH fo.length oI),.string aD,.string di,.int .i64 bF,.string ik,.bool gY,(.slice oJ dF.length oK),.string dJ] 33 (0,0)))/\aa (wc.heap[zY]? = some (.cells #[.bool XU,.bool XV,.bool XW,.bool XX,.bool XY,.bool XZ,.int .i64 X0,.int .i64 X3,.int .i64 X4,.int .i64 X5] 44 (0,0)))/\aa (Below w.heap.size w wc))
     case first=>
      have H:=arz.out;clear arz;replace H:=gB H;rcases H with⟨rfl,H⟩|⟨rfl,H⟩
      ·replace H:=xE H;rcases H with⟨A64,H⟩|⟨A64,H⟩
       ·replace H:=gD H;obtain⟨acC,A66,H⟩:=H;replace H:=aa.mk H;have aDS:=qh.out;have aDT:=tu.out;have _:=jQ eZ;go_wp2_with(first|(go_at_call 49;(with_reducible refine(pQ.calls bF true _ A64.out).mono ?_);rintro e w' ⟨rfl,⟨nd,rfl⟩⟩)|(go_at_call 15;(with_reducible refine(jU.calls k ak au az _ _ fo aD di bF ik gY _ _ dF dJ acC _ ?nG ?nH ?agy ?agz A66.out).mono ?_);(case nG=>exact afb);(case nH=>exact mO.out);(case agy=>exact axT);(case agz=>exact jN.out);rintro e avf ⟨rfl,hb⟩;replace eZ:=eF (g:=pz) hb;replace lI:=eF (g:=zY) hb;replace HB:=fw hb;clear hb));go_meet
        case rel=>exact⟨_,(decide (ail>acC)),bR,H,⟨tT⟩,⟨oQ⟩,⟨oQ⟩,⟨aX⟩⟩
       ·replace H:=aa.mk H;have aDU:=qh.out;have aDV:=tu.out;have _:=jQ eZ;go_wp2_with((go_at_call 49;(with_reducible refine(pQ.calls bF false _ A64.out).mono ?_);rintro e w' ⟨rfl,⟨nd,rfl⟩⟩));go_meet
        case rel=>exact⟨_,(true),bR,H,⟨tT⟩,⟨oQ⟩,⟨oQ⟩,⟨aX⟩⟩
      ·replace H:=aa.mk H;go_wp2;go_meet
       case rel=>exact⟨_,(true),bR,H,⟨tT⟩,⟨oQ⟩,⟨oQ⟩,⟨aX⟩⟩
     case rest=>
      clear arz;try clear c5
      try clear jV
      try clear c14
      try clear wu
      try clear al3
      try clear al4
      try clear aim
      try clear al5
      try clear al6
      try clear al7
      try clear al8
      try clear al9
      try clear ama
      try clear amb
      try clear amc
      try clear amn
      try clear amo
      try clear aio
      try clear amq
      try clear amr
      try clear ams
      try clear amt
      try clear amu
      try clear amv
      try clear amw
      try clear amx
      try clear amI
      try clear amJ
      try clear amK
      try clear amL
      try clear amM
      try clear amN
      try clear amO
      try clear amP
      try clear amQ
      try clear amR
      try clear amd
      try clear ame
      try clear ain
      try clear amf
      try clear amg
      try clear amh
      try clear ami
      try clear amj
      try clear amk
      try clear aml
      try clear amm
      try clear amy
      try clear amz
      try clear aip
      try clear amA
      try clear amB
      try clear amC
      try clear amD
      try clear amE
      try clear amF
      try clear amG
      try clear amH
      try clear amS
      try clear amT
      try clear amU
      try clear amV
      try clear amW
      try clear amX
      try clear amY
      try clear amZ
      try clear am0
      try clear am1
      obtain⟨kq,aaO,rfl,HA,aFZ,eZ,lI,HB⟩:=hcut;cases kq with
      |zero=>exact absurd HA.out (by simp[dO.j0])
      |succ av0=>
       have H:=HA.out;clear HA;simp only[dO.j0] at H;replace H:=gB H;rcases H with⟨rfl,H⟩|⟨rfl,H⟩
       ·obtain rfl:=aI H;go_wp2;go_ret;exact⟨jv,aX⟩
       ·replace H:=gD H;obtain⟨XT,A73,H⟩:=H;replace H:=gI H;rcases H with⟨-,av1,-,H⟩|⟨-,av1,-,H⟩
        ·obtain rfl:=aI H;have aDW:=qh.out;have aDX:=tu.out;have _:=jQ eZ;go_wp2_with(((with_reducible refine cZ 15 rfl ?_);refine iW 69 rfl Tryz.func15 (jU.calls av0 ak au az _ _ fo aD di bF ik gY _ _ dF dJ XT _ Qo mO.out Ch jN.out A73.out) fun agx hb HB=>?_;replace eZ:=eF (g:=pz) hb;replace lI:=eF (g:=zY) hb;clear hb));go_ret;exact⟨jv,aX⟩
        ·obtain rfl:=aI H;have aDY:=qh.out;have aDZ:=tu.out;have _:=jQ eZ;go_wp2_with(((with_reducible refine cZ 15 rfl ?_);refine iW 69 rfl Tryz.func15 (jU.calls av0 ak au az _ _ fo aD di bF ik gY _ _ dF dJ XT _ Qo mO.out Ch jN.out A73.out) fun agx hb HB=>?_;replace eZ:=eF (g:=pz) hb;replace lI:=eF (g:=zY) hb;clear hb));go_ret;exact⟨jv,aX⟩
 ·exact dO.e0


end Go.Proofs.YtfhllanhldbkkaaGreatDoor.P
