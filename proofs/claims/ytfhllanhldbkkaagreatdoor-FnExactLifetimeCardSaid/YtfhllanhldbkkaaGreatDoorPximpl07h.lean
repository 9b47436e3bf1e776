import Derived.Test.YtfhllanhldbkkaaGreatDoorPximpl06b
namespace Go.Proofs.YtfhllanhldbkkaaGreatDoor.P
set_option maxHeartbeats 8000000
set_option maxRecDepth 100000
open Go.RowKit Go.Proofs.YtfhllanhldbkkaaGreatDoorW.bf Go.Proofs.YtfhllanhldbkkaaGreatDoorW.iK Go.Proofs.YtfhllanhldbkkaaGreatDoorW.kG
attribute [local go_sem] rE rF uF uG pE pF rG rH   -- for this text's walks alone
set_option linter.unusedVariables false
set_option linter.unusedSimpArgs false

def oL.f (k:Nat) (a0:ByteArray):Option (ByteArray×Bool):=(aU.f k a0).bind fun Sa=>(if Sa.2.2.2.2.2=true then((iC.f Sa.1 Sa.2.1 Sa.2.2.1 Sa.2.2.2.1 Sa.2.2.2.2.1).bind fun ap9=>(some (ap9,true))) else(some ((⟨#[]⟩:af),false)))
theorem oL.e0 {p:Prop} (h:p:=by
  go_enter Tryz.func64,Tryz.ntmps64
  go_wp2_with(first|((with_reducible refine cZ 104 rfl ?_);refine iW 8 rfl Tryz.func104 (aU.calls k a0 aj4 aj5 aj6 aj7 aj8 false _ A2.out (dV HT)) fun wS hb HB=>?_;clear hb)|((with_reducible refine cZ 104 rfl ?_);refine iW 8 rfl Tryz.func104 (aU.calls k a0 aj4 aj5 aj6 aj7 aj8 true _ A2.out (dV HT)) fun gG hb HB=>?_;clear hb)|((with_reducible refine lT 4 rfl ?_);refine jL #[.string (⟨#[]⟩:af),.int .i64 0,.string (⟨#[]⟩:af),.string (⟨#[]⟩:af),.bool false] 92 ?_;intro aty hg jH hbox hb;have af9:=aa.mk (hbox);have aCm:=lJ hg;replace HB:=fw hb;clear hb hbox hg;have _:=jK af9;have _:=pJ af9)|((with_reducible refine cZ 105 rfl ?_);refine iW 14 rfl Tryz.func105 (iC.calls aj4 aj5 aj6 aj7 aj8 ap9 _ A4.out (dV HT)) fun mP hb HB=>?_;replace af9:=eF (g:=aty) (o:=.cells #[.string aj4,.int .i64 aj5,.string aj6,.string aj7,.bool aj8] 92 (0,0)) hb;clear hb))
  go_ret2
  exact⟨jv,aX⟩):p:=h
theorem oL.calls (k:Nat) (a0 r1:ByteArray) (r2:Bool) (w:World) (h:oL.f k a0=some (r1,r2)) (HT0:mX w) :
  Calls Tryz.prog 64 #[.string a0] w fun e w'=>e = .returned (.tuple #[.string r1,.bool r2])/\Below w.heap.size w w':=by
 have HT:=aa.mk HT0;clear HT0;have Ke:=Tryz.underlying92;have HB:=aa.mk (Below.refl w.heap.size w);have H:=h;clear h;unfold oL.f at H;replace H:=gD H;obtain⟨⟨aj4,aj5,aj6,aj7,aj8,aFl⟩,A2,H⟩:=H;dsimp only at H;replace H:=gB H;rcases H with⟨rfl,H⟩|⟨rfl,H⟩
 ·replace H:=gD H;obtain⟨ap9,A4,H⟩:=H;simp only[Option.some.injEq,Prod.mk.injEq] at H;obtain⟨rfl,rfl⟩:=H;exact oL.e0
 ·simp only[Option.some.injEq,Prod.mk.injEq] at H;obtain⟨rfl,rfl⟩:=H;exact oL.e0

def jJ.f (k:Nat) (a0:ByteArray):Option (Bool):=(oL.f k a0).bind fun aoc=>(if aoc.2=true then(some (aoc.1.toList==a0.toList)) else(some false))
theorem jJ.e0 {p:Prop} (h:p:=by
  obtain rfl:=aI H
  go_enter Tryz.func36,Tryz.ntmps36
  go_wp2_with(first|((with_reducible refine cZ 64 rfl ?_);refine iW 7 rfl Tryz.func64 (oL.calls k a0 atz false _ A2.out (dV HT)) fun jH hb HB=>?_;clear hb)|((with_reducible refine cZ 64 rfl ?_);refine iW 7 rfl Tryz.func64 (oL.calls k a0 atz true _ A2.out (dV HT)) fun gG hb HB=>?_;clear hb))
  go_ret
  exact⟨jv,aX⟩):p:=h
theorem jJ.calls (k:Nat) (a0:ByteArray) (r:Bool) (w:World) (h:jJ.f k a0=some r) (HT0:mX w) :
  Calls Tryz.prog 36 #[.string a0] w fun e w'=>e = .returned (.bool r)/\Below w.heap.size w w':=by
 have HT:=aa.mk HT0;clear HT0;have HB:=aa.mk (Below.refl w.heap.size w);have H:=h;clear h;unfold jJ.f at H;replace H:=gD H;obtain⟨⟨atz,aFm⟩,A2,H⟩:=H;dsimp only at H;replace H:=gB H;rcases H with⟨rfl,H⟩|⟨rfl,H⟩
 ·exact jJ.e0
 ·exact jJ.e0


mutual
def iE.j0 : Nat->ByteArray->Bool->Option (Int×Bool)
 |0,_,_=>none
 |k+1,x0,x12=>if x12=true then(some (0,false)) else(iE.l0 k x0 0 0)
def iE.l0 : Nat->ByteArray->Int->Int->Option (Int×Bool)
 |0,_,_,_=>none
 |k+1,x0,x4,x5=>if x5<(x0.size:Int) then(if 0<=x5 then(iE.l0 k x0 (mn 2147483648 (wrap64 ((wrap64 (10*x4))+(((bt x0 x5)-48)%256)))) (wrap64 (x5+1))) else(none)) else(some (x4,true))
end
def iE.f (k:Nat) (a0:ByteArray):Option (Int×Bool):=if a0.toList=([]:aQ) then(iE.j0 k a0 true) else((dM.f k a0).bind fun aby=>(iE.j0 k a0 (!aby)))
theorem iE.calls (k:Nat) (a0:ByteArray) (r1:Int) (r2:Bool) (w:World) (h:iE.f k a0=some (r1,r2)) :
  Calls Tryz.prog 121 #[.string a0] w fun e w'=>e = .returned (.tuple #[.int .i64 r1,.bool r2])/\Below w.heap.size w w':=by
 have HB:=aa.mk (Below.refl w.heap.size w);have H:=h;clear h;unfold iE.f at H;have qz:=aa.mk H;clear H;go_enter Tryz.func121,Tryz.ntmps121;go_upto_region 1 with(fail);go_cut [12] (fun v12 wc=>∃(kq:Nat) (Oq:Bool),v12 = .bool Oq/\aa (iE.j0 kq a0 Oq=some (r1,r2))/\aa (kq<=k)/\aa (Below w.heap.size w wc))
 case first=>
  have H:=qz.out;clear qz;replace H:=gI H;rcases H with⟨c3,-,-,H⟩|⟨c3,-,-,H⟩
  ·have cB:(a0.toList==([]:aQ))=true:=beq_iff_eq.mpr c3;have ZM:a0.toList.isEmpty=true:=List.isEmpty_iff.mpr c3;have nE:(a0.toList != ([]:aQ))=false:=bne_eq_false_iff_eq.mpr c3;clear c3;(first|rw[cB]|rw[ZM]|(simp only[dU,fK];rw[cB])|skip)
   replace H:=aa.mk H;go_wp2;go_meet
   case rel=>exact⟨_,(true),bR,H,⟨tT⟩,⟨aX⟩⟩
  ·have cB:(a0.toList==([]:aQ))=false:=beq_eq_false_iff_ne.mpr c3;have ZM:a0.toList.isEmpty=false:=Bool.eq_false_iff.mpr (fun h_=>c3 (List.isEmpty_iff.mp h_));have nE:(a0.toList != ([]:aQ))=true:=bne_iff_ne.mpr c3;(first|rw[cB]|rw[ZM]|(simp only[dU,fK];rw[cB])|skip)
   replace H:=gD H;obtain⟨aby,A4,H⟩:=H;replace H:=aa.mk H;go_wp2_with((go_at_call 107;(with_reducible refine(dM.calls k a0  aby _ A4.out).mono ?_);rintro e w' ⟨rfl,⟨nd,rfl⟩⟩));go_meet
   case rel=>exact⟨_,(!aby),bR,H,⟨tT⟩,⟨aX⟩⟩
 case rest=>
  clear qz;obtain⟨kq,Oq,rfl,HA,tC,HB⟩:=hcut;cases kq with
  |zero=>exact absurd HA.out (by simp[iE.j0])
  |succ oz=>
   have H:=HA.out;clear HA;simp only[iE.j0] at H;replace H:=gB H;rcases H with⟨rfl,H⟩|⟨rfl,H⟩
   ·simp only[Option.some.injEq,Prod.mk.injEq] at H;obtain⟨rfl,rfl⟩:=H;go_wp2;go_ret2;exact⟨jv,aX⟩
   ·replace H:=aa.mk H;go_wp2;go_loopg [4,5] oz (fun kq v4 v5 w'=>∃(iG:Int) (iU:Int),v4 = .int .i64 iG/\v5 = .int .i64 iU/\aa (iE.l0 kq a0 iG iU=some (r1,r2))/\aa (kq<=oz)/\aa (Below w.heap.size w w'))
    case atStart=>exact⟨(0),(0),bR,bR,H,⟨Nat.le_refl _⟩,⟨aX⟩⟩
    case round=>
     clear H;obtain⟨iG,iU,rfl,rfl,HA,tO,HB⟩:=hrel;cases gk with
     |zero=>exact absurd HA.out (by simp[iE.l0])
     |succ k2=>
      have H:=HA.out;clear HA;simp only[iE.l0] at H;replace H:=gI H;rcases H with⟨-,jy,-,H⟩|⟨-,jy,-,H⟩
      ·replace H:=gN H;obtain⟨-,nR,-,H⟩:=H;obtain⟨ji9,QP⟩:∃ j_:Int,(mn 2147483648 (wrap64 ((wrap64 (10*iG))+(((bt a0 iU)-48)%256))))=j_:=⟨_,rfl⟩;(first|rw[QP] at H|simp only[QP] at H ⊢)
       have aCn:(if(wrap64 ((wrap64 (10*iG))+(((bt a0 iU)-48)%256)))<2147483648 then(wrap64 ((wrap64 (10*iG))+(((bt a0 iU)-48)%256))) else 2147483648)=ji9:=QP;replace H:=aa.mk H;have p8:0<=(iU:Int):=ay bM;have q8:iU<(a0.size:Int):=ay bM;have hx8:=bO a0 iU;replace p8:=eq_true p8;replace q8:=eq_true q8;go_wp2;go_roundg k2
       case measure=>have:=tC.out;have:=tO.out;omega
       case rel=>exact⟨(ji9),(wrap64 (iU+1)),(by first|rfl|(simp;done)|(simp only[<- QP] <;> (first|rfl|simp))|(simp[*];done)),bR,H,⟨Fj⟩,⟨aX⟩⟩
      ·simp only[Option.some.injEq,Prod.mk.injEq] at H;obtain⟨rfl,rfl⟩:=H;go_wp2;go_ret2;exact⟨jv,aX⟩

def iA.f (k:Nat) (a0:ByteArray) (a1:Int):Option (Int):=(iE.f k a0).bind fun aga=>(if aga.2=true then(some aga.1) else(some a1))
theorem iA.e0 {p:Prop} (h:p:=by
  obtain rfl:=aI H
  go_enter Tryz.func79,Tryz.ntmps79
  go_wp2_with(first|((with_reducible refine cZ 121 rfl ?_);refine iW 9 rfl Tryz.func121 (iE.calls k a0 aod false _ A3.out) fun jH hb HB=>?_;clear hb)|((with_reducible refine cZ 121 rfl ?_);refine iW 9 rfl Tryz.func121 (iE.calls k a0 aod true _ A3.out) fun gG hb HB=>?_;clear hb))
  go_ret
  exact⟨jv,aX⟩):p:=h
theorem iA.calls (k:Nat) (a0:ByteArray) (a1 r:Int) (w:World) (h:iA.f k a0 a1=some r) :
  Calls Tryz.prog 79 #[.string a0,.int .i64 a1] w fun e w'=>e = .returned (.int .i64 r)/\Below w.heap.size w w':=by
 have HB:=aa.mk (Below.refl w.heap.size w);have H:=h;clear h;unfold iA.f at H;replace H:=gD H;obtain⟨⟨aod,aCo⟩,A3,H⟩:=H;dsimp only at H;replace H:=gB H;rcases H with⟨rfl,H⟩|⟨rfl,H⟩
 ·exact iA.e0
 ·exact iA.e0


structure kF where
 b0:Bool
 b1:Bool
 b2:Bool
 b3:Bool
 b4:Bool
 b5:Bool
 n6:Int
 n7:Int
 n8:Int
 n9:Int
def kF.cs (d:kF):Array Value:=#[.bool d.b0,.bool d.b1,.bool d.b2,.bool d.b3,.bool d.b4,.bool d.b5,.int .i64 d.n6,.int .i64 d.n7,.int .i64 d.n8,.int .i64 d.n9]
theorem rV (B off:Nat) (v n:Int) (cs:Array Value) (w:World) (hbox:w.heap[B]? = some (.cells cs 44 (0,0))) (hc:cs[off]? = some (.int .i64 v)) :
  Calls Tryz.prog 84 #[.pointer (some ⟨B,off,none⟩),.int .i64 n] w fun e w'=>e = .returned (.tuple #[])/\w'=(if v<0 then w.setCell ⟨B,off,none⟩ (.int .i64 n) else w):=by
 have hcell:w.cell? ⟨B,off,none⟩=some (.int .i64 v):=by rw[cell_of_row w B off _ _ _ hbox];exact hc
 have hfz:w.frozen? ⟨B,off,none⟩=false:=ag hbox off
 clear hbox hc
 by_cases hv:v<0
 ·rw[if_pos hv]
  have c1:decide (v<0)=true:=bK hv
  clear hv
  go_enter Tryz.func84,Tryz.ntmps84
  go_wp2
  first|go_end0|((try simp only[Exit.inBlock,Exit.then]);refine bodyPost_ret (results_none rfl _ _ _) rfl ?_)
  exact⟨rfl,rfl⟩
 ·rw[if_neg hv]
  have c1:decide (v<0)=false:=bQ hv
  clear hv
  go_enter Tryz.func84,Tryz.ntmps84
  go_wp2
  first|go_end0|((try simp only[Exit.inBlock,Exit.then]);refine bodyPost_ret (results_none rfl _ _ _) rfl ?_)
  exact⟨rfl,rfl⟩
def kF.RB (d:kF):Bool×Bool×Bool×Bool×Bool×Bool×Int×Int×Int×Int:=(d.b0,d.b1,d.b2,d.b3,d.b4,d.b5,d.n6,d.n7,d.n8,d.n9)
def D5 : kF:=⟨false,false,false,false,false,false,-1,-1,-1,-1⟩
def sG (v n:Int):Int:=if v<0 then n else v
def keyed (k:Nat) (d:kF) (n v:ByteArray):Option kF:=
 if n.toList=([110,111,45,115,116,111,114,101]:aQ) then some { d with b0:=true }
 else if n.toList=([110,111,45,99,97,99,104,101]:aQ) then some { d with b1:=true }
 else if n.toList=([112,114,105,118,97,116,101]:aQ) then some { d with b2:=true }
 else if n.toList=([112,117,98,108,105,99]:aQ) then some { d with b3:=true }
 else if n.toList=([111,110,108,121,45,105,102,45,99,97,99,104,101,100]:aQ) then some { d with b5:=true }
 else if n.toList=([109,117,115,116,45,114,101,118,97,108,105,100,97,116,101]:aQ) then some { d with b4:=true }
 else if n.toList=([112,114,111,120,121,45,114,101,118,97,108,105,100,97,116,101]:aQ) then some { d with b4:=true }
 else if n.toList=([109,97,120,45,97,103,101]:aQ) then(iA.f k v 0).bind fun m=>some { d with n6:=sG d.n6 m }
 else if n.toList=([115,45,109,97,120,97,103,101]:aQ) then(iA.f k v 0).bind fun m=>some { d with n7:=sG d.n7 m }
 else if n.toList=([109,97,120,45,115,116,97,108,101]:aQ) then(if v.toList=([]:aQ) then some { d with n8:=sG d.n8 2147483648 } else(iA.f k v 0).bind fun m=>some { d with n8:=sG d.n8 m })
 else if n.toList=([109,105,110,45,102,114,101,115,104]:aQ) then(iA.f k v 2147483648).bind fun m=>some { d with n9:=sG d.n9 m }
 else some d
def M0 (k:Nat) (d:kF) (x:ByteArray):Option kF:=(strings_Cut.f x (⟨#[61]⟩:af)).bind fun c=>(ek.f k c.2.1).bind fun v0=>(dX.f k v0).bind fun u=>(ek.f k c.1).bind fun n0=>(jF.f n0).bind fun n=>keyed k d n (if u.2=true then u.1 else v0)
def KY : Nat->List ByteArray->kF->Int->Option kF
 |0,_,_,_=>none
 |k+1,ws,d,i=>if i<(ws.length:Int) then(if 0<=i then(M0 k d (dh ByteArray.empty ws i)).bind fun d'=>KY k ws d' (wrap64 (i+1)) else none) else some d
def KZ : Nat->List ByteArray->kF->Int->Option kF
 |0,_,_,_=>none
 |k+1,ws,d,i=>if i<(ws.length:Int) then(if 0<=i then(jF.f (dh ByteArray.empty ws i)).bind fun t=>KZ k ws (if t.toList=([110,111,45,99,97,99,104,101]:aQ) then { d with b1:=true } else d) (wrap64 (i+1)) else none) else some d
def rU.f (k:Nat) (l0:List lq):Option (Bool×Bool×Bool×Bool×Bool×Bool×Int×Int×Int×Int):=
 (oG.f k l0 (⟨#[99,97,99,104,101,45,99,111,110,116,114,111,108]⟩:af)).bind fun ws=>(KY k ws D5 0).bind fun d=>(eQ.f k l0).bind fun ok=>if ok=true then(jM.f k l0 (⟨#[99,97,99,104,101,45,99,111,110,116,114,111,108]⟩:af)).bind fun has=>(if has=true then some d.RB else(oG.f k l0 (⟨#[112,114,97,103,109,97]⟩:af)).bind fun ps=>(KZ k ps d 0).bind fun d=>some d.RB) else some d.RB
def agb : Array Value:=#[.bool false,.bool false,.bool false,.bool false,.bool false,.bool false,.int .i64 0,.int .i64 0,.int .i64 0,.int .i64 0]
structure xx (w:World) (A:Option Addr) (c:Nat) (ws:List ByteArray) (d:kF) (w':World):Prop where
 res:w'.heap[w.heap.size]? = some (.cells agb 44 (0,0))
 box:w'.heap[w.heap.size+1]? = some (.cells d.cs 44 (0,0))
 rows:Kd.R Kd.string 9 w' (w.heap.size+2) (fun k_=>w.heap.size+2<=k_) (.slice A ws.length c) ws
 bel:Below w.heap.size w w'
theorem xx.below {w:World} {A:Option Addr} {c:Nat} {ws:List ByteArray} {d:kF} {w1 w2:World} (h:xx w A c ws d w1) (hb:Below w1.heap.size w1 w2):xx w A c ws d w2:=
 ⟨ou h.res hb,ou h.box hb,Kd.bL h.rows hb,wZ h.bel hb⟩
theorem xx.drewN {w:World} {A:Option Addr} {c:Nat} {ws:List ByteArray} {d:kF} {w1:World} (h:xx w A c ws d w1) (n:Nat):xx w A c ws d (w1.drewN n):=h.below (sI (Below.refl _ _) n)
theorem xx.set {w:World} {A:Option Addr} {c:Nat} {ws:List ByteArray} {d:kF} {w1:World} (h:xx w A c ws d w1) (off:Nat) (u:Value) (d':kF) (hd:d.cs.setIfInBounds off u=d'.cs):xx w A c ws d' (w1.setCell ⟨w.heap.size+1,off,none⟩ u):=
 ⟨(Below.heap_setCell w1 ⟨w.heap.size+1,off,none⟩ u w.heap.size (by simp)).trans h.res,by rw[<- hd];exact MS h.box off u,Kd.aeL (p:=⟨w.heap.size+1,off,none⟩) h.rows (fun k_ hk_=>by simp;omega) u,h.bel.setCell (by simp) u⟩
theorem xx.cell {w:World} {A:Option Addr} {c:Nat} {ws:List ByteArray} {d:kF} {w1:World} (h:xx w A c ws d w1) (off:Nat):w1.cell? ⟨w.heap.size+1,off,none⟩=d.cs[off]?:=by
 rw[cell_of_row w1 (w.heap.size+1) off _ _ _ h.box]
theorem xx.free {w:World} {A:Option Addr} {c:Nat} {ws:List ByteArray} {d:kF} {w1:World} (h:xx w A c ws d w1) (off:Nat):w1.frozen? ⟨w.heap.size+1,off,none⟩=false:=ag h.box off
theorem UA {w:World} {g:Nat} {d:kF} (h:w.heap[g]? = some (.cells agb 44 (0,0))):(((((((((((w).setCell ⟨g,0,none⟩ (.bool d.b0)).setCell ⟨g,1,none⟩ (.bool d.b1)).setCell ⟨g,2,none⟩ (.bool d.b2)).setCell ⟨g,3,none⟩ (.bool d.b3)).setCell ⟨g,4,none⟩ (.bool d.b4)).setCell ⟨g,5,none⟩ (.bool d.b5)).setCell ⟨g,6,none⟩ (.int .i64 d.n6)).setCell ⟨g,7,none⟩ (.int .i64 d.n7)).setCell ⟨g,8,none⟩ (.int .i64 d.n8)).setCell ⟨g,9,none⟩ (.int .i64 d.n9)).heap[g]? = some (.cells d.cs 44 (0,0)):=
 by
 have h:=qL h 0 (.bool d.b0) (cs':=#[.bool d.b0,.bool false,.bool false,.bool false,.bool false,.bool false,.int .i64 0,.int .i64 0,.int .i64 0,.int .i64 0]) rfl
 have h:=qL h 1 (.bool d.b1) (cs':=#[.bool d.b0,.bool d.b1,.bool false,.bool false,.bool false,.bool false,.int .i64 0,.int .i64 0,.int .i64 0,.int .i64 0]) rfl
 have h:=qL h 2 (.bool d.b2) (cs':=#[.bool d.b0,.bool d.b1,.bool d.b2,.bool false,.bool false,.bool false,.int .i64 0,.int .i64 0,.int .i64 0,.int .i64 0]) rfl
 have h:=qL h 3 (.bool d.b3) (cs':=#[.bool d.b0,.bool d.b1,.bool d.b2,.bool d.b3,.bool false,.bool false,.int .i64 0,.int .i64 0,.int .i64 0,.int .i64 0]) rfl
 have h:=qL h 4 (.bool d.b4) (cs':=#[.bool d.b0,.bool d.b1,.bool d.b2,.bool d.b3,.bool d.b4,.bool false,.int .i64 0,.int .i64 0,.int .i64 0,.int .i64 0]) rfl
 have h:=qL h 5 (.bool d.b5) (cs':=#[.bool d.b0,.bool d.b1,.bool d.b2,.bool d.b3,.bool d.b4,.bool d.b5,.int .i64 0,.int .i64 0,.int .i64 0,.int .i64 0]) rfl
 have h:=qL h 6 (.int .i64 d.n6) (cs':=#[.bool d.b0,.bool d.b1,.bool d.b2,.bool d.b3,.bool d.b4,.bool d.b5,.int .i64 d.n6,.int .i64 0,.int .i64 0,.int .i64 0]) rfl
 have h:=qL h 7 (.int .i64 d.n7) (cs':=#[.bool d.b0,.bool d.b1,.bool d.b2,.bool d.b3,.bool d.b4,.bool d.b5,.int .i64 d.n6,.int .i64 d.n7,.int .i64 0,.int .i64 0]) rfl
 have h:=qL h 8 (.int .i64 d.n8) (cs':=#[.bool d.b0,.bool d.b1,.bool d.b2,.bool d.b3,.bool d.b4,.bool d.b5,.int .i64 d.n6,.int .i64 d.n7,.int .i64 d.n8,.int .i64 0]) rfl
 have h:=qL h 9 (.int .i64 d.n9) (cs':=#[.bool d.b0,.bool d.b1,.bool d.b2,.bool d.b3,.bool d.b4,.bool d.b5,.int .i64 d.n6,.int .i64 d.n7,.int .i64 d.n8,.int .i64 d.n9]) rfl
 exact h
theorem Kg {w W:World} {d:kF} (h:Below w.heap.size w W):Below w.heap.size w (((((((((((W).setCell ⟨w.heap.size,0,none⟩ (.bool d.b0)).setCell ⟨w.heap.size,1,none⟩ (.bool d.b1)).setCell ⟨w.heap.size,2,none⟩ (.bool d.b2)).setCell ⟨w.heap.size,3,none⟩ (.bool d.b3)).setCell ⟨w.heap.size,4,none⟩ (.bool d.b4)).setCell ⟨w.heap.size,5,none⟩ (.bool d.b5)).setCell ⟨w.heap.size,6,none⟩ (.int .i64 d.n6)).setCell ⟨w.heap.size,7,none⟩ (.int .i64 d.n7)).setCell ⟨w.heap.size,8,none⟩ (.int .i64 d.n8)).setCell ⟨w.heap.size,9,none⟩ (.int .i64 d.n9)):=
 (mQ (mQ (mQ (mQ (mQ (mQ (mQ (mQ (mQ (mQ h (Nat.le_refl _)) (Nat.le_refl _)) (Nat.le_refl _)) (Nat.le_refl _)) (Nat.le_refl _)) (Nat.le_refl _)) (Nat.le_refl _)) (Nat.le_refl _)) (Nat.le_refl _)) (Nat.le_refl _))
theorem rU.calls (k:Nat) (A0:Option Addr) (c0:Nat) (l0:List lq) (r1 r2 r3 r4 r5 r6:Bool) (r7 r8 r9 YX:Int) (w:World) (hr0:Kd.C wQ w A0 l0.length l0) (hc0:l0.length<=c0) (h:rU.f k l0=some (r1,r2,r3,r4,r5,r6,r7,r8,r9,YX)) (HT0:mX w) :
  Calls Tryz.prog 50 #[.slice A0 l0.length c0] w fun e w'=>e = .returned (.agg #[.bool r1,.bool r2,.bool r3,.bool r4,.bool r5,.bool r6,.int .i64 r7,.int .i64 r8,.int .i64 r9,.int .i64 YX])/\Below w.heap.size w w':=by
 have HT:=aa.mk HT0;clear HT0;have aFn:=Tryz.underlying44;have wR:=aa.mk hr0;have xw:=aa.mk hc0;clear hr0 hc0;obtain⟨ws,JQ,H⟩:=Option.bind_eq_some_iff.mp h;have A1:=aa.mk JQ;obtain⟨d1,L10,H1⟩:=Option.bind_eq_some_iff.mp H;have L1:=aa.mk L10;have H':=aa.mk H1;clear h JQ L10 H H1;go_enter Tryz.func50,Tryz.ntmps50;go_wp2_with fail;generalize hW2:World.alloc (World.alloc w _) _=w2;have i1:w2.heap[w.heap.size]? = some (.cells agb 44 (0,0)):=by subst hW2;exact ou (ET w _) (jA (Below.refl _ _) _)
 have i2:w2.heap[w.heap.size+1]? = some (.cells D5.cs 44 (0,0)):=by
  subst hW2;have z_:=ET (w.alloc (Obj.cells agb 44)) (Obj.cells D5.cs 44);rw[show(w.alloc (Obj.cells agb 44)).heap.size=w.heap.size+1 by simp] at z_;exact z_
 have i3:Below w.heap.size w w2:=by subst hW2;exact jA (jA (Below.refl _ _) _) _
 have i4:w2.heap.size=w.heap.size+2:=by subst hW2;simp
 clear hW2;refine(oG.calls k _ _ l0 _ ws _ (Kd.kV wR.out i3) xw.out A1.out).mono ?_;rintro e w3 ⟨v16,rfl,aj9,hb⟩;dsimp only;obtain⟨ZN,c16,rfl⟩:=eD aj9;have I:=aa.mk (xx.mk (d:=D5) (ou i1 hb) (ou i2 hb) (Kd.kg (Kd.abh rfl (i4▸aj9)) (fun k_ hk_=>Kd.qo (i4▸aj9) k_ hk_.symm)) (wZ i3 hb));clear i1 i2 i3 i4 aj9 hb;go_wp2;go_loopg [18] k (fun kq v18 w'=>∃(x18:Int) (d:kF),v18 = .int .i64 x18/\aa (KY kq ws d x18=some d1)/\aa (kq<=k)/\aa (xx w ZN c16 ws d w'))
 case atStart=>exact⟨0,D5,rfl,L1,⟨Nat.le_refl _⟩,I⟩
 case round=>
  clear L1 I;obtain⟨x18,d,rfl,HA,ig,I⟩:=hrel;cases gk with
  |zero=>exact absurd HA.out (by simp[KY])
  |succ k1=>
   have H:=HA.out;clear HA;simp only[KY] at H;by_cases c6:x18<(ws.length:Int)
   ·rw[if_pos c6] at H;have jy:decide (x18<(ws.length:Int))=true:=bK c6;by_cases c7:0<=x18
    case neg=>rw[if_neg c7] at H;cases H
    rw[if_pos c7] at H;obtain⟨d2,W0,H⟩:=Option.bind_eq_some_iff.mp H;unfold M0 at W0;obtain⟨⟨q1,q2,q3⟩,C1,W0⟩:=Option.bind_eq_some_iff.mp W0;obtain⟨v0,C2,W0⟩:=Option.bind_eq_some_iff.mp W0;obtain⟨⟨u1,u2⟩,C3,W0⟩:=Option.bind_eq_some_iff.mp W0;obtain⟨n0,C4,W0⟩:=Option.bind_eq_some_iff.mp W0;obtain⟨nm,C5,W0⟩:=Option.bind_eq_some_iff.mp W0;have A1:=aa.mk C1;have A2:=aa.mk C2;have A3:=aa.mk C3;have A4:=aa.mk C4;have A5:=aa.mk C5;have A6:=aa.mk W0;have H2:=aa.mk H;clear C1 C2 C3 C4 C5 W0 H;have nR:decide (0<=x18)=true:=bK c7;obtain⟨D8,aqa,agc⟩:=Kd.eG (Kd.aH I.out.rows).2.2 x18 c7 c6;cases aqa
    have ayg:=eq_true c7;have ayh:=eq_true c6;clear c6 c7;go_wp2_with fail;refine(strings_Cut.calls _ _ q1 q2 q3 _ A1.out ?hT).mono ?_
    case hT=>exact dV HT (by first|exact I.out.bel|exact J.out.bel|exact HB.out)
    rintro e w5 ⟨rfl,⟨nd,rfl⟩⟩;dsimp only;have J:=aa.mk (I.out.drewN nd);clear I A1 agc;generalize World.drewN _ nd=w5 at J ⊢;go_wp2_with fail;refine(ek.calls k1 q2 v0 _ A2.out).mono ?_;rintro e w6 ⟨rfl,⟨nd,rfl⟩⟩;dsimp only;have I:=aa.mk (J.out.drewN nd);clear J A2;generalize World.drewN _ nd=w6 at I ⊢;go_wp2_with fail;refine(dX.calls k1 v0 u1 u2 _ A3.out).mono ?_;rintro e w7 ⟨rfl,hb⟩;dsimp only;have J:=aa.mk (I.out.below hb);clear I A3 hb;obtain⟨va,hva⟩:∃ va:ByteArray,(if u2=true then u1 else v0)=va:=⟨_,rfl⟩;rw[hva] at A6;cases u2 with
    |true=>
     obtain rfl:u1=va:=hva

     go_wp2_with fail;refine(ek.calls k1 q1 n0 _ A4.out).mono ?_;rintro e w8 ⟨rfl,⟨nd,rfl⟩⟩;dsimp only;have I:=aa.mk (J.out.drewN nd);clear J A4;generalize World.drewN _ nd=w8 at I ⊢;go_wp2_with fail;refine(jF.calls n0 nm _ A5.out).mono ?_;rintro e w9 ⟨rfl,hb⟩;dsimp only;have J:=aa.mk (I.out.below hb);clear I A5 hb;have W0:=A6.out;unfold keyed at W0;clear A6;by_cases k0:nm.toList=([110,111,45,115,116,111,114,101]:aQ)
     ·rw[if_pos k0] at W0;have kb0:(nm.toList==([110,111,45,115,116,111,114,101]:aQ))=true:=beq_iff_eq.mpr k0;clear k0;obtain rfl:=aI W0;clear W0;have hcell:=J.out.cell 0;have hfz:=J.out.free 0;have hcell:w9.cell? ⟨w.heap.size+1,0,none⟩=some (.bool d.b0):=hcell;go_wp2;go_roundg k1
      case measure=>have:=ig.out;omega
      case rel=>exact⟨_,_,rfl,H2,⟨by have:=ig.out;omega⟩,⟨J.out.set 0 _ _ rfl⟩⟩
     ·rw[if_neg k0] at W0;have kb0:(nm.toList==([110,111,45,115,116,111,114,101]:aQ))=false:=beq_eq_false_iff_ne.mpr k0;clear k0;by_cases k1:nm.toList=([110,111,45,99,97,99,104,101]:aQ)
      ·rw[if_pos k1] at W0;have kb1:(nm.toList==([110,111,45,99,97,99,104,101]:aQ))=true:=beq_iff_eq.mpr k1;clear k1;obtain rfl:=aI W0;clear W0;have hcell:=J.out.cell 1;have hfz:=J.out.free 1;have hcell:w9.cell? ⟨w.heap.size+1,1,none⟩=some (.bool d.b1):=hcell;go_wp2;go_roundg k1
       case measure=>have:=ig.out;omega
       case rel=>exact⟨_,_,rfl,H2,⟨by have:=ig.out;omega⟩,⟨J.out.set 1 _ _ rfl⟩⟩
      ·rw[if_neg k1] at W0;have kb1:(nm.toList==([110,111,45,99,97,99,104,101]:aQ))=false:=beq_eq_false_iff_ne.mpr k1;clear k1;by_cases k2:nm.toList=([112,114,105,118,97,116,101]:aQ)
       ·rw[if_pos k2] at W0;have kb2:(nm.toList==([112,114,105,118,97,116,101]:aQ))=true:=beq_iff_eq.mpr k2;clear k2;obtain rfl:=aI W0;clear W0;have hcell:=J.out.cell 2;have hfz:=J.out.free 2;have hcell:w9.cell? ⟨w.heap.size+1,2,none⟩=some (.bool d.b2):=hcell;go_wp2;go_roundg k1
        case measure=>have:=ig.out;omega
        case rel=>exact⟨_,_,rfl,H2,⟨by have:=ig.out;omega⟩,⟨J.out.set 2 _ _ rfl⟩⟩
       ·rw[if_neg k2] at W0;have kb2:(nm.toList==([112,114,105,118,97,116,101]:aQ))=false:=beq_eq_false_iff_ne.mpr k2;clear k2;by_cases k3:nm.toList=([112,117,98,108,105,99]:aQ)
        ·rw[if_pos k3] at W0;have kb3:(nm.toList==([112,117,98,108,105,99]:aQ))=true:=beq_iff_eq.mpr k3;clear k3;obtain rfl:=aI W0;clear W0;have hcell:=J.out.cell 3;have hfz:=J.out.free 3;have hcell:w9.cell? ⟨w.heap.size+1,3,none⟩=some (.bool d.b3):=hcell;go_wp2;go_roundg k1
         case measure=>have:=ig.out;omega
         case rel=>exact⟨_,_,rfl,H2,⟨by have:=ig.out;omega⟩,⟨J.out.set 3 _ _ rfl⟩⟩
        ·rw[if_neg k3] at W0;have kb3:(nm.toList==([112,117,98,108,105,99]:aQ))=false:=beq_eq_false_iff_ne.mpr k3;clear k3;by_cases k4:nm.toList=([111,110,108,121,45,105,102,45,99,97,99,104,101,100]:aQ)
         ·rw[if_pos k4] at W0;have kb4:(nm.toList==([111,110,108,121,45,105,102,45,99,97,99,104,101,100]:aQ))=true:=beq_iff_eq.mpr k4;clear k4;obtain rfl:=aI W0;clear W0;have hcell:=J.out.cell 5;have hfz:=J.out.free 5;have hcell:w9.cell? ⟨w.heap.size+1,5,none⟩=some (.bool d.b5):=hcell;go_wp2;go_roundg k1
          case measure=>have:=ig.out;omega
          case rel=>exact⟨_,_,rfl,H2,⟨by have:=ig.out;omega⟩,⟨J.out.set 5 _ _ rfl⟩⟩
         ·rw[if_neg k4] at W0;have kb4:(nm.toList==([111,110,108,121,45,105,102,45,99,97,99,104,101,100]:aQ))=false:=beq_eq_false_iff_ne.mpr k4;clear k4;by_cases k5:nm.toList=([109,117,115,116,45,114,101,118,97,108,105,100,97,116,101]:aQ)
          ·rw[if_pos k5] at W0;have kb5:(nm.toList==([109,117,115,116,45,114,101,118,97,108,105,100,97,116,101]:aQ))=true:=beq_iff_eq.mpr k5;clear k5;obtain rfl:=aI W0;clear W0;have hcell:=J.out.cell 4;have hfz:=J.out.free 4;have hcell:w9.cell? ⟨w.heap.size+1,4,none⟩=some (.bool d.b4):=hcell;go_wp2;go_roundg k1
           case measure=>have:=ig.out;omega
           case rel=>exact⟨_,_,rfl,H2,⟨by have:=ig.out;omega⟩,⟨J.out.set 4 _ _ rfl⟩⟩
          ·rw[if_neg k5] at W0;have kb5:(nm.toList==([109,117,115,116,45,114,101,118,97,108,105,100,97,116,101]:aQ))=false:=beq_eq_false_iff_ne.mpr k5;clear k5;by_cases k6:nm.toList=([112,114,111,120,121,45,114,101,118,97,108,105,100,97,116,101]:aQ)
           ·rw[if_pos k6] at W0;have kb6:(nm.toList==([112,114,111,120,121,45,114,101,118,97,108,105,100,97,116,101]:aQ))=true:=beq_iff_eq.mpr k6;clear k6;obtain rfl:=aI W0;clear W0;have hcell:=J.out.cell 4;have hfz:=J.out.free 4;have hcell:w9.cell? ⟨w.heap.size+1,4,none⟩=some (.bool d.b4):=hcell;go_wp2;go_roundg k1
            case measure=>have:=ig.out;omega
            case rel=>exact⟨_,_,rfl,H2,⟨by have:=ig.out;omega⟩,⟨J.out.set 4 _ _ rfl⟩⟩
           ·rw[if_neg k6] at W0;have kb6:(nm.toList==([112,114,111,120,121,45,114,101,118,97,108,105,100,97,116,101]:aQ))=false:=beq_eq_false_iff_ne.mpr k6;clear k6;by_cases k7:nm.toList=([109,97,120,45,97,103,101]:aQ)
            ·rw[if_pos k7] at W0;have kb7:(nm.toList==([109,97,120,45,97,103,101]:aQ))=true:=beq_iff_eq.mpr k7;clear k7;obtain⟨m,W1,W0⟩:=Option.bind_eq_some_iff.mp W0;have A7:=aa.mk W1;obtain rfl:=aI W0;clear W0 W1;go_wp2_with fail;refine(iA.calls k1 u1 0 m _ A7.out).mono ?_;rintro e w10 ⟨rfl,hb⟩;dsimp only;have I:=aa.mk (J.out.below hb);clear J A7 hb;have hcell:=I.out.cell 6;go_wp2_with fail;refine(rV (w.heap.size+1) 6 d.n6 m d.cs _ I.out.box rfl).mono ?_;rintro e FM ⟨rfl,wm⟩;dsimp only;have Cx:xx w (some D8) c16 ws { d with n6:=sG d.n6 m } FM:=by
              rw[wm];unfold sG;split
              ·exact I.out.set 6 _ _ rfl
              ·exact I.out
             have Cx:=aa.mk Cx;clear I wm hcell;go_wp2;go_roundg k1
             case measure=>have:=ig.out;omega
             case rel=>exact⟨_,_,rfl,H2,⟨by have:=ig.out;omega⟩,Cx⟩
            ·rw[if_neg k7] at W0;have kb7:(nm.toList==([109,97,120,45,97,103,101]:aQ))=false:=beq_eq_false_iff_ne.mpr k7;clear k7;by_cases k8:nm.toList=([115,45,109,97,120,97,103,101]:aQ)
             ·rw[if_pos k8] at W0;have kb8:(nm.toList==([115,45,109,97,120,97,103,101]:aQ))=true:=beq_iff_eq.mpr k8;clear k8;obtain⟨m,W1,W0⟩:=Option.bind_eq_some_iff.mp W0;have A7:=aa.mk W1;obtain rfl:=aI W0;clear W0 W1;go_wp2_with fail;refine(iA.calls k1 u1 0 m _ A7.out).mono ?_;rintro e w10 ⟨rfl,hb⟩;dsimp only;have I:=aa.mk (J.out.below hb);clear J A7 hb;have hcell:=I.out.cell 7;go_wp2_with fail;refine(rV (w.heap.size+1) 7 d.n7 m d.cs _ I.out.box rfl).mono ?_;rintro e FM ⟨rfl,wm⟩;dsimp only;have Cx:xx w (some D8) c16 ws { d with n7:=sG d.n7 m } FM:=by
               rw[wm];unfold sG;split
               ·exact I.out.set 7 _ _ rfl
               ·exact I.out
              have Cx:=aa.mk Cx;clear I wm hcell;go_wp2;go_roundg k1
              case measure=>have:=ig.out;omega
              case rel=>exact⟨_,_,rfl,H2,⟨by have:=ig.out;omega⟩,Cx⟩
             ·rw[if_neg k8] at W0;have kb8:(nm.toList==([115,45,109,97,120,97,103,101]:aQ))=false:=beq_eq_false_iff_ne.mpr k8;clear k8;by_cases k9:nm.toList=([109,97,120,45,115,116,97,108,101]:aQ)
              ·rw[if_pos k9] at W0;have kb9:(nm.toList==([109,97,120,45,115,116,97,108,101]:aQ))=true:=beq_iff_eq.mpr k9;clear k9;by_cases cv:u1.toList=([]:aQ)
               ·rw[if_pos cv] at W0;have cvb:(u1.toList==([]:aQ))=true:=beq_iff_eq.mpr cv;obtain rfl:=aI W0;clear W0 cv;have hcell:=J.out.cell 8;go_wp2_with fail;refine(rV (w.heap.size+1) 8 d.n8 2147483648 d.cs _ J.out.box rfl).mono ?_;rintro e FM ⟨rfl,wm⟩;dsimp only;have Cx:xx w (some D8) c16 ws { d with n8:=sG d.n8 2147483648 } FM:=by
                 rw[wm];unfold sG;split
                 ·exact J.out.set 8 _ _ rfl
                 ·exact J.out
                have Cx:=aa.mk Cx;clear J wm hcell;go_wp2;go_roundg k1
                case measure=>have:=ig.out;omega
                case rel=>exact⟨_,_,rfl,H2,⟨by have:=ig.out;omega⟩,Cx⟩
               ·rw[if_neg cv] at W0;have cvb:(u1.toList==([]:aQ))=false:=beq_eq_false_iff_ne.mpr cv;clear cv;obtain⟨m,W1,W0⟩:=Option.bind_eq_some_iff.mp W0;have A7:=aa.mk W1;obtain rfl:=aI W0;clear W0 W1;go_wp2_with fail;refine(iA.calls k1 u1 0 m _ A7.out).mono ?_;rintro e w10 ⟨rfl,hb⟩;dsimp only;have I:=aa.mk (J.out.below hb);clear J A7 hb;have hcell:=I.out.cell 8;go_wp2_with fail;refine(rV (w.heap.size+1) 8 d.n8 m d.cs _ I.out.box rfl).mono ?_;rintro e FM ⟨rfl,wm⟩;dsimp only;have Cx:xx w (some D8) c16 ws { d with n8:=sG d.n8 m } FM:=by
                 rw[wm];unfold sG;split
                 ·exact I.out.set 8 _ _ rfl
                 ·exact I.out
                have Cx:=aa.mk Cx;clear I wm hcell;go_wp2;go_roundg k1
                case measure=>have:=ig.out;omega
                case rel=>exact⟨_,_,rfl,H2,⟨by have:=ig.out;omega⟩,Cx⟩
              ·rw[if_neg k9] at W0;have kb9:(nm.toList==([109,97,120,45,115,116,97,108,101]:aQ))=false:=beq_eq_false_iff_ne.mpr k9;clear k9;by_cases k10:nm.toList=([109,105,110,45,102,114,101,115,104]:aQ)
               ·rw[if_pos k10] at W0;have aqb:(nm.toList==([109,105,110,45,102,114,101,115,104]:aQ))=true:=beq_iff_eq.mpr k10;clear k10;obtain⟨m,W1,W0⟩:=Option.bind_eq_some_iff.mp W0;have A7:=aa.mk W1;obtain rfl:=aI W0;clear W0 W1;go_wp2_with fail;refine(iA.calls k1 u1 2147483648 m _ A7.out).mono ?_;rintro e w10 ⟨rfl,hb⟩;dsimp only;have I:=aa.mk (J.out.below hb);clear J A7 hb;have hcell:=I.out.cell 9;go_wp2_with fail;refine(rV (w.heap.size+1) 9 d.n9 m d.cs _ I.out.box rfl).mono ?_;rintro e FM ⟨rfl,wm⟩;dsimp only;have Cx:xx w (some D8) c16 ws { d with n9:=sG d.n9 m } FM:=by
                 rw[wm];unfold sG;split
                 ·exact I.out.set 9 _ _ rfl
                 ·exact I.out
                have Cx:=aa.mk Cx;clear I wm hcell;go_wp2;go_roundg k1
                case measure=>have:=ig.out;omega
                case rel=>exact⟨_,_,rfl,H2,⟨by have:=ig.out;omega⟩,Cx⟩
               ·rw[if_neg k10] at W0;have aqb:(nm.toList==([109,105,110,45,102,114,101,115,104]:aQ))=false:=beq_eq_false_iff_ne.mpr k10;clear k10;obtain rfl:=aI W0;clear W0;go_wp2;go_roundg k1
                case measure=>have:=ig.out;omega
                case rel=>exact⟨_,_,rfl,H2,⟨by have:=ig.out;omega⟩,J⟩
    |false=>
     obtain rfl:v0=va:=hva

     go_wp2_with fail;refine(ek.calls k1 q1 n0 _ A4.out).mono ?_;rintro e w8 ⟨rfl,⟨nd,rfl⟩⟩;dsimp only;have I:=aa.mk (J.out.drewN nd);clear J A4;generalize World.drewN _ nd=w8 at I ⊢;go_wp2_with fail;refine(jF.calls n0 nm _ A5.out).mono ?_;rintro e w9 ⟨rfl,hb⟩;dsimp only;have J:=aa.mk (I.out.below hb);clear I A5 hb;have W0:=A6.out;unfold keyed at W0;clear A6;by_cases k0:nm.toList=([110,111,45,115,116,111,114,101]:aQ)
     ·rw[if_pos k0] at W0;have kb0:(nm.toList==([110,111,45,115,116,111,114,101]:aQ))=true:=beq_iff_eq.mpr k0;clear k0;obtain rfl:=aI W0;clear W0;have hcell:=J.out.cell 0;have hfz:=J.out.free 0;have hcell:w9.cell? ⟨w.heap.size+1,0,none⟩=some (.bool d.b0):=hcell;go_wp2;go_roundg k1
      case measure=>have:=ig.out;omega
      case rel=>exact⟨_,_,rfl,H2,⟨by have:=ig.out;omega⟩,⟨J.out.set 0 _ _ rfl⟩⟩
     ·rw[if_neg k0] at W0;have kb0:(nm.toList==([110,111,45,115,116,111,114,101]:aQ))=false:=beq_eq_false_iff_ne.mpr k0;clear k0;by_cases k1:nm.toList=([110,111,45,99,97,99,104,101]:aQ)
      ·rw[if_pos k1] at W0;have kb1:(nm.toList==([110,111,45,99,97,99,104,101]:aQ))=true:=beq_iff_eq.mpr k1;clear k1;obtain rfl:=aI W0;clear W0;have hcell:=J.out.cell 1;have hfz:=J.out.free 1;have hcell:w9.cell? ⟨w.heap.size+1,1,none⟩=some (.bool d.b1):=hcell;go_wp2;go_roundg k1
       case measure=>have:=ig.out;omega
       case rel=>exact⟨_,_,rfl,H2,⟨by have:=ig.out;omega⟩,⟨J.out.set 1 _ _ rfl⟩⟩
      ·rw[if_neg k1] at W0;have kb1:(nm.toList==([110,111,45,99,97,99,104,101]:aQ))=false:=beq_eq_false_iff_ne.mpr k1;clear k1;by_cases k2:nm.toList=([112,114,105,118,97,116,101]:aQ)
       ·rw[if_pos k2] at W0;have kb2:(nm.toList==([112,114,105,118,97,116,101]:aQ))=true:=beq_iff_eq.mpr k2;clear k2;obtain rfl:=aI W0;clear W0;have hcell:=J.out.cell 2;have hfz:=J.out.free 2;have hcell:w9.cell? ⟨w.heap.size+1,2,none⟩=some (.bool d.b2):=hcell;go_wp2;go_roundg k1
        case measure=>have:=ig.out;omega
        case rel=>exact⟨_,_,rfl,H2,⟨by have:=ig.out;omega⟩,⟨J.out.set 2 _ _ rfl⟩⟩
       ·rw[if_neg k2] at W0;have kb2:(nm.toList==([112,114,105,118,97,116,101]:aQ))=false:=beq_eq_false_iff_ne.mpr k2;clear k2;by_cases k3:nm.toList=([112,117,98,108,105,99]:aQ)
        ·rw[if_pos k3] at W0;have kb3:(nm.toList==([112,117,98,108,105,99]:aQ))=true:=beq_iff_eq.mpr k3;clear k3;obtain rfl:=aI W0;clear W0;have hcell:=J.out.cell 3;have hfz:=J.out.free 3;have hcell:w9.cell? ⟨w.heap.size+1,3,none⟩=some (.bool d.b3):=hcell;go_wp2;go_roundg k1
         case measure=>have:=ig.out;omega
         case rel=>exact⟨_,_,rfl,H2,⟨by have:=ig.out;omega⟩,⟨J.out.set 3 _ _ rfl⟩⟩
        ·rw[if_neg k3] at W0;have kb3:(nm.toList==([112,117,98,108,105,99]:aQ))=false:=beq_eq_false_iff_ne.mpr k3;clear k3;by_cases k4:nm.toList=([111,110,108,121,45,105,102,45,99,97,99,104,101,100]:aQ)
         ·rw[if_pos k4] at W0;have kb4:(nm.toList==([111,110,108,121,45,105,102,45,99,97,99,104,101,100]:aQ))=true:=beq_iff_eq.mpr k4;clear k4;obtain rfl:=aI W0;clear W0;have hcell:=J.out.cell 5;have hfz:=J.out.free 5;have hcell:w9.cell? ⟨w.heap.size+1,5,none⟩=some (.bool d.b5):=hcell;go_wp2;go_roundg k1
          case measure=>have:=ig.out;omega
          case rel=>exact⟨_,_,rfl,H2,⟨by have:=ig.out;omega⟩,⟨J.out.set 5 _ _ rfl⟩⟩
         ·rw[if_neg k4] at W0;have kb4:(nm.toList==([111,110,108,121,45,105,102,45,99,97,99,104,101,100]:aQ))=false:=beq_eq_false_iff_ne.mpr k4;clear k4;by_cases k5:nm.toList=([109,117,115,116,45,114,101,118,97,108,105,100,97,116,101]:aQ)
          ·rw[if_pos k5] at W0;have kb5:(nm.toList==([109,117,115,116,45,114,101,118,97,108,105,100,97,116,101]:aQ))=true:=beq_iff_eq.mpr k5;clear k5;obtain rfl:=aI W0;clear W0;have hcell:=J.out.cell 4;have hfz:=J.out.free 4;have hcell:w9.cell? ⟨w.heap.size+1,4,none⟩=some (.bool d.b4):=hcell;go_wp2;go_roundg k1
           case measure=>have:=ig.out;omega
           case rel=>exact⟨_,_,rfl,H2,⟨by have:=ig.out;omega⟩,⟨J.out.set 4 _ _ rfl⟩⟩
          ·rw[if_neg k5] at W0;have kb5:(nm.toList==([109,117,115,116,45,114,101,118,97,108,105,100,97,116,101]:aQ))=false:=beq_eq_false_iff_ne.mpr k5;clear k5;by_cases k6:nm.toList=([112,114,111,120,121,45,114,101,118,97,108,105,100,97,116,101]:aQ)
           ·rw[if_pos k6] at W0;have kb6:(nm.toList==([112,114,111,120,121,45,114,101,118,97,108,105,100,97,116,101]:aQ))=true:=beq_iff_eq.mpr k6;clear k6;obtain rfl:=aI W0;clear W0;have hcell:=J.out.cell 4;have hfz:=J.out.free 4;have hcell:w9.cell? ⟨w.heap.size+1,4,none⟩=some (.bool d.b4):=hcell;go_wp2;go_roundg k1
            case measure=>have:=ig.out;omega
            case rel=>exact⟨_,_,rfl,H2,⟨by have:=ig.out;omega⟩,⟨J.out.set 4 _ _ rfl⟩⟩
           ·rw[if_neg k6] at W0;have kb6:(nm.toList==([112,114,111,120,121,45,114,101,118,97,108,105,100,97,116,101]:aQ))=false:=beq_eq_false_iff_ne.mpr k6;clear k6;by_cases k7:nm.toList=([109,97,120,45,97,103,101]:aQ)
            ·rw[if_pos k7] at W0;have kb7:(nm.toList==([109,97,120,45,97,103,101]:aQ))=true:=beq_iff_eq.mpr k7;clear k7;obtain⟨m,W1,W0⟩:=Option.bind_eq_some_iff.mp W0;have A7:=aa.mk W1;obtain rfl:=aI W0;clear W0 W1;go_wp2_with fail;refine(iA.calls k1 v0 0 m _ A7.out).mono ?_;rintro e w10 ⟨rfl,hb⟩;dsimp only;have I:=aa.mk (J.out.below hb);clear J A7 hb;have hcell:=I.out.cell 6;go_wp2_with fail;refine(rV (w.heap.size+1) 6 d.n6 m d.cs _ I.out.box rfl).mono ?_;rintro e FM ⟨rfl,wm⟩;dsimp only;have Cx:xx w (some D8) c16 ws { d with n6:=sG d.n6 m } FM:=by
              rw[wm];unfold sG;split
              ·exact I.out.set 6 _ _ rfl
              ·exact I.out
             have Cx:=aa.mk Cx;clear I wm hcell;go_wp2;go_roundg k1
             case measure=>have:=ig.out;omega
             case rel=>exact⟨_,_,rfl,H2,⟨by have:=ig.out;omega⟩,Cx⟩
            ·rw[if_neg k7] at W0;have kb7:(nm.toList==([109,97,120,45,97,103,101]:aQ))=false:=beq_eq_false_iff_ne.mpr k7;clear k7;by_cases k8:nm.toList=([115,45,109,97,120,97,103,101]:aQ)
             ·rw[if_pos k8] at W0;have kb8:(nm.toList==([115,45,109,97,120,97,103,101]:aQ))=true:=beq_iff_eq.mpr k8;clear k8;obtain⟨m,W1,W0⟩:=Option.bind_eq_some_iff.mp W0;have A7:=aa.mk W1;obtain rfl:=aI W0;clear W0 W1;go_wp2_with fail;refine(iA.calls k1 v0 0 m _ A7.out).mono ?_;rintro e w10 ⟨rfl,hb⟩;dsimp only;have I:=aa.mk (J.out.below hb);clear J A7 hb;have hcell:=I.out.cell 7;go_wp2_with fail;refine(rV (w.heap.size+1) 7 d.n7 m d.cs _ I.out.box rfl).mono ?_;rintro e FM ⟨rfl,wm⟩;dsimp only;have Cx:xx w (some D8) c16 ws { d with n7:=sG d.n7 m } FM:=by
               rw[wm];unfold sG;split
               ·exact I.out.set 7 _ _ rfl
               ·exact I.out
              have Cx:=aa.mk Cx;clear I wm hcell;go_wp2;go_roundg k1
              case measure=>have:=ig.out;omega
              case rel=>exact⟨_,_,rfl,H2,⟨by have:=ig.out;omega⟩,Cx⟩
             ·rw[if_neg k8] at W0;have kb8:(nm.toList==([115,45,109,97,120,97,103,101]:aQ))=false:=beq_eq_false_iff_ne.mpr k8;clear k8;by_cases k9:nm.toList=([109,97,120,45,115,116,97,108,101]:aQ)
              ·rw[if_pos k9] at W0;have kb9:(nm.toList==([109,97,120,45,115,116,97,108,101]:aQ))=true:=beq_iff_eq.mpr k9;clear k9;by_cases cv:v0.toList=([]:aQ)
               ·rw[if_pos cv] at W0;have cvb:(v0.toList==([]:aQ))=true:=beq_iff_eq.mpr cv;obtain rfl:=aI W0;clear W0 cv;have hcell:=J.out.cell 8;go_wp2_with fail;refine(rV (w.heap.size+1) 8 d.n8 2147483648 d.cs _ J.out.box rfl).mono ?_;rintro e FM ⟨rfl,wm⟩;dsimp only;have Cx:xx w (some D8) c16 ws { d with n8:=sG d.n8 2147483648 } FM:=by
                 rw[wm];unfold sG;split
                 ·exact J.out.set 8 _ _ rfl
                 ·exact J.out
                have Cx:=aa.mk Cx;clear J wm hcell;go_wp2;go_roundg k1
                case measure=>have:=ig.out;omega
                case rel=>exact⟨_,_,rfl,H2,⟨by have:=ig.out;omega⟩,Cx⟩
               ·rw[if_neg cv] at W0;have cvb:(v0.toList==([]:aQ))=false:=beq_eq_false_iff_ne.mpr cv;clear cv;obtain⟨m,W1,W0⟩:=Option.bind_eq_some_iff.mp W0;have A7:=aa.mk W1;obtain rfl:=aI W0;clear W0 W1;go_wp2_with fail;refine(iA.calls k1 v0 0 m _ A7.out).mono ?_;rintro e w10 ⟨rfl,hb⟩;dsimp only;have I:=aa.mk (J.out.below hb);clear J A7 hb;have hcell:=I.out.cell 8;go_wp2_with fail;refine(rV (w.heap.size+1) 8 d.n8 m d.cs _ I.out.box rfl).mono ?_;rintro e FM ⟨rfl,wm⟩;dsimp only;have Cx:xx w (some D8) c16 ws { d with n8:=sG d.n8 m } FM:=by
                 rw[wm];unfold sG;split
                 ·exact I.out.set 8 _ _ rfl
                 ·exact I.out
                have Cx:=aa.mk Cx;clear I wm hcell;go_wp2;go_roundg k1
                case measure=>have:=ig.out;omega
                case rel=>exact⟨_,_,rfl,H2,⟨by have:=ig.out;omega⟩,Cx⟩
              ·rw[if_neg k9] at W0;have kb9:(nm.toList==([109,97,120,45,115,116,97,108,101]:aQ))=false:=beq_eq_false_iff_ne.mpr k9;clear k9;by_cases k10:nm.toList=([109,105,110,45,102,114,101,115,104]:aQ)
               ·rw[if_pos k10] at W0;have aqb:(nm.toList==([109,105,110,45,102,114,101,115,104]:aQ))=true:=beq_iff_eq.mpr k10;clear k10;obtain⟨m,W1,W0⟩:=Option.bind_eq_some_iff.mp W0;have A7:=aa.mk W1;obtain rfl:=aI W0;clear W0 W1;go_wp2_with fail;refine(iA.calls k1 v0 2147483648 m _ A7.out).mono ?_;rintro e w10 ⟨rfl,hb⟩;dsimp only;have I:=aa.mk (J.out.below hb);clear J A7 hb;have hcell:=I.out.cell 9;go_wp2_with fail;refine(rV (w.heap.size+1) 9 d.n9 m d.cs _ I.out.box rfl).mono ?_;rintro e FM ⟨rfl,wm⟩;dsimp only;have Cx:xx w (some D8) c16 ws { d with n9:=sG d.n9 m } FM:=by
                 rw[wm];unfold sG;split
                 ·exact I.out.set 9 _ _ rfl
                 ·exact I.out
                have Cx:=aa.mk Cx;clear I wm hcell;go_wp2;go_roundg k1
                case measure=>have:=ig.out;omega
                case rel=>exact⟨_,_,rfl,H2,⟨by have:=ig.out;omega⟩,Cx⟩
               ·rw[if_neg k10] at W0;have aqb:(nm.toList==([109,105,110,45,102,114,101,115,104]:aQ))=false:=beq_eq_false_iff_ne.mpr k10;clear k10;obtain rfl:=aI W0;clear W0;go_wp2;go_roundg k1
                case measure=>have:=ig.out;omega
                case rel=>exact⟨_,_,rfl,H2,⟨by have:=ig.out;omega⟩,J⟩
   ·rw[if_neg c6] at H;have jy:decide (x18<(ws.length:Int))=false:=bQ c6;clear c6;obtain rfl:=aI H;clear H;obtain⟨ok,O1,H⟩:=Option.bind_eq_some_iff.mp H'.out;have A3:=aa.mk O1;clear O1 H';go_wp2_with fail;refine(eQ.calls k _ _ l0 ok _ (Kd.kV wR.out I.out.bel) xw.out A3.out).mono ?_;rintro e DF ⟨rfl,hb⟩;dsimp only;have J:=aa.mk (I.out.below hb);clear I A3 hb;cases ok with
    |false=>
     have e1:some d.RB=some (r1,r2,r3,r4,r5,r6,r7,r8,r9,YX):=by simpa using H
     clear H;obtain⟨rfl,rfl,rfl,rfl,rfl,rfl,rfl,rfl,rfl,rfl⟩:d.b0=r1/\d.b1=r2/\d.b2=r3/\d.b3=r4/\d.b4=r5/\d.b5=r6/\d.n6=r7/\d.n7=r8/\d.n8=r9/\d.n9=YX:=by
      have e2:=aI e1;unfold kF.RB at e2;simpa only[Prod.mk.injEq] using e2
     clear e1;have hc0:DF.cell? ⟨w.heap.size+1,0,none⟩=some (.bool d.b0):=J.out.cell 0;have hc1:DF.cell? ⟨w.heap.size+1,1,none⟩=some (.bool d.b1):=J.out.cell 1;have hc2:DF.cell? ⟨w.heap.size+1,2,none⟩=some (.bool d.b2):=J.out.cell 2;have hc3:DF.cell? ⟨w.heap.size+1,3,none⟩=some (.bool d.b3):=J.out.cell 3;have hc4:DF.cell? ⟨w.heap.size+1,4,none⟩=some (.bool d.b4):=J.out.cell 4;have hc5:DF.cell? ⟨w.heap.size+1,5,none⟩=some (.bool d.b5):=J.out.cell 5;have hc6:DF.cell? ⟨w.heap.size+1,6,none⟩=some (.int .i64 d.n6):=J.out.cell 6;have hc7:DF.cell? ⟨w.heap.size+1,7,none⟩=some (.int .i64 d.n7):=J.out.cell 7;have hc8:DF.cell? ⟨w.heap.size+1,8,none⟩=some (.int .i64 d.n8):=J.out.cell 8;have hc9:DF.cell? ⟨w.heap.size+1,9,none⟩=some (.int .i64 d.n9):=J.out.cell 9;have hz0:DF.cell? ⟨w.heap.size,0,none⟩=some (.bool false):=(ah J.out.res 0).trans rfl;have hf0:DF.frozen? ⟨w.heap.size,0,none⟩=false:=ag J.out.res 0;have hz1:DF.cell? ⟨w.heap.size,1,none⟩=some (.bool false):=(ah J.out.res 1).trans rfl;have hf1:DF.frozen? ⟨w.heap.size,1,none⟩=false:=ag J.out.res 1;have hz2:DF.cell? ⟨w.heap.size,2,none⟩=some (.bool false):=(ah J.out.res 2).trans rfl;have hf2:DF.frozen? ⟨w.heap.size,2,none⟩=false:=ag J.out.res 2;have hz3:DF.cell? ⟨w.heap.size,3,none⟩=some (.bool false):=(ah J.out.res 3).trans rfl;have hf3:DF.frozen? ⟨w.heap.size,3,none⟩=false:=ag J.out.res 3;have hz4:DF.cell? ⟨w.heap.size,4,none⟩=some (.bool false):=(ah J.out.res 4).trans rfl;have hf4:DF.frozen? ⟨w.heap.size,4,none⟩=false:=ag J.out.res 4;have hz5:DF.cell? ⟨w.heap.size,5,none⟩=some (.bool false):=(ah J.out.res 5).trans rfl;have hf5:DF.frozen? ⟨w.heap.size,5,none⟩=false:=ag J.out.res 5;have hz6:DF.cell? ⟨w.heap.size,6,none⟩=some (.int .i64 0):=(ah J.out.res 6).trans rfl;have hf6:DF.frozen? ⟨w.heap.size,6,none⟩=false:=ag J.out.res 6;have hz7:DF.cell? ⟨w.heap.size,7,none⟩=some (.int .i64 0):=(ah J.out.res 7).trans rfl;have hf7:DF.frozen? ⟨w.heap.size,7,none⟩=false:=ag J.out.res 7;have hz8:DF.cell? ⟨w.heap.size,8,none⟩=some (.int .i64 0):=(ah J.out.res 8).trans rfl;have hf8:DF.frozen? ⟨w.heap.size,8,none⟩=false:=ag J.out.res 8;have hz9:DF.cell? ⟨w.heap.size,9,none⟩=some (.int .i64 0):=(ah J.out.res 9).trans rfl;have hf9:DF.frozen? ⟨w.heap.size,9,none⟩=false:=ag J.out.res 9;go_wp2;refine bodyPost_ret (results_cell_row rfl _ _ w.heap.size 44 d.cs (0,0) _ rfl (UA J.out.res) Tryz.underlying44 rfl dK) rfl ?_;exact⟨rfl,Kg J.out.bel⟩
    |true=>
     have H1:=H;rw[if_pos rfl] at H1;clear H;obtain⟨has,O1,H⟩:=Option.bind_eq_some_iff.mp H1;have A4:=aa.mk O1;clear O1 H1;go_wp2_with fail;refine(jM.calls k _ _ l0 _ has _ (Kd.kV wR.out J.out.bel) xw.out A4.out).mono ?_;rintro e AX ⟨rfl,hb⟩;dsimp only;have I:=aa.mk (J.out.below hb);clear J A4 hb;have J:=I;clear I;cases has with
     |true=>
      have e1:some d.RB=some (r1,r2,r3,r4,r5,r6,r7,r8,r9,YX):=by simpa using H
      clear H;obtain⟨rfl,rfl,rfl,rfl,rfl,rfl,rfl,rfl,rfl,rfl⟩:d.b0=r1/\d.b1=r2/\d.b2=r3/\d.b3=r4/\d.b4=r5/\d.b5=r6/\d.n6=r7/\d.n7=r8/\d.n8=r9/\d.n9=YX:=by
       have e2:=aI e1;unfold kF.RB at e2;simpa only[Prod.mk.injEq] using e2
      clear e1;have hc0:AX.cell? ⟨w.heap.size+1,0,none⟩=some (.bool d.b0):=J.out.cell 0;have hc1:AX.cell? ⟨w.heap.size+1,1,none⟩=some (.bool d.b1):=J.out.cell 1;have hc2:AX.cell? ⟨w.heap.size+1,2,none⟩=some (.bool d.b2):=J.out.cell 2;have hc3:AX.cell? ⟨w.heap.size+1,3,none⟩=some (.bool d.b3):=J.out.cell 3;have hc4:AX.cell? ⟨w.heap.size+1,4,none⟩=some (.bool d.b4):=J.out.cell 4;have hc5:AX.cell? ⟨w.heap.size+1,5,none⟩=some (.bool d.b5):=J.out.cell 5;have hc6:AX.cell? ⟨w.heap.size+1,6,none⟩=some (.int .i64 d.n6):=J.out.cell 6;have hc7:AX.cell? ⟨w.heap.size+1,7,none⟩=some (.int .i64 d.n7):=J.out.cell 7;have hc8:AX.cell? ⟨w.heap.size+1,8,none⟩=some (.int .i64 d.n8):=J.out.cell 8;have hc9:AX.cell? ⟨w.heap.size+1,9,none⟩=some (.int .i64 d.n9):=J.out.cell 9;have hz0:AX.cell? ⟨w.heap.size,0,none⟩=some (.bool false):=(ah J.out.res 0).trans rfl;have hf0:AX.frozen? ⟨w.heap.size,0,none⟩=false:=ag J.out.res 0;have hz1:AX.cell? ⟨w.heap.size,1,none⟩=some (.bool false):=(ah J.out.res 1).trans rfl;have hf1:AX.frozen? ⟨w.heap.size,1,none⟩=false:=ag J.out.res 1;have hz2:AX.cell? ⟨w.heap.size,2,none⟩=some (.bool false):=(ah J.out.res 2).trans rfl;have hf2:AX.frozen? ⟨w.heap.size,2,none⟩=false:=ag J.out.res 2;have hz3:AX.cell? ⟨w.heap.size,3,none⟩=some (.bool false):=(ah J.out.res 3).trans rfl;have hf3:AX.frozen? ⟨w.heap.size,3,none⟩=false:=ag J.out.res 3;have hz4:AX.cell? ⟨w.heap.size,4,none⟩=some (.bool false):=(ah J.out.res 4).trans rfl;have hf4:AX.frozen? ⟨w.heap.size,4,none⟩=false:=ag J.out.res 4;have hz5:AX.cell? ⟨w.heap.size,5,none⟩=some (.bool false):=(ah J.out.res 5).trans rfl;have hf5:AX.frozen? ⟨w.heap.size,5,none⟩=false:=ag J.out.res 5;have hz6:AX.cell? ⟨w.heap.size,6,none⟩=some (.int .i64 0):=(ah J.out.res 6).trans rfl;have hf6:AX.frozen? ⟨w.heap.size,6,none⟩=false:=ag J.out.res 6;have hz7:AX.cell? ⟨w.heap.size,7,none⟩=some (.int .i64 0):=(ah J.out.res 7).trans rfl;have hf7:AX.frozen? ⟨w.heap.size,7,none⟩=false:=ag J.out.res 7;have hz8:AX.cell? ⟨w.heap.size,8,none⟩=some (.int .i64 0):=(ah J.out.res 8).trans rfl;have hf8:AX.frozen? ⟨w.heap.size,8,none⟩=false:=ag J.out.res 8;have hz9:AX.cell? ⟨w.heap.size,9,none⟩=some (.int .i64 0):=(ah J.out.res 9).trans rfl;have hf9:AX.frozen? ⟨w.heap.size,9,none⟩=false:=ag J.out.res 9;go_wp2;refine bodyPost_ret (results_cell_row rfl _ _ w.heap.size 44 d.cs (0,0) _ rfl (UA J.out.res) Tryz.underlying44 rfl dK) rfl ?_;exact⟨rfl,Kg J.out.bel⟩
     |false=>
      have H1:=H;rw[if_neg aA] at H1;clear H;obtain⟨ps,O1,H⟩:=Option.bind_eq_some_iff.mp H1;obtain⟨d9,O2,H2⟩:=Option.bind_eq_some_iff.mp H;have A5:=aa.mk O1;have L2:=aa.mk O2;have H3:=aa.mk H2;clear O1 O2 H H1 H2;go_wp2_with fail;refine(oG.calls k _ _ l0 _ ps _ (Kd.kV wR.out J.out.bel) xw.out A5.out).mono ?_;rintro e w14 ⟨aFo,rfl,agd,hb⟩;dsimp only;obtain⟨ayi,ayj,rfl⟩:=eD agd;have hsz:w.heap.size+2<=AX.heap.size:=by have:=vG J.out.box;omega
      have hr:=Kd.gu agd hsz;have I:=aa.mk (xx.mk (d:=d) (ou J.out.res hb) (ou J.out.box hb) (Kd.kg (Kd.abh rfl hr) (fun k_ hk_=>Kd.qo hr k_ hk_.symm)) (wZ J.out.bel hb));clear J hr agd hb hsz;go_wp2;go_loopg [103] k (fun kq ayk w'=>∃(x103:Int) (d:kF),ayk = .int .i64 x103/\aa (KZ kq ps d x103=some d9)/\aa (kq<=k)/\aa (xx w ayi ayj ps d w'))
      case atStart=>exact⟨0,d,rfl,L2,⟨Nat.le_refl _⟩,I⟩
      case round=>
       clear L2 I;obtain⟨x103,dq,rfl,HA,ig,I⟩:=hrel;cases gk with
       |zero=>exact absurd HA.out (by simp[KZ])
       |succ k1=>
        have H:=HA.out;clear HA;simp only[KZ] at H;by_cases c6:x103<(ps.length:Int)
        ·rw[if_pos c6] at H;have jy:decide (x103<(ps.length:Int))=true:=bK c6;by_cases c7:0<=x103
         case neg=>rw[if_neg c7] at H;cases H
         rw[if_pos c7] at H;obtain⟨t,W0,H⟩:=Option.bind_eq_some_iff.mp H;have A6:=aa.mk W0;clear W0;have nR:decide (0<=x103)=true:=bK c7;obtain⟨D8,aqa,agc⟩:=Kd.eG (Kd.aH I.out.rows).2.2 x103 c7 c6;cases aqa
         have ayg:=eq_true c7;have ayh:=eq_true c6;clear c6 c7;go_wp2_with fail;refine(jF.calls _ t _ A6.out).mono ?_;rintro e w15 ⟨rfl,hb⟩;dsimp only;have J:=aa.mk (I.out.below hb);clear I A6 hb agc;by_cases kt:t.toList=([110,111,45,99,97,99,104,101]:aQ)
         ·rw[if_pos kt] at H;have H2:=aa.mk H;have ktb:(t.toList==([110,111,45,99,97,99,104,101]:aQ))=true:=beq_iff_eq.mpr kt;clear kt H;have hcell:w15.cell? ⟨w.heap.size+1,1,none⟩=some (.bool dq.b1):=J.out.cell 1;have hfz:=J.out.free 1;go_wp2;go_roundg k1
          case measure=>have:=ig.out;omega
          case rel=>exact⟨_,_,rfl,H2,⟨by have:=ig.out;omega⟩,⟨J.out.set 1 _ _ rfl⟩⟩
         ·rw[if_neg kt] at H;have H2:=aa.mk H;have ktb:(t.toList==([110,111,45,99,97,99,104,101]:aQ))=false:=beq_eq_false_iff_ne.mpr kt;clear kt H;go_wp2;go_roundg k1
          case measure=>have:=ig.out;omega
          case rel=>exact⟨_,_,rfl,H2,⟨by have:=ig.out;omega⟩,J⟩
        ·rw[if_neg c6] at H;have jy:decide (x103<(ps.length:Int))=false:=bQ c6;clear c6;obtain rfl:=aI H;have J:=I;have H4:=H3.out;clear H H3 I;have e1:some dq.RB=some (r1,r2,r3,r4,r5,r6,r7,r8,r9,YX):=by simpa using H4
         clear H4;obtain⟨rfl,rfl,rfl,rfl,rfl,rfl,rfl,rfl,rfl,rfl⟩:dq.b0=r1/\dq.b1=r2/\dq.b2=r3/\dq.b3=r4/\dq.b4=r5/\dq.b5=r6/\dq.n6=r7/\dq.n7=r8/\dq.n8=r9/\dq.n9=YX:=by
          have e2:=aI e1;unfold kF.RB at e2;simpa only[Prod.mk.injEq] using e2
         clear e1;have hc0:wr.cell? ⟨w.heap.size+1,0,none⟩=some (.bool dq.b0):=J.out.cell 0;have hc1:wr.cell? ⟨w.heap.size+1,1,none⟩=some (.bool dq.b1):=J.out.cell 1;have hc2:wr.cell? ⟨w.heap.size+1,2,none⟩=some (.bool dq.b2):=J.out.cell 2;have hc3:wr.cell? ⟨w.heap.size+1,3,none⟩=some (.bool dq.b3):=J.out.cell 3;have hc4:wr.cell? ⟨w.heap.size+1,4,none⟩=some (.bool dq.b4):=J.out.cell 4;have hc5:wr.cell? ⟨w.heap.size+1,5,none⟩=some (.bool dq.b5):=J.out.cell 5;have hc6:wr.cell? ⟨w.heap.size+1,6,none⟩=some (.int .i64 dq.n6):=J.out.cell 6;have hc7:wr.cell? ⟨w.heap.size+1,7,none⟩=some (.int .i64 dq.n7):=J.out.cell 7;have hc8:wr.cell? ⟨w.heap.size+1,8,none⟩=some (.int .i64 dq.n8):=J.out.cell 8;have hc9:wr.cell? ⟨w.heap.size+1,9,none⟩=some (.int .i64 dq.n9):=J.out.cell 9;have hz0:wr.cell? ⟨w.heap.size,0,none⟩=some (.bool false):=(ah J.out.res 0).trans rfl;have hf0:wr.frozen? ⟨w.heap.size,0,none⟩=false:=ag J.out.res 0;have hz1:wr.cell? ⟨w.heap.size,1,none⟩=some (.bool false):=(ah J.out.res 1).trans rfl;have hf1:wr.frozen? ⟨w.heap.size,1,none⟩=false:=ag J.out.res 1;have hz2:wr.cell? ⟨w.heap.size,2,none⟩=some (.bool false):=(ah J.out.res 2).trans rfl;have hf2:wr.frozen? ⟨w.heap.size,2,none⟩=false:=ag J.out.res 2;have hz3:wr.cell? ⟨w.heap.size,3,none⟩=some (.bool false):=(ah J.out.res 3).trans rfl;have hf3:wr.frozen? ⟨w.heap.size,3,none⟩=false:=ag J.out.res 3;have hz4:wr.cell? ⟨w.heap.size,4,none⟩=some (.bool false):=(ah J.out.res 4).trans rfl;have hf4:wr.frozen? ⟨w.heap.size,4,none⟩=false:=ag J.out.res 4;have hz5:wr.cell? ⟨w.heap.size,5,none⟩=some (.bool false):=(ah J.out.res 5).trans rfl;have hf5:wr.frozen? ⟨w.heap.size,5,none⟩=false:=ag J.out.res 5;have hz6:wr.cell? ⟨w.heap.size,6,none⟩=some (.int .i64 0):=(ah J.out.res 6).trans rfl;have hf6:wr.frozen? ⟨w.heap.size,6,none⟩=false:=ag J.out.res 6;have hz7:wr.cell? ⟨w.heap.size,7,none⟩=some (.int .i64 0):=(ah J.out.res 7).trans rfl;have hf7:wr.frozen? ⟨w.heap.size,7,none⟩=false:=ag J.out.res 7;have hz8:wr.cell? ⟨w.heap.size,8,none⟩=some (.int .i64 0):=(ah J.out.res 8).trans rfl;have hf8:wr.frozen? ⟨w.heap.size,8,none⟩=false:=ag J.out.res 8;have hz9:wr.cell? ⟨w.heap.size,9,none⟩=some (.int .i64 0):=(ah J.out.res 9).trans rfl;have hf9:wr.frozen? ⟨w.heap.size,9,none⟩=false:=ag J.out.res 9;go_wp2;refine bodyPost_ret (results_cell_row rfl _ _ w.heap.size 44 dq.cs (0,0) _ rfl (UA J.out.res) Tryz.underlying44 rfl dK) rfl ?_;exact⟨rfl,Kg J.out.bel⟩


def ji.f (k:Nat) (ak:ByteArray) (au:Int) (az:Int) (fo:List (lq)) (aD:ByteArray) (di:ByteArray) (bF:Int) (ik:ByteArray) (gY:Bool) (dF:List (lq)) (dJ:ByteArray):Option (Bool):=(jJ.f k ak).bind fun ayl=>(if ayl=true then((gW.f au).bind fun aym=>(if aym=true then((gW.f az).bind fun ayn=>(if ayn=true then(if au<=az then((eQ.f k fo).bind fun ayo=>(if ayo=true then((bN.f k aD di bF ik gY dF dJ).bind fun ayp=>(if ayp=true then(if aD.toList=([]:aQ) then(some (!gY)) else(some false)) else(some false))) else(some false))) else(some false)) else(some false))) else(some false))) else(some false))
theorem ji.e0 {p:Prop} (h:p:=by
  obtain rfl:=aI H.out
  go_enter Tryz.func13,Tryz.ntmps13
  go_wp2_with(first|((with_reducible refine lT 1 rfl ?_);refine jL #[.string ak,.int .i64 au,.int .i64 az,.slice oH fo.length oI,.string aD,.string di,.int .i64 bF,.string ik,.bool gY,.slice oJ dF.length oK,.string dJ] 33 ?_;intro Sb hg gG hbox hb;have FN:=aa.mk (hbox);have aCp:=lJ hg;replace HB:=fw hb;clear hb hbox hg;have _:=jQ FN)|((with_reducible refine cZ 36 rfl ?_);refine iW 5 rfl Tryz.func36 (jJ.calls k ak false _ A2.out (dV HT)) fun Cu hb HB=>?_;replace FN:=eF (g:=Sb) hb;clear hb)|((with_reducible refine cZ 36 rfl ?_);refine iW 5 rfl Tryz.func36 (jJ.calls k ak true _ A2.out (dV HT)) fun jH hb HB=>?_;replace FN:=eF (g:=Sb) hb;clear hb;have _:=jQ FN)|(go_at_call 37;(with_reducible refine(gW.calls au false _ A4.out).mono ?_);rintro e w' ⟨rfl,⟨nd,rfl⟩⟩)|(go_at_call 37;(with_reducible refine(gW.calls au true _ A4.out).mono ?_);rintro e w' ⟨rfl,⟨nd,rfl⟩⟩)|(go_at_call 37;(with_reducible refine(gW.calls az false _ A6.out).mono ?_);rintro e w' ⟨rfl,⟨nd,rfl⟩⟩)|(go_at_call 37;(with_reducible refine(gW.calls az true _ A6.out).mono ?_);rintro e w' ⟨rfl,⟨nd,rfl⟩⟩)|(go_at_call 38;(with_reducible refine(eQ.calls k _ _ fo false _ ?nG ?nH A9.out).mono ?_);(case nG=>exact afb);(case nH=>exact mO.out);rintro e Af ⟨rfl,hb⟩;replace FN:=eF (g:=Sb) hb;replace HB:=fw hb;clear hb)|(go_at_call 38;(with_reducible refine(eQ.calls k _ _ fo true _ ?nG ?nH A9.out).mono ?_);(case nG=>exact afb);(case nH=>exact mO.out);rintro e mP ⟨rfl,hb⟩;replace FN:=eF (g:=Sb) hb;replace HB:=fw hb;clear hb;have _:=jQ FN)|(go_at_call 39;(with_reducible refine(bN.calls k aD di bF ik gY _ _ dF dJ false _ ?nG ?nH M3.out ?hT).mono ?_);(case hT=>exact dV HT);(case nG=>exact Ch);(case nH=>exact jN.out);rintro e uo ⟨rfl,hb⟩;replace FN:=eF (g:=Sb) hb;replace HB:=fw hb;clear hb)|(go_at_call 39;(with_reducible refine(bN.calls k aD di bF ik gY _ _ dF dJ true _ ?nG ?nH M3.out ?hT).mono ?_);(case hT=>exact dV HT);(case nG=>exact Ch);(case nH=>exact jN.out);rintro e wS ⟨rfl,hb⟩;replace FN:=eF (g:=Sb) hb;replace HB:=fw hb;clear hb;have _:=jQ FN))
  go_ret
  exact⟨jv,aX⟩):p:=h
theorem ji.calls (k:Nat) (ak:ByteArray) (au az:Int) (oH:Option Addr) (oI:Nat) (fo:List (lq)) (aD di:ByteArray) (bF:Int) (ik:ByteArray) (gY:Bool) (oJ:Option Addr) (oK:Nat) (dF:List (lq)) (dJ:ByteArray) (r:Bool) (w:World) (pR:Kd.C wQ w oH fo.length fo) (pU:fo.length<=oI) (pV:Kd.C wQ w oJ dF.length dF) (pW:dF.length<=oK) (h:ji.f k ak au az fo aD di bF ik gY dF dJ=some r) (HT0:mX w) :
  Calls Tryz.prog 13 #[.agg #[.string ak,.int .i64 au,.int .i64 az,.slice oH fo.length oI,.string aD,.string di,.int .i64 bF,.string ik,.bool gY,.slice oJ dF.length oK,.string dJ]] w fun e w'=>e = .returned (.bool r)/\Below w.heap.size w w':=by
 have HT:=aa.mk HT0;clear HT0;have VP:=Tryz.underlying33;have QM:=Tryz.underlying31;have C8:=aa.mk pR;have mO:=aa.mk pU;clear pR pU;have yA:=aa.mk pV;have jN:=aa.mk pW;clear pV pW;have HB:=aa.mk (Below.refl w.heap.size w);have H:=aa.mk h;clear h;unfold ji.f at H;rcases lu H with⟨A2,H⟩|⟨A2,H⟩
 ·rcases lu H with⟨A4,H⟩|⟨A4,H⟩
  ·rcases lu H with⟨A6,H⟩|⟨A6,H⟩
   ·rcases jw H with⟨-,mU,-,H⟩|⟨-,mU,-,H⟩
    ·rcases lu H with⟨A9,H⟩|⟨A9,H⟩
     ·rcases lu H with⟨M3,H⟩|⟨M3,H⟩
      ·rcases jw H with⟨c13,-,-,H⟩|⟨c13,-,-,H⟩
       ·obtain⟨qG,wo⟩:=kT c13;clear c13;exact ji.e0
       ·obtain⟨qG,wo⟩:=kU c13;exact ji.e0
      ·exact ji.e0
     ·exact ji.e0
    ·exact ji.e0
   ·exact ji.e0
  ·exact ji.e0
 ·exact ji.e0


def lD.f (k:Nat) (l0:List (lq)) (a1:ByteArray):Option (Int×Bool):=(zB.f k l0 a1).bind fun aqc=>((aj.f k aqc.1).bind fun age=>(some (age.1,age.2)))
theorem lD.calls (k:Nat) (A0:Option Addr) (c0:Nat) (l0:List (lq)) (a1:ByteArray) (r1:Int) (r2:Bool) (w:World) (hr0:Kd.C wQ w A0 l0.length l0) (hc0:l0.length<=c0) (h:lD.f k l0 a1=some (r1,r2)) (HT0:mX w) :
  Calls Tryz.prog 52 #[.slice A0 l0.length c0,.string a1] w fun e w'=>e = .returned (.tuple #[.int .i64 r1,.bool r2])/\Below w.heap.size w w':=by
 have HT:=aa.mk HT0;clear HT0;have wR:=aa.mk hr0;have xw:=aa.mk hc0;clear hr0 hc0;have HB:=aa.mk (Below.refl w.heap.size w);have H:=aa.mk h;clear h;unfold lD.f at H;obtain⟨⟨aoe,atA⟩,A3,H⟩:=nP H;dsimp only at H;obtain⟨⟨atB,atC⟩,A4,H⟩:=nP H;dsimp only at H;simp only[Option.some.injEq,Prod.mk.injEq] at H;obtain⟨rfl,rfl⟩:=H;go_enter Tryz.func52,Tryz.ntmps52;go_wp2_with(first|((with_reducible refine cZ 78 rfl ?_);refine iW 11 rfl Tryz.func78 (zB.calls k _ _ l0 a1 aoe atA _ Rk xw.out A3.out) fun w5 hb HB=>?_;clear hb)|((with_reducible refine cZ 91 rfl ?_);refine iW 15 rfl Tryz.func91 (aj.calls k aoe atB atC _ A4.out (dV HT)) fun w6 hb HB=>?_;clear hb));go_ret2;exact⟨jv,aX⟩

def iT.f (k:Nat) (ak:ByteArray) (au:Int) (az:Int) (fo:List (lq)) (aD:ByteArray) (di:ByteArray) (bF:Int) (ik:ByteArray) (gY:Bool) (dF:List (lq)) (dJ:ByteArray):Option (Int):=(lD.f k dF (⟨#[100,97,116,101]⟩:af)).bind fun agf=>(if agf.2=true then(some agf.1) else(some az))
theorem iT.e0 {p:Prop} (h:p:=by
  obtain rfl:=aI H
  go_enter Tryz.func43,Tryz.ntmps43
  go_wp2_with(first|((with_reducible refine lT 1 rfl ?_);refine jL #[.string ak,.int .i64 au,.int .i64 az,.slice oH fo.length oI,.string aD,.string di,.int .i64 bF,.string ik,.bool gY,.slice oJ dF.length oK,.string dJ] 33 ?_;intro agh hg gG hbox hb;have UB:=aa.mk (hbox);have ayq:=lJ hg;replace HB:=fw hb;clear hb hbox hg;have _:=jQ UB)|((with_reducible refine cZ 52 rfl ?_);refine iW 9 rfl Tryz.func52 (lD.calls k _ _ dF (⟨#[100,97,116,101]⟩:af) aof false _ Ch jN.out A2.out (dV HT)) fun mP hb HB=>?_;replace UB:=eF (g:=agh) hb;clear hb;have _:=jQ UB)|((with_reducible refine cZ 52 rfl ?_);refine iW 9 rfl Tryz.func52 (lD.calls k _ _ dF (⟨#[100,97,116,101]⟩:af) aof true _ Ch jN.out A2.out (dV HT)) fun jH hb HB=>?_;replace UB:=eF (g:=agh) hb;clear hb))
  go_ret
  exact⟨jv,aX⟩):p:=h
theorem iT.calls (k:Nat) (ak:ByteArray) (au az:Int) (oH:Option Addr) (oI:Nat) (fo:List (lq)) (aD di:ByteArray) (bF:Int) (ik:ByteArray) (gY:Bool) (oJ:Option Addr) (oK:Nat) (dF:List (lq)) (dJ:ByteArray) (r:Int) (w:World) (pR:Kd.C wQ w oH fo.length fo) (pU:fo.length<=oI) (pV:Kd.C wQ w oJ dF.length dF) (pW:dF.length<=oK) (h:iT.f k ak au az fo aD di bF ik gY dF dJ=some r) (HT0:mX w) :
  Calls Tryz.prog 43 #[.agg #[.string ak,.int .i64 au,.int .i64 az,.slice oH fo.length oI,.string aD,.string di,.int .i64 bF,.string ik,.bool gY,.slice oJ dF.length oK,.string dJ]] w fun e w'=>e = .returned (.int .i64 r)/\Below w.heap.size w w':=by
 have HT:=aa.mk HT0;clear HT0;have VP:=Tryz.underlying33;have C8:=aa.mk pR;have mO:=aa.mk pU;clear pR pU;have yA:=aa.mk pV;have jN:=aa.mk pW;clear pV pW;have HB:=aa.mk (Below.refl w.heap.size w);have H:=h;clear h;unfold iT.f at H;replace H:=gD H;obtain⟨⟨aof,aCq⟩,A2,H⟩:=H;dsimp only at H;replace H:=gB H;rcases H with⟨rfl,H⟩|⟨rfl,H⟩
 ·exact iT.e0
 ·exact iT.e0



def pO.f (k:Nat) (a0:Int):Option (Bool):=(jG.f k (([200,203,204,300,301,308,404,405,410,414,501]:List Int)) a0).bind fun V9=>(some V9)
theorem pO.calls (k:Nat) (a0:Int) (r:Bool) (w:World) (h:pO.f k a0=some r) :
  Calls Tryz.prog 53 #[.int .i64 a0] w fun e w'=>e = .returned (.bool r)/\Below w.heap.size w w':=by
 have HB:=aa.mk (Below.refl w.heap.size w);have H:=h;clear h;unfold pO.f at H;obtain⟨agi,Ot⟩:∃ y_:List Int,y_=(([200,203,204,300,301,308,404,405,410,414,501]:List Int)):=⟨_,rfl⟩;replace H:((jG.f k agi a0).bind fun V9=>(some V9))=some r:=by first|(rw[Ot];with_reducible exact H)|(have kP:=(ax _ _).symm.trans H;rw[Ot];with_reducible exact kP)|(have kP:=(ax _ _).symm.trans H;with_reducible exact kP)|with_reducible exact H|(rw[Ot];exact H)|exact H
 have agj:=aa.mk Ot;clear Ot;replace H:=gD H;obtain⟨V9,A2,H⟩:=H;obtain rfl:=aI H;go_enter Tryz.func53,Tryz.ntmps53;go_wp2_with(first|((with_reducible refine lT 3 rfl ?_);refine Kd.Re (Kd.int .i64) _ 3 ?hg (N:=3) ?hd (xs:=([200,203,204,300,301,308,404,405,410,414,501]:List Int)) (inner:=[.int .i64 200,.int .i64 203,.int .i64 204,.int .i64 300,.int .i64 301,.int .i64 308,.int .i64 404,.int .i64 405,.int .i64 410,.int .i64 414,.int .i64 501]) (ok:=fun _=>True) (okp:=fun _=>True) ?hr ?hp (fun _ hk=>hk) trivial (Below.refl _ _) (Nat.le_refl _) (by simp) ?_;(case hd=>rfl);(case hg=>rfl);(case hr=>first|(go_simp;done)|(go_simp;rfl));(case hp=>exact(fI.one (show Kd.M (Kd.int .i64) _ _ _ 200 [.int .i64 200] from rfl) (fI.one (show Kd.M (Kd.int .i64) _ _ _ 203 [.int .i64 203] from rfl) (fI.one (show Kd.M (Kd.int .i64) _ _ _ 204 [.int .i64 204] from rfl) (fI.one (show Kd.M (Kd.int .i64) _ _ _ 300 [.int .i64 300] from rfl) (fI.one (show Kd.M (Kd.int .i64) _ _ _ 301 [.int .i64 301] from rfl) (fI.one (show Kd.M (Kd.int .i64) _ _ _ 308 [.int .i64 308] from rfl) (fI.one (show Kd.M (Kd.int .i64) _ _ _ 404 [.int .i64 404] from rfl) (fI.one (show Kd.M (Kd.int .i64) _ _ _ 405 [.int .i64 405] from rfl) (fI.one (show Kd.M (Kd.int .i64) _ _ _ 410 [.int .i64 410] from rfl) (fI.one (show Kd.M (Kd.int .i64) _ _ _ 414 [.int .i64 414] from rfl) (fI.one (show Kd.M (Kd.int .i64) _ _ _ 501 [.int .i64 501] from rfl) (fI.none _ _)))))))))))));intro aCr w3 ho4 hb hg_ hnew_;clear hg_ hnew_;(first|rw[<- agj.out] at ho4|(simp only[Int.reduceToNat] at ho4;rw[<- agj.out] at ho4));have Zh:=aa.mk (Kd.gu ho4 (aN aX));replace HB:=fw hb;clear hb ho4;obtain⟨Ao5,co5,eo5⟩:=Kd.eD Zh.out;subst eo5)|((with_reducible refine cZ 92 rfl ?_);refine mM (args:=#[.slice Ao5 agi.length co5,.int .i64 a0]) 5 rfl Tryz.func92 (jG.calls k _ _ agi a0 V9 _ axK ((Kd.aH Zh.out).2.1) A2.out) fun nd=>?_));go_ret;exact⟨jv,aX⟩


def fC.f (k:Nat) (ak:ByteArray) (au:Int) (az:Int) (fo:List (lq)) (aD:ByteArray) (di:ByteArray) (bF:Int) (ik:ByteArray) (gY:Bool) (dF:List (lq)) (dJ:ByteArray):Option (Int):=(ji.f k ak au az fo aD di bF ik gY dF dJ).bind fun atD=>(if atD=true then((rU.f k dF).bind fun UC=>(if UC.2.2.2.2.2.2.2.1>=0 then(some UC.2.2.2.2.2.2.2.1) else(if UC.2.2.2.2.2.2.1>=0 then(some UC.2.2.2.2.2.2.1) else((jM.f k dF (⟨#[101,120,112,105,114,101,115]⟩:af)).bind fun atE=>(if atE=true then((lD.f k dF (⟨#[101,120,112,105,114,101,115]⟩:af)).bind fun agk=>(if agk.2=true then((iT.f k ak au az fo aD di bF ik gY dF dJ).bind fun Sc=>(some (mx 0 (wrap64 (agk.1-Sc))))) else(some 0))) else((lD.f k dF (⟨#[108,97,115,116,45,109,111,100,105,102,105,101,100]⟩:af)).bind fun ZO=>(if ZO.2=true then((pO.f k bF).bind fun atF=>(if atF=true then((iT.f k ak au az fo aD di bF ik gY dF dJ).bind fun agl=>(if ZO.1<=agl then((iT.f k ak au az fo aD di bF ik gY dF dJ).bind fun Sd=>(some (mn 86400 (wrap64 (Int.tdiv (wrap64 (Sd-ZO.1)) 10))))) else(some 0))) else(some 0))) else(some 0)))))))) else(some (-1)))
theorem fC.gBs {p:Prop} (h:p:=by repeat(first|(with_reducible first|exact aa.out (by assumption)|apply qL|(apply Bh;assumption)|apply kH|apply eu|apply lX)|(simp only[List.setIfInBounds_toArray,List.set_cons_zero,List.set_cons_succ];with_reducible rfl)|(simp only[List.setIfInBounds_toArray,List.set_cons_zero,List.set_cons_succ];done)|exact(rfl:(_:Array Value)=_))):p:=h
theorem fC.Vi {W w1:World} {g:Nat} {o:Obj} (hb:Below W.heap.size W w1) (h:W.heap[g]? = some o:=by exact fC.gBs):aa (w1.heap[g]? = some o):=⟨ou h hb⟩
theorem fC.e0 {p:Prop} (h:p:=by
  obtain rfl:=aI H
  go_enter Tryz.func22,Tryz.ntmps22
  go_wp2_with(first|((with_reducible refine lT 1 rfl ?_);refine jL #[.string ak,.int .i64 au,.int .i64 az,.slice oH fo.length oI,.string aD,.string di,.int .i64 bF,.string ik,.bool gY,.slice oJ dF.length oK,.string dJ] 33 ?_;intro tY hg gG hbox hb;have qA:=aa.mk (hbox);have ayr:=lJ hg;replace HB:=fw hb;clear hb hbox hg;have _:=jQ qA)|((with_reducible refine cZ 13 rfl ?_);refine iW 10 rfl Tryz.func13 (ji.calls k ak au az _ _ fo aD di bF ik gY _ _ dF dJ false _ Qo mO.out Ch jN.out A2.out (dV HT)) fun aCs hb HB=>?_;replace qA:=eF (g:=tY) hb;clear hb)|((with_reducible refine cZ 13 rfl ?_);refine iW 10 rfl Tryz.func13 (ji.calls k ak au az _ _ fo aD di bF ik gY _ _ dF dJ true _ Qo mO.out Ch jN.out A2.out (dV HT)) fun jH hb HB=>?_;replace qA:=eF (g:=tY) hb;clear hb;have _:=jQ qA)|((with_reducible refine cZ 50 rfl ?_);refine iW 16 rfl Tryz.func50 (rU.calls k _ _ dF agm agn agp agq agr ags agt agu agv agw _ Ch jN.out A4.out (dV HT)) fun mP hb HB=>?_;replace qA:=eF (g:=tY) hb;clear hb)|((with_reducible refine lT 4 rfl ?_);refine jL #[.bool false,.bool false,.bool false,.bool false,.bool false,.bool false,.int .i64 0,.int .i64 0,.int .i64 0,.int .i64 0] 44 ?_;intro zJ hg aCt hbox hb;have yn:=aa.mk (hbox);have ays:=lJ hg;have K9:=CZ (g:=tY) hg;have Wd:=DL K9;replace qA:=eF (g:=tY) hb;replace HB:=fw hb;clear hb hbox hg;have ayt:=Wd.out;have ayu:=K9.out;have _:=zl yn)|((with_reducible refine cZ 51 rfl ?_);refine iW 31 rfl Tryz.func51 (jM.calls k _ _ dF (⟨#[101,120,112,105,114,101,115]⟩:af) false _ (Kd.kV yA.out aX) jN.out A23.out) fun agx hb HB=>?_;replace qA:=eF (g:=tY) hb;replace yn:=fC.Vi (g:=zJ) (o:=.cells #[.bool agm,.bool agn,.bool agp,.bool agq,.bool agr,.bool ags,.int .i64 agt,.int .i64 agu,.int .i64 agv,.int .i64 agw] 44 (0,0)) hb;clear hb)|((with_reducible refine cZ 52 rfl ?_);refine iW 46 rfl Tryz.func52 (lD.calls k _ _ dF (⟨#[108,97,115,116,45,109,111,100,105,102,105,101,100]⟩:af) We false _ Ch jN.out A51.out (dV HT)) fun aCu hb HB=>?_;replace qA:=eF (g:=tY) hb;replace yn:=eF (g:=zJ) hb;clear hb)|((with_reducible refine cZ 52 rfl ?_);refine iW 46 rfl Tryz.func52 (lD.calls k _ _ dF (⟨#[108,97,115,116,45,109,111,100,105,102,105,101,100]⟩:af) We true _ Ch jN.out A51.out (dV HT)) fun aog hb HB=>?_;replace qA:=eF (g:=tY) hb;replace yn:=eF (g:=zJ) hb;clear hb;have _:=jQ qA)|(go_at_call 53;(with_reducible refine(pO.calls k bF false _ A53.out).mono ?_);rintro e aCv ⟨rfl,hb⟩;replace qA:=eF (g:=tY) hb;replace yn:=eF (g:=zJ) hb;replace HB:=fw hb;clear hb)|(go_at_call 53;(with_reducible refine(pO.calls k bF true _ A53.out).mono ?_);rintro e atG ⟨rfl,hb⟩;replace qA:=eF (g:=tY) hb;replace yn:=eF (g:=zJ) hb;replace HB:=fw hb;clear hb;have _:=jQ qA)|(go_at_call 43;(with_reducible refine(iT.calls k ak au az _ _ fo aD di bF ik gY _ _ dF dJ agl _ ?nG ?nH ?agy ?agz A55.out ?hT).mono ?_);(case hT=>exact dV HT);(case nG=>exact Qo);(case nH=>exact mO.out);(case agy=>exact Ch);(case agz=>exact jN.out);rintro e atH ⟨rfl,hb⟩;replace qA:=eF (g:=tY) hb;replace yn:=eF (g:=zJ) hb;replace HB:=fw hb;clear hb;have _:=jQ qA)|((with_reducible refine cZ 43 rfl ?_);refine iW 63 rfl Tryz.func43 (iT.calls k ak au az _ _ fo aD di bF ik gY _ _ dF dJ Sd _ Qo mO.out Ch jN.out A57.out (dV HT)) fun atI hb HB=>?_;replace qA:=eF (g:=tY) hb;replace yn:=eF (g:=zJ) hb;clear hb)|((with_reducible refine cZ 51 rfl ?_);refine iW 31 rfl Tryz.func51 (jM.calls k _ _ dF (⟨#[101,120,112,105,114,101,115]⟩:af) true _ (Kd.kV yA.out aX) jN.out A23.out) fun Cu hb HB=>?_;replace qA:=eF (g:=tY) hb;replace yn:=fC.Vi (g:=zJ) (o:=.cells #[.bool agm,.bool agn,.bool agp,.bool agq,.bool agr,.bool ags,.int .i64 agt,.int .i64 agu,.int .i64 agv,.int .i64 agw] 44 (0,0)) hb;clear hb)|((with_reducible refine cZ 52 rfl ?_);refine iW 34 rfl Tryz.func52 (lD.calls k _ _ dF (⟨#[101,120,112,105,114,101,115]⟩:af) Wh false _ Ch jN.out UD.out (dV HT)) fun K7 hb HB=>?_;replace qA:=eF (g:=tY) hb;replace yn:=eF (g:=zJ) hb;clear hb)|((with_reducible refine cZ 52 rfl ?_);refine iW 34 rfl Tryz.func52 (lD.calls k _ _ dF (⟨#[101,120,112,105,114,101,115]⟩:af) Wh true _ Ch jN.out UD.out (dV HT)) fun Kb hb HB=>?_;replace qA:=eF (g:=tY) hb;replace yn:=eF (g:=zJ) hb;clear hb;have _:=jQ qA)|((with_reducible refine cZ 43 rfl ?_);refine iW 41 rfl Tryz.func43 (iT.calls k ak au az _ _ fo aD di bF ik gY _ _ dF dJ Sc _ Qo mO.out Ch jN.out A27.out (dV HT)) fun ZF hb HB=>?_;replace qA:=eF (g:=tY) hb;replace yn:=eF (g:=zJ) hb;clear hb))
  go_ret
  first|exact⟨jv,aX⟩|exact⟨by first|rfl|(simp[dP,dQ] <;> rfl)|(simp only[<- FO];first|rfl|(simp[dP,dQ] <;> rfl))|(simp[*,dP,dQ] <;> rfl),aX⟩|exact⟨by first|rfl|(simp[dP,dQ] <;> rfl)|(simp only[<- Dj];first|rfl|(simp[dP,dQ] <;> rfl))|(simp[*,dP,dQ] <;> rfl),aX⟩):p:=h
theorem fC.calls (k:Nat) (ak:ByteArray) (au az:Int) (oH:Option Addr) (oI:Nat) (fo:List (lq)) (aD di:ByteArray) (bF:Int) (ik:ByteArray) (gY:Bool) (oJ:Option Addr) (oK:Nat) (dF:List (lq)) (dJ:ByteArray) (r:Int) (w:World) (pR:Kd.C wQ w oH fo.length fo) (pU:fo.length<=oI) (pV:Kd.C wQ w oJ dF.length dF) (pW:dF.length<=oK) (h:fC.f k ak au az fo aD di bF ik gY dF dJ=some r) (HT0:mX w) :
  Calls Tryz.prog 22 #[.agg #[.string ak,.int .i64 au,.int .i64 az,.slice oH fo.length oI,.string aD,.string di,.int .i64 bF,.string ik,.bool gY,.slice oJ dF.length oK,.string dJ]] w fun e w'=>e = .returned (.int .i64 r)/\Below w.heap.size w w':=by
 have HT:=aa.mk HT0;clear HT0;have VP:=Tryz.underlying33;have atJ:=Tryz.underlying44;have C8:=aa.mk pR;have mO:=aa.mk pU;clear pR pU;have yA:=aa.mk pV;have jN:=aa.mk pW;clear pV pW;have HB:=aa.mk (Below.refl w.heap.size w);have H:=h;clear h;unfold fC.f at H;replace H:=xE H;rcases H with⟨A2,H⟩|⟨A2,H⟩
 ·replace H:=gD H;obtain⟨⟨agm,agn,agp,agq,agr,ags,agt,agu,agv,agw⟩,A4,H⟩:=H;dsimp only at H;replace H:=gI H;rcases H with⟨-,jV,-,H⟩|⟨-,jV,-,H⟩
  ·exact fC.e0
  ·replace H:=gI H;rcases H with⟨-,wu,-,H⟩|⟨-,wu,-,H⟩
   ·exact fC.e0
   ·replace H:=xE H;rcases H with⟨A23,H⟩|⟨A23,H⟩
    ·replace H:=gD H;obtain⟨⟨Wh,aCw⟩,UD,H⟩:=H;dsimp only at H;replace H:=gB H;rcases H with⟨rfl,H⟩|⟨rfl,H⟩
     ·replace H:=gD H;obtain⟨Sc,A27,H⟩:=H;obtain⟨aqd,FO⟩:∃ j_:Int,(mx 0 (wrap64 (Wh-Sc)))=j_:=⟨_,rfl⟩;(first|rw[FO] at H|simp only[FO] at H ⊢)
      (try rw[FO] at A2)
      (try rw[FO] at A4)
      (try rw[FO] at A23)
      (try rw[FO] at UD)
      (try rw[FO] at A27)
      (try(have ayv:0<=aqd:=by(rw[<- FO];unfold mx;(repeat' split) <;> omega)))
      (try(have ayw:0<=aqd:=by omega))
      have ayx:(if 0<(wrap64 (Wh-Sc)) then(wrap64 (Wh-Sc)) else 0)=aqd:=FO;exact fC.e0
     ·exact fC.e0
    ·replace H:=gD H;obtain⟨⟨We,aCx⟩,A51,H⟩:=H;dsimp only at H;replace H:=gB H;rcases H with⟨rfl,H⟩|⟨rfl,H⟩
     ·replace H:=xE H;rcases H with⟨A53,H⟩|⟨A53,H⟩
      ·replace H:=gD H;obtain⟨agl,A55,H⟩:=H;replace H:=gI H;rcases H with⟨-,La,-,H⟩|⟨-,La,-,H⟩
       ·replace H:=gD H;obtain⟨Sd,A57,H⟩:=H;obtain⟨aqe,Dj⟩:∃ j_:Int,(mn 86400 (wrap64 (Int.tdiv (wrap64 (Sd-We)) 10)))=j_:=⟨_,rfl⟩;(first|rw[Dj] at H|simp only[Dj] at H ⊢)
        (try rw[Dj] at A2)
        (try rw[Dj] at A4)
        (try rw[Dj] at A23)
        (try rw[Dj] at A51)
        (try rw[Dj] at A53)
        (try rw[Dj] at A55)
        (try rw[Dj] at A57)
        (try(have ayy:aqe<=86400:=by(rw[<- Dj];unfold mn;(repeat' split) <;> omega)))
        (try(have ayz:aqe<=64:=by omega))
        have ayA:(if(wrap64 (Int.tdiv (wrap64 (Sd-We)) 10))<86400 then(wrap64 (Int.tdiv (wrap64 (Sd-We)) 10)) else 86400)=aqe:=Dj;exact fC.e0
       ·exact fC.e0
      ·exact fC.e0
     ·exact fC.e0
 ·exact fC.e0


end Go.Proofs.YtfhllanhldbkkaaGreatDoor.P
