import Derived.Test.YtfhllanhldbkkaaGreatDoorPximpl07f
set_option maxHeartbeats 8000000
set_option maxRecDepth 100000
namespace Go.Proofs.YtfhllanhldbkkaaGreatDoor.P
open Go.RowKit Go.Proofs.YtfhllanhldbkkaaGreatDoorW.aW Go.Proofs.YtfhllanhldbkkaaGreatDoorW.eQ Go.Proofs.YtfhllanhldbkkaaGreatDoorW.fO
attribute [local go_sem] kV kW mE mF jP jQ kX kY   -- for this text's walks alone
set_option linter.unusedVariables false
set_option linter.unusedSimpArgs false

structure iJ where
 b0:Bool
 b1:Bool
 b2:Bool
 b3:Bool
 b4:Bool
 b5:Bool
 n6:Int
 n7:Int
 n8:Int
 n9:Int
def iJ.cs (d:iJ):Array Value:=#[.bool d.b0,.bool d.b1,.bool d.b2,.bool d.b3,.bool d.b4,.bool d.b5,.int .i64 d.n6,.int .i64 d.n7,.int .i64 d.n8,.int .i64 d.n9]
theorem xy (B off:Nat) (v n:Int) (cs:Array Value) (w:World) (hbox:w.heap[B]? = some (.cells cs 44 (0,0))) (hc:cs[off]? = some (.int .i64 v)) :
  Calls Tryz.prog 84 #[.pointer (some ⟨B,off,none⟩),.int .i64 n] w fun e w'=>e = .returned (.tuple #[])/\w'=(if v<0 then w.setCell ⟨B,off,none⟩ (.int .i64 n) else w):=by
 have hcell:w.cell? ⟨B,off,none⟩=some (.int .i64 v):=by rw[cell_of_row w B off _ _ _ hbox];exact hc
 have hfz:w.frozen? ⟨B,off,none⟩=false:=ah hbox off
 clear hbox hc
 by_cases hv:v<0
 ·rw[if_pos hv]
  have c1:decide (v<0)=true:=aQ hv
  clear hv
  go_enter Tryz.func84,Tryz.ntmps84
  go_wp2
  first|go_end0|((try simp only[Exit.inBlock,Exit.then]);refine bodyPost_ret (results_none rfl _ _ _) rfl ?_)
  exact⟨rfl,rfl⟩
 ·rw[if_neg hv]
  have c1:decide (v<0)=false:=aT hv
  clear hv
  go_enter Tryz.func84,Tryz.ntmps84
  go_wp2
  first|go_end0|((try simp only[Exit.inBlock,Exit.then]);refine bodyPost_ret (results_none rfl _ _ _) rfl ?_)
  exact⟨rfl,rfl⟩
def iJ.Nh (d:iJ):Bool×Bool×Bool×Bool×Bool×Bool×Int×Int×Int×Int:=(d.b0,d.b1,d.b2,d.b3,d.b4,d.b5,d.n6,d.n7,d.n8,d.n9)
def Bv : iJ:=⟨false,false,false,false,false,false,-1,-1,-1,-1⟩
def tu (v n:Int):Int:=if v<0 then n else v
def keyed (k:Nat) (d:iJ) (n v:ByteArray):Option iJ:=
 if n.toList=([110,111,45,115,116,111,114,101]:aM) then some { d with b0:=true }
 else if n.toList=([110,111,45,99,97,99,104,101]:aM) then some { d with b1:=true }
 else if n.toList=([112,114,105,118,97,116,101]:aM) then some { d with b2:=true }
 else if n.toList=([112,117,98,108,105,99]:aM) then some { d with b3:=true }
 else if n.toList=([111,110,108,121,45,105,102,45,99,97,99,104,101,100]:aM) then some { d with b5:=true }
 else if n.toList=([109,117,115,116,45,114,101,118,97,108,105,100,97,116,101]:aM) then some { d with b4:=true }
 else if n.toList=([112,114,111,120,121,45,114,101,118,97,108,105,100,97,116,101]:aM) then some { d with b4:=true }
 else if n.toList=([109,97,120,45,97,103,101]:aM) then(iI.f k v 0).bind fun m=>some { d with n6:=tu d.n6 m }
 else if n.toList=([115,45,109,97,120,97,103,101]:aM) then(iI.f k v 0).bind fun m=>some { d with n7:=tu d.n7 m }
 else if n.toList=([109,97,120,45,115,116,97,108,101]:aM) then(if v.toList=([]:aM) then some { d with n8:=tu d.n8 2147483648 } else(iI.f k v 0).bind fun m=>some { d with n8:=tu d.n8 m })
 else if n.toList=([109,105,110,45,102,114,101,115,104]:aM) then(iI.f k v 2147483648).bind fun m=>some { d with n9:=tu d.n9 m }
 else some d
def MZ (k:Nat) (d:iJ) (x:ByteArray):Option iJ:=(strings_Cut.f x (⟨#[61]⟩:af)).bind fun c=>(dK.f k c.2.1).bind fun v0=>(dx.f k v0).bind fun u=>(dK.f k c.1).bind fun n0=>(jw.f n0).bind fun n=>keyed k d n (if u.2=true then u.1 else v0)
def LC : Nat->List ByteArray->iJ->Int->Option iJ
 |0,_,_,_=>none
 |k+1,ws,d,i=>if i<(ws.length:Int) then(if 0<=i then(MZ k d (ed ByteArray.empty ws i)).bind fun d'=>LC k ws d' (wrap64 (i+1)) else none) else some d
def LD : Nat->List ByteArray->iJ->Int->Option iJ
 |0,_,_,_=>none
 |k+1,ws,d,i=>if i<(ws.length:Int) then(if 0<=i then(jw.f (ed ByteArray.empty ws i)).bind fun t=>LD k ws (if t.toList=([110,111,45,99,97,99,104,101]:aM) then { d with b1:=true } else d) (wrap64 (i+1)) else none) else some d
def lV.f (k:Nat) (l0:List j6):Option (Bool×Bool×Bool×Bool×Bool×Bool×Int×Int×Int×Int):=
 (mU.f k l0 (⟨#[99,97,99,104,101,45,99,111,110,116,114,111,108]⟩:af)).bind fun ws=>(LC k ws Bv 0).bind fun d=>(fB.f k l0).bind fun ok=>if ok=true then(kR.f k l0 (⟨#[99,97,99,104,101,45,99,111,110,116,114,111,108]⟩:af)).bind fun has=>(if has=true then some d.Nh else(mU.f k l0 (⟨#[112,114,97,103,109,97]⟩:af)).bind fun ps=>(LD k ps d 0).bind fun d=>some d.Nh) else some d.Nh
def ajt : Array Value:=#[.bool false,.bool false,.bool false,.bool false,.bool false,.bool false,.int .i64 0,.int .i64 0,.int .i64 0,.int .i64 0]
structure CS (w:World) (A:Option Addr) (c:Nat) (ws:List ByteArray) (d:iJ) (w':World):Prop where
 res:w'.heap[w.heap.size]? = some (.cells ajt 44 (0,0))
 box:w'.heap[w.heap.size+1]? = some (.cells d.cs 44 (0,0))
 rows:Kd.R Kd.string 9 w' (w.heap.size+2) (fun k_=>w.heap.size+2<=k_) (.slice A ws.length c) ws
 bel:Below w.heap.size w w'
theorem CS.below {w:World} {A:Option Addr} {c:Nat} {ws:List ByteArray} {d:iJ} {w1 w2:World} (h:CS w A c ws d w1) (hb:Below w1.heap.size w1 w2):CS w A c ws d w2:=
 ⟨pU h.res hb,pU h.box hb,Kd.bz h.rows hb,Cs h.bel hb⟩
theorem CS.drewN {w:World} {A:Option Addr} {c:Nat} {ws:List ByteArray} {d:iJ} {w1:World} (h:CS w A c ws d w1) (n:Nat):CS w A c ws d (w1.drewN n):=h.below (jX (Below.refl _ _) n)
theorem CS.set {w:World} {A:Option Addr} {c:Nat} {ws:List ByteArray} {d:iJ} {w1:World} (h:CS w A c ws d w1) (off:Nat) (u:Value) (d':iJ) (hd:d.cs.setIfInBounds off u=d'.cs):CS w A c ws d' (w1.setCell ⟨w.heap.size+1,off,none⟩ u):=
 ⟨(Below.heap_setCell w1 ⟨w.heap.size+1,off,none⟩ u w.heap.size (by simp)).trans h.res,by rw[<- hd];exact Ta h.box off u,Kd.agZ (p:=⟨w.heap.size+1,off,none⟩) h.rows (fun k_ hk_=>by simp;omega) u,h.bel.setCell (by simp) u⟩
theorem CS.cell {w:World} {A:Option Addr} {c:Nat} {ws:List ByteArray} {d:iJ} {w1:World} (h:CS w A c ws d w1) (off:Nat):w1.cell? ⟨w.heap.size+1,off,none⟩=d.cs[off]?:=by
 rw[cell_of_row w1 (w.heap.size+1) off _ _ _ h.box]
theorem CS.free {w:World} {A:Option Addr} {c:Nat} {ws:List ByteArray} {d:iJ} {w1:World} (h:CS w A c ws d w1) (off:Nat):w1.frozen? ⟨w.heap.size+1,off,none⟩=false:=ah h.box off
theorem ZE {w:World} {g:Nat} {d:iJ} (h:w.heap[g]? = some (.cells ajt 44 (0,0))):(((((((((((w).setCell ⟨g,0,none⟩ (.bool d.b0)).setCell ⟨g,1,none⟩ (.bool d.b1)).setCell ⟨g,2,none⟩ (.bool d.b2)).setCell ⟨g,3,none⟩ (.bool d.b3)).setCell ⟨g,4,none⟩ (.bool d.b4)).setCell ⟨g,5,none⟩ (.bool d.b5)).setCell ⟨g,6,none⟩ (.int .i64 d.n6)).setCell ⟨g,7,none⟩ (.int .i64 d.n7)).setCell ⟨g,8,none⟩ (.int .i64 d.n8)).setCell ⟨g,9,none⟩ (.int .i64 d.n9)).heap[g]? = some (.cells d.cs 44 (0,0)):=
 by
 have h:=oK h 0 (.bool d.b0) (cs':=#[.bool d.b0,.bool false,.bool false,.bool false,.bool false,.bool false,.int .i64 0,.int .i64 0,.int .i64 0,.int .i64 0]) rfl
 have h:=oK h 1 (.bool d.b1) (cs':=#[.bool d.b0,.bool d.b1,.bool false,.bool false,.bool false,.bool false,.int .i64 0,.int .i64 0,.int .i64 0,.int .i64 0]) rfl
 have h:=oK h 2 (.bool d.b2) (cs':=#[.bool d.b0,.bool d.b1,.bool d.b2,.bool false,.bool false,.bool false,.int .i64 0,.int .i64 0,.int .i64 0,.int .i64 0]) rfl
 have h:=oK h 3 (.bool d.b3) (cs':=#[.bool d.b0,.bool d.b1,.bool d.b2,.bool d.b3,.bool false,.bool false,.int .i64 0,.int .i64 0,.int .i64 0,.int .i64 0]) rfl
 have h:=oK h 4 (.bool d.b4) (cs':=#[.bool d.b0,.bool d.b1,.bool d.b2,.bool d.b3,.bool d.b4,.bool false,.int .i64 0,.int .i64 0,.int .i64 0,.int .i64 0]) rfl
 have h:=oK h 5 (.bool d.b5) (cs':=#[.bool d.b0,.bool d.b1,.bool d.b2,.bool d.b3,.bool d.b4,.bool d.b5,.int .i64 0,.int .i64 0,.int .i64 0,.int .i64 0]) rfl
 have h:=oK h 6 (.int .i64 d.n6) (cs':=#[.bool d.b0,.bool d.b1,.bool d.b2,.bool d.b3,.bool d.b4,.bool d.b5,.int .i64 d.n6,.int .i64 0,.int .i64 0,.int .i64 0]) rfl
 have h:=oK h 7 (.int .i64 d.n7) (cs':=#[.bool d.b0,.bool d.b1,.bool d.b2,.bool d.b3,.bool d.b4,.bool d.b5,.int .i64 d.n6,.int .i64 d.n7,.int .i64 0,.int .i64 0]) rfl
 have h:=oK h 8 (.int .i64 d.n8) (cs':=#[.bool d.b0,.bool d.b1,.bool d.b2,.bool d.b3,.bool d.b4,.bool d.b5,.int .i64 d.n6,.int .i64 d.n7,.int .i64 d.n8,.int .i64 0]) rfl
 have h:=oK h 9 (.int .i64 d.n9) (cs':=#[.bool d.b0,.bool d.b1,.bool d.b2,.bool d.b3,.bool d.b4,.bool d.b5,.int .i64 d.n6,.int .i64 d.n7,.int .i64 d.n8,.int .i64 d.n9]) rfl
 exact h
theorem Rp {w W:World} {d:iJ} (h:Below w.heap.size w W):Below w.heap.size w (((((((((((W).setCell ⟨w.heap.size,0,none⟩ (.bool d.b0)).setCell ⟨w.heap.size,1,none⟩ (.bool d.b1)).setCell ⟨w.heap.size,2,none⟩ (.bool d.b2)).setCell ⟨w.heap.size,3,none⟩ (.bool d.b3)).setCell ⟨w.heap.size,4,none⟩ (.bool d.b4)).setCell ⟨w.heap.size,5,none⟩ (.bool d.b5)).setCell ⟨w.heap.size,6,none⟩ (.int .i64 d.n6)).setCell ⟨w.heap.size,7,none⟩ (.int .i64 d.n7)).setCell ⟨w.heap.size,8,none⟩ (.int .i64 d.n8)).setCell ⟨w.heap.size,9,none⟩ (.int .i64 d.n9)):=
 (kH (kH (kH (kH (kH (kH (kH (kH (kH (kH h (Nat.le_refl _)) (Nat.le_refl _)) (Nat.le_refl _)) (Nat.le_refl _)) (Nat.le_refl _)) (Nat.le_refl _)) (Nat.le_refl _)) (Nat.le_refl _)) (Nat.le_refl _)) (Nat.le_refl _))
theorem lV.calls (k:Nat) (A0:Option Addr) (c0:Nat) (l0:List j6) (r1 r2 r3 r4 r5 r6:Bool) (r7 r8 r9 Y2:Int) (w:World) (hr0:Kd.C tZ w A0 l0.length l0) (hc0:l0.length<=c0) (h:lV.f k l0=some (r1,r2,r3,r4,r5,r6,r7,r8,r9,Y2)) (HT0:nN w) :
  Calls Tryz.prog 50 #[.slice A0 l0.length c0] w fun e w'=>e = .returned (.agg #[.bool r1,.bool r2,.bool r3,.bool r4,.bool r5,.bool r6,.int .i64 r7,.int .i64 r8,.int .i64 r9,.int .i64 Y2])/\Below w.heap.size w w':=by
 have HT:=ae.mk HT0;clear HT0;have aJh:=Tryz.underlying44;have GL:=ae.mk hr0;have GG:=ae.mk hc0;clear hr0 hc0;obtain⟨ws,A10,H⟩:=Option.bind_eq_some_iff.mp h;have A1:=ae.mk A10;obtain⟨d1,L10,H1⟩:=Option.bind_eq_some_iff.mp H;have L1:=ae.mk L10;have H':=ae.mk H1;clear h A10 L10 H H1;go_enter Tryz.func50,Tryz.ntmps50;go_wp2_with fail;generalize hW2:World.alloc (World.alloc w _) _=w2;have i1:w2.heap[w.heap.size]? = some (.cells ajt 44 (0,0)):=by subst hW2;exact pU (Jw w _) (gL (Below.refl _ _) _)
 have i2:w2.heap[w.heap.size+1]? = some (.cells Bv.cs 44 (0,0)):=by
  subst hW2;have z_:=Jw (w.alloc (Obj.cells ajt 44)) (Obj.cells Bv.cs 44);rw[show(w.alloc (Obj.cells ajt 44)).heap.size=w.heap.size+1 by simp] at z_;exact z_
 have i3:Below w.heap.size w w2:=by subst hW2;exact gL (gL (Below.refl _ _) _) _
 have i4:w2.heap.size=w.heap.size+2:=by subst hW2;simp
 clear hW2;refine(mU.calls k _ _ l0 _ ws _ (Kd.ng GL.out i3) GG.out A1.out).mono ?_;rintro e w3 ⟨v16,rfl,alY,hb⟩;dsimp only;obtain⟨A16,c16,rfl⟩:=dE alY;have I:=ae.mk (CS.mk (d:=Bv) (pU i1 hb) (pU i2 hb) (Kd.iR (Kd.aet rfl (i4▸alY)) (fun k_ hk_=>Kd.nH (i4▸alY) k_ hk_.symm)) (Cs i3 hb));clear i1 i2 i3 i4 alY hb;go_wp2;go_loopg [18] k (fun kq v18 w'=>∃(x18:Int) (d:iJ),v18 = .int .i64 x18/\ae (LC kq ws d x18=some d1)/\ae (kq<=k)/\ae (CS w A16 c16 ws d w'))
 case atStart=>exact⟨0,Bv,rfl,L1,⟨Nat.le_refl _⟩,I⟩
 case round=>
  clear L1 I;obtain⟨x18,d,rfl,HA,mh,I⟩:=hrel;cases gk with
  |zero=>exact absurd HA.out (by simp[LC])
  |succ k1=>
   have H:=HA.out;clear HA;simp only[LC] at H;by_cases c6:x18<(ws.length:Int)
   ·rw[if_pos c6] at H;have xV:decide (x18<(ws.length:Int))=true:=aQ c6;by_cases c7:0<=x18
    case neg=>rw[if_neg c7] at H;cases H
    rw[if_pos c7] at H;obtain⟨d2,W0,H⟩:=Option.bind_eq_some_iff.mp H;unfold MZ at W0;obtain⟨⟨q1,q2,q3⟩,C1,W0⟩:=Option.bind_eq_some_iff.mp W0;obtain⟨v0,C2,W0⟩:=Option.bind_eq_some_iff.mp W0;obtain⟨⟨u1,u2⟩,C3,W0⟩:=Option.bind_eq_some_iff.mp W0;obtain⟨n0,C4,W0⟩:=Option.bind_eq_some_iff.mp W0;obtain⟨nm,C5,W0⟩:=Option.bind_eq_some_iff.mp W0;have A1:=ae.mk C1;have A2:=ae.mk C2;have A3:=ae.mk C3;have A4:=ae.mk C4;have A5:=ae.mk C5;have A6:=ae.mk W0;have H2:=ae.mk H;clear C1 C2 C3 C4 C5 W0 H;have Am:decide (0<=x18)=true:=aQ c7;obtain⟨Mk,atu,aju⟩:=Kd.iM (Kd.aJ I.out.rows).2.2 x18 c7 c6;cases atu
    have aCV:=eq_true c7;have aCW:=eq_true c6;clear c6 c7;go_wp2_with fail;refine(strings_Cut.calls _ _ q1 q2 q3 _ A1.out ?hT).mono ?_
    case hT=>exact kG HT (by first|exact I.out.bel|exact J.out.bel|exact HB.out)
    rintro e w5 ⟨rfl,⟨nd,rfl⟩⟩;dsimp only;have J:=ae.mk (I.out.drewN nd);clear I A1 aju;generalize World.drewN _ nd=w5 at J ⊢;go_wp2_with fail;refine(dK.calls k1 q2 v0 _ A2.out).mono ?_;rintro e w6 ⟨rfl,⟨nd,rfl⟩⟩;dsimp only;have I:=ae.mk (J.out.drewN nd);clear J A2;generalize World.drewN _ nd=w6 at I ⊢;go_wp2_with fail;refine(dx.calls k1 v0 u1 u2 _ A3.out).mono ?_;rintro e w7 ⟨rfl,hb⟩;dsimp only;have J:=ae.mk (I.out.below hb);clear I A3 hb;obtain⟨va,hva⟩:∃ va:ByteArray,(if u2=true then u1 else v0)=va:=⟨_,rfl⟩;rw[hva] at A6;cases u2 with
    |true=>
     obtain rfl:u1=va:=hva

     go_wp2_with fail;refine(dK.calls k1 q1 n0 _ A4.out).mono ?_;rintro e w8 ⟨rfl,⟨nd,rfl⟩⟩;dsimp only;have I:=ae.mk (J.out.drewN nd);clear J A4;generalize World.drewN _ nd=w8 at I ⊢;go_wp2_with fail;refine(jw.calls n0 nm _ A5.out).mono ?_;rintro e w9 ⟨rfl,hb⟩;dsimp only;have J:=ae.mk (I.out.below hb);clear I A5 hb;have W0:=A6.out;unfold keyed at W0;clear A6;by_cases k0:nm.toList=([110,111,45,115,116,111,114,101]:aM)
     ·rw[if_pos k0] at W0;have kb0:(nm.toList==([110,111,45,115,116,111,114,101]:aM))=true:=beq_iff_eq.mpr k0;clear k0;obtain rfl:=gK W0;clear W0;have hcell:=J.out.cell 0;have hfz:=J.out.free 0;have hcell:w9.cell? ⟨w.heap.size+1,0,none⟩=some (.bool d.b0):=hcell;go_wp2;go_roundg k1
      case measure=>have:=mh.out;omega
      case rel=>exact⟨_,_,rfl,H2,⟨by have:=mh.out;omega⟩,⟨J.out.set 0 _ _ rfl⟩⟩
     ·rw[if_neg k0] at W0;have kb0:(nm.toList==([110,111,45,115,116,111,114,101]:aM))=false:=beq_eq_false_iff_ne.mpr k0;clear k0;by_cases k1:nm.toList=([110,111,45,99,97,99,104,101]:aM)
      ·rw[if_pos k1] at W0;have kb1:(nm.toList==([110,111,45,99,97,99,104,101]:aM))=true:=beq_iff_eq.mpr k1;clear k1;obtain rfl:=gK W0;clear W0;have hcell:=J.out.cell 1;have hfz:=J.out.free 1;have hcell:w9.cell? ⟨w.heap.size+1,1,none⟩=some (.bool d.b1):=hcell;go_wp2;go_roundg k1
       case measure=>have:=mh.out;omega
       case rel=>exact⟨_,_,rfl,H2,⟨by have:=mh.out;omega⟩,⟨J.out.set 1 _ _ rfl⟩⟩
      ·rw[if_neg k1] at W0;have kb1:(nm.toList==([110,111,45,99,97,99,104,101]:aM))=false:=beq_eq_false_iff_ne.mpr k1;clear k1;by_cases k2:nm.toList=([112,114,105,118,97,116,101]:aM)
       ·rw[if_pos k2] at W0;have kb2:(nm.toList==([112,114,105,118,97,116,101]:aM))=true:=beq_iff_eq.mpr k2;clear k2;obtain rfl:=gK W0;clear W0;have hcell:=J.out.cell 2;have hfz:=J.out.free 2;have hcell:w9.cell? ⟨w.heap.size+1,2,none⟩=some (.bool d.b2):=hcell;go_wp2;go_roundg k1
        case measure=>have:=mh.out;omega
        case rel=>exact⟨_,_,rfl,H2,⟨by have:=mh.out;omega⟩,⟨J.out.set 2 _ _ rfl⟩⟩
       ·rw[if_neg k2] at W0;have kb2:(nm.toList==([112,114,105,118,97,116,101]:aM))=false:=beq_eq_false_iff_ne.mpr k2;clear k2;by_cases k3:nm.toList=([112,117,98,108,105,99]:aM)
        ·rw[if_pos k3] at W0;have kb3:(nm.toList==([112,117,98,108,105,99]:aM))=true:=beq_iff_eq.mpr k3;clear k3;obtain rfl:=gK W0;clear W0;have hcell:=J.out.cell 3;have hfz:=J.out.free 3;have hcell:w9.cell? ⟨w.heap.size+1,3,none⟩=some (.bool d.b3):=hcell;go_wp2;go_roundg k1
         case measure=>have:=mh.out;omega
         case rel=>exact⟨_,_,rfl,H2,⟨by have:=mh.out;omega⟩,⟨J.out.set 3 _ _ rfl⟩⟩
        ·rw[if_neg k3] at W0;have kb3:(nm.toList==([112,117,98,108,105,99]:aM))=false:=beq_eq_false_iff_ne.mpr k3;clear k3;by_cases k4:nm.toList=([111,110,108,121,45,105,102,45,99,97,99,104,101,100]:aM)
         ·rw[if_pos k4] at W0;have kb4:(nm.toList==([111,110,108,121,45,105,102,45,99,97,99,104,101,100]:aM))=true:=beq_iff_eq.mpr k4;clear k4;obtain rfl:=gK W0;clear W0;have hcell:=J.out.cell 5;have hfz:=J.out.free 5;have hcell:w9.cell? ⟨w.heap.size+1,5,none⟩=some (.bool d.b5):=hcell;go_wp2;go_roundg k1
          case measure=>have:=mh.out;omega
          case rel=>exact⟨_,_,rfl,H2,⟨by have:=mh.out;omega⟩,⟨J.out.set 5 _ _ rfl⟩⟩
         ·rw[if_neg k4] at W0;have kb4:(nm.toList==([111,110,108,121,45,105,102,45,99,97,99,104,101,100]:aM))=false:=beq_eq_false_iff_ne.mpr k4;clear k4;by_cases k5:nm.toList=([109,117,115,116,45,114,101,118,97,108,105,100,97,116,101]:aM)
          ·rw[if_pos k5] at W0;have kb5:(nm.toList==([109,117,115,116,45,114,101,118,97,108,105,100,97,116,101]:aM))=true:=beq_iff_eq.mpr k5;clear k5;obtain rfl:=gK W0;clear W0;have hcell:=J.out.cell 4;have hfz:=J.out.free 4;have hcell:w9.cell? ⟨w.heap.size+1,4,none⟩=some (.bool d.b4):=hcell;go_wp2;go_roundg k1
           case measure=>have:=mh.out;omega
           case rel=>exact⟨_,_,rfl,H2,⟨by have:=mh.out;omega⟩,⟨J.out.set 4 _ _ rfl⟩⟩
          ·rw[if_neg k5] at W0;have kb5:(nm.toList==([109,117,115,116,45,114,101,118,97,108,105,100,97,116,101]:aM))=false:=beq_eq_false_iff_ne.mpr k5;clear k5;by_cases k6:nm.toList=([112,114,111,120,121,45,114,101,118,97,108,105,100,97,116,101]:aM)
           ·rw[if_pos k6] at W0;have kb6:(nm.toList==([112,114,111,120,121,45,114,101,118,97,108,105,100,97,116,101]:aM))=true:=beq_iff_eq.mpr k6;clear k6;obtain rfl:=gK W0;clear W0;have hcell:=J.out.cell 4;have hfz:=J.out.free 4;have hcell:w9.cell? ⟨w.heap.size+1,4,none⟩=some (.bool d.b4):=hcell;go_wp2;go_roundg k1
            case measure=>have:=mh.out;omega
            case rel=>exact⟨_,_,rfl,H2,⟨by have:=mh.out;omega⟩,⟨J.out.set 4 _ _ rfl⟩⟩
           ·rw[if_neg k6] at W0;have kb6:(nm.toList==([112,114,111,120,121,45,114,101,118,97,108,105,100,97,116,101]:aM))=false:=beq_eq_false_iff_ne.mpr k6;clear k6;by_cases k7:nm.toList=([109,97,120,45,97,103,101]:aM)
            ·rw[if_pos k7] at W0;have kb7:(nm.toList==([109,97,120,45,97,103,101]:aM))=true:=beq_iff_eq.mpr k7;clear k7;obtain⟨m,W1,W0⟩:=Option.bind_eq_some_iff.mp W0;have A7:=ae.mk W1;obtain rfl:=gK W0;clear W0 W1;go_wp2_with fail;refine(iI.calls k1 u1 0 m _ A7.out).mono ?_;rintro e w10 ⟨rfl,hb⟩;dsimp only;have I:=ae.mk (J.out.below hb);clear J A7 hb;have hcell:=I.out.cell 6;go_wp2_with fail;refine(xy (w.heap.size+1) 6 d.n6 m d.cs _ I.out.box rfl).mono ?_;rintro e Oh ⟨rfl,BM⟩;dsimp only;have Kr:CS w (some Mk) c16 ws { d with n6:=tu d.n6 m } Oh:=by
              rw[BM];unfold tu;split
              ·exact I.out.set 6 _ _ rfl
              ·exact I.out
             have Kr:=ae.mk Kr;clear I BM hcell;go_wp2;go_roundg k1
             case measure=>have:=mh.out;omega
             case rel=>exact⟨_,_,rfl,H2,⟨by have:=mh.out;omega⟩,Kr⟩
            ·rw[if_neg k7] at W0;have kb7:(nm.toList==([109,97,120,45,97,103,101]:aM))=false:=beq_eq_false_iff_ne.mpr k7;clear k7;by_cases k8:nm.toList=([115,45,109,97,120,97,103,101]:aM)
             ·rw[if_pos k8] at W0;have kb8:(nm.toList==([115,45,109,97,120,97,103,101]:aM))=true:=beq_iff_eq.mpr k8;clear k8;obtain⟨m,W1,W0⟩:=Option.bind_eq_some_iff.mp W0;have A7:=ae.mk W1;obtain rfl:=gK W0;clear W0 W1;go_wp2_with fail;refine(iI.calls k1 u1 0 m _ A7.out).mono ?_;rintro e w10 ⟨rfl,hb⟩;dsimp only;have I:=ae.mk (J.out.below hb);clear J A7 hb;have hcell:=I.out.cell 7;go_wp2_with fail;refine(xy (w.heap.size+1) 7 d.n7 m d.cs _ I.out.box rfl).mono ?_;rintro e Oh ⟨rfl,BM⟩;dsimp only;have Kr:CS w (some Mk) c16 ws { d with n7:=tu d.n7 m } Oh:=by
               rw[BM];unfold tu;split
               ·exact I.out.set 7 _ _ rfl
               ·exact I.out
              have Kr:=ae.mk Kr;clear I BM hcell;go_wp2;go_roundg k1
              case measure=>have:=mh.out;omega
              case rel=>exact⟨_,_,rfl,H2,⟨by have:=mh.out;omega⟩,Kr⟩
             ·rw[if_neg k8] at W0;have kb8:(nm.toList==([115,45,109,97,120,97,103,101]:aM))=false:=beq_eq_false_iff_ne.mpr k8;clear k8;by_cases k9:nm.toList=([109,97,120,45,115,116,97,108,101]:aM)
              ·rw[if_pos k9] at W0;have kb9:(nm.toList==([109,97,120,45,115,116,97,108,101]:aM))=true:=beq_iff_eq.mpr k9;clear k9;by_cases cv:u1.toList=([]:aM)
               ·rw[if_pos cv] at W0;have cvb:(u1.toList==([]:aM))=true:=beq_iff_eq.mpr cv;obtain rfl:=gK W0;clear W0 cv;have hcell:=J.out.cell 8;go_wp2_with fail;refine(xy (w.heap.size+1) 8 d.n8 2147483648 d.cs _ J.out.box rfl).mono ?_;rintro e Oh ⟨rfl,BM⟩;dsimp only;have Kr:CS w (some Mk) c16 ws { d with n8:=tu d.n8 2147483648 } Oh:=by
                 rw[BM];unfold tu;split
                 ·exact J.out.set 8 _ _ rfl
                 ·exact J.out
                have Kr:=ae.mk Kr;clear J BM hcell;go_wp2;go_roundg k1
                case measure=>have:=mh.out;omega
                case rel=>exact⟨_,_,rfl,H2,⟨by have:=mh.out;omega⟩,Kr⟩
               ·rw[if_neg cv] at W0;have cvb:(u1.toList==([]:aM))=false:=beq_eq_false_iff_ne.mpr cv;clear cv;obtain⟨m,W1,W0⟩:=Option.bind_eq_some_iff.mp W0;have A7:=ae.mk W1;obtain rfl:=gK W0;clear W0 W1;go_wp2_with fail;refine(iI.calls k1 u1 0 m _ A7.out).mono ?_;rintro e w10 ⟨rfl,hb⟩;dsimp only;have I:=ae.mk (J.out.below hb);clear J A7 hb;have hcell:=I.out.cell 8;go_wp2_with fail;refine(xy (w.heap.size+1) 8 d.n8 m d.cs _ I.out.box rfl).mono ?_;rintro e Oh ⟨rfl,BM⟩;dsimp only;have Kr:CS w (some Mk) c16 ws { d with n8:=tu d.n8 m } Oh:=by
                 rw[BM];unfold tu;split
                 ·exact I.out.set 8 _ _ rfl
                 ·exact I.out
                have Kr:=ae.mk Kr;clear I BM hcell;go_wp2;go_roundg k1
                case measure=>have:=mh.out;omega
                case rel=>exact⟨_,_,rfl,H2,⟨by have:=mh.out;omega⟩,Kr⟩
              ·rw[if_neg k9] at W0;have kb9:(nm.toList==([109,97,120,45,115,116,97,108,101]:aM))=false:=beq_eq_false_iff_ne.mpr k9;clear k9;by_cases k10:nm.toList=([109,105,110,45,102,114,101,115,104]:aM)
               ·rw[if_pos k10] at W0;have atv:(nm.toList==([109,105,110,45,102,114,101,115,104]:aM))=true:=beq_iff_eq.mpr k10;clear k10;obtain⟨m,W1,W0⟩:=Option.bind_eq_some_iff.mp W0;have A7:=ae.mk W1;obtain rfl:=gK W0;clear W0 W1;go_wp2_with fail;refine(iI.calls k1 u1 2147483648 m _ A7.out).mono ?_;rintro e w10 ⟨rfl,hb⟩;dsimp only;have I:=ae.mk (J.out.below hb);clear J A7 hb;have hcell:=I.out.cell 9;go_wp2_with fail;refine(xy (w.heap.size+1) 9 d.n9 m d.cs _ I.out.box rfl).mono ?_;rintro e Oh ⟨rfl,BM⟩;dsimp only;have Kr:CS w (some Mk) c16 ws { d with n9:=tu d.n9 m } Oh:=by
                 rw[BM];unfold tu;split
                 ·exact I.out.set 9 _ _ rfl
                 ·exact I.out
                have Kr:=ae.mk Kr;clear I BM hcell;go_wp2;go_roundg k1
                case measure=>have:=mh.out;omega
                case rel=>exact⟨_,_,rfl,H2,⟨by have:=mh.out;omega⟩,Kr⟩
               ·rw[if_neg k10] at W0;have atv:(nm.toList==([109,105,110,45,102,114,101,115,104]:aM))=false:=beq_eq_false_iff_ne.mpr k10;clear k10;obtain rfl:=gK W0;clear W0;go_wp2;go_roundg k1
                case measure=>have:=mh.out;omega
                case rel=>exact⟨_,_,rfl,H2,⟨by have:=mh.out;omega⟩,J⟩
    |false=>
     obtain rfl:v0=va:=hva

     go_wp2_with fail;refine(dK.calls k1 q1 n0 _ A4.out).mono ?_;rintro e w8 ⟨rfl,⟨nd,rfl⟩⟩;dsimp only;have I:=ae.mk (J.out.drewN nd);clear J A4;generalize World.drewN _ nd=w8 at I ⊢;go_wp2_with fail;refine(jw.calls n0 nm _ A5.out).mono ?_;rintro e w9 ⟨rfl,hb⟩;dsimp only;have J:=ae.mk (I.out.below hb);clear I A5 hb;have W0:=A6.out;unfold keyed at W0;clear A6;by_cases k0:nm.toList=([110,111,45,115,116,111,114,101]:aM)
     ·rw[if_pos k0] at W0;have kb0:(nm.toList==([110,111,45,115,116,111,114,101]:aM))=true:=beq_iff_eq.mpr k0;clear k0;obtain rfl:=gK W0;clear W0;have hcell:=J.out.cell 0;have hfz:=J.out.free 0;have hcell:w9.cell? ⟨w.heap.size+1,0,none⟩=some (.bool d.b0):=hcell;go_wp2;go_roundg k1
      case measure=>have:=mh.out;omega
      case rel=>exact⟨_,_,rfl,H2,⟨by have:=mh.out;omega⟩,⟨J.out.set 0 _ _ rfl⟩⟩
     ·rw[if_neg k0] at W0;have kb0:(nm.toList==([110,111,45,115,116,111,114,101]:aM))=false:=beq_eq_false_iff_ne.mpr k0;clear k0;by_cases k1:nm.toList=([110,111,45,99,97,99,104,101]:aM)
      ·rw[if_pos k1] at W0;have kb1:(nm.toList==([110,111,45,99,97,99,104,101]:aM))=true:=beq_iff_eq.mpr k1;clear k1;obtain rfl:=gK W0;clear W0;have hcell:=J.out.cell 1;have hfz:=J.out.free 1;have hcell:w9.cell? ⟨w.heap.size+1,1,none⟩=some (.bool d.b1):=hcell;go_wp2;go_roundg k1
       case measure=>have:=mh.out;omega
       case rel=>exact⟨_,_,rfl,H2,⟨by have:=mh.out;omega⟩,⟨J.out.set 1 _ _ rfl⟩⟩
      ·rw[if_neg k1] at W0;have kb1:(nm.toList==([110,111,45,99,97,99,104,101]:aM))=false:=beq_eq_false_iff_ne.mpr k1;clear k1;by_cases k2:nm.toList=([112,114,105,118,97,116,101]:aM)
       ·rw[if_pos k2] at W0;have kb2:(nm.toList==([112,114,105,118,97,116,101]:aM))=true:=beq_iff_eq.mpr k2;clear k2;obtain rfl:=gK W0;clear W0;have hcell:=J.out.cell 2;have hfz:=J.out.free 2;have hcell:w9.cell? ⟨w.heap.size+1,2,none⟩=some (.bool d.b2):=hcell;go_wp2;go_roundg k1
        case measure=>have:=mh.out;omega
        case rel=>exact⟨_,_,rfl,H2,⟨by have:=mh.out;omega⟩,⟨J.out.set 2 _ _ rfl⟩⟩
       ·rw[if_neg k2] at W0;have kb2:(nm.toList==([112,114,105,118,97,116,101]:aM))=false:=beq_eq_false_iff_ne.mpr k2;clear k2;by_cases k3:nm.toList=([112,117,98,108,105,99]:aM)
        ·rw[if_pos k3] at W0;have kb3:(nm.toList==([112,117,98,108,105,99]:aM))=true:=beq_iff_eq.mpr k3;clear k3;obtain rfl:=gK W0;clear W0;have hcell:=J.out.cell 3;have hfz:=J.out.free 3;have hcell:w9.cell? ⟨w.heap.size+1,3,none⟩=some (.bool d.b3):=hcell;go_wp2;go_roundg k1
         case measure=>have:=mh.out;omega
         case rel=>exact⟨_,_,rfl,H2,⟨by have:=mh.out;omega⟩,⟨J.out.set 3 _ _ rfl⟩⟩
        ·rw[if_neg k3] at W0;have kb3:(nm.toList==([112,117,98,108,105,99]:aM))=false:=beq_eq_false_iff_ne.mpr k3;clear k3;by_cases k4:nm.toList=([111,110,108,121,45,105,102,45,99,97,99,104,101,100]:aM)
         ·rw[if_pos k4] at W0;have kb4:(nm.toList==([111,110,108,121,45,105,102,45,99,97,99,104,101,100]:aM))=true:=beq_iff_eq.mpr k4;clear k4;obtain rfl:=gK W0;clear W0;have hcell:=J.out.cell 5;have hfz:=J.out.free 5;have hcell:w9.cell? ⟨w.heap.size+1,5,none⟩=some (.bool d.b5):=hcell;go_wp2;go_roundg k1
          case measure=>have:=mh.out;omega
          case rel=>exact⟨_,_,rfl,H2,⟨by have:=mh.out;omega⟩,⟨J.out.set 5 _ _ rfl⟩⟩
         ·rw[if_neg k4] at W0;have kb4:(nm.toList==([111,110,108,121,45,105,102,45,99,97,99,104,101,100]:aM))=false:=beq_eq_false_iff_ne.mpr k4;clear k4;by_cases k5:nm.toList=([109,117,115,116,45,114,101,118,97,108,105,100,97,116,101]:aM)
          ·rw[if_pos k5] at W0;have kb5:(nm.toList==([109,117,115,116,45,114,101,118,97,108,105,100,97,116,101]:aM))=true:=beq_iff_eq.mpr k5;clear k5;obtain rfl:=gK W0;clear W0;have hcell:=J.out.cell 4;have hfz:=J.out.free 4;have hcell:w9.cell? ⟨w.heap.size+1,4,none⟩=some (.bool d.b4):=hcell;go_wp2;go_roundg k1
           case measure=>have:=mh.out;omega
           case rel=>exact⟨_,_,rfl,H2,⟨by have:=mh.out;omega⟩,⟨J.out.set 4 _ _ rfl⟩⟩
          ·rw[if_neg k5] at W0;have kb5:(nm.toList==([109,117,115,116,45,114,101,118,97,108,105,100,97,116,101]:aM))=false:=beq_eq_false_iff_ne.mpr k5;clear k5;by_cases k6:nm.toList=([112,114,111,120,121,45,114,101,118,97,108,105,100,97,116,101]:aM)
           ·rw[if_pos k6] at W0;have kb6:(nm.toList==([112,114,111,120,121,45,114,101,118,97,108,105,100,97,116,101]:aM))=true:=beq_iff_eq.mpr k6;clear k6;obtain rfl:=gK W0;clear W0;have hcell:=J.out.cell 4;have hfz:=J.out.free 4;have hcell:w9.cell? ⟨w.heap.size+1,4,none⟩=some (.bool d.b4):=hcell;go_wp2;go_roundg k1
            case measure=>have:=mh.out;omega
            case rel=>exact⟨_,_,rfl,H2,⟨by have:=mh.out;omega⟩,⟨J.out.set 4 _ _ rfl⟩⟩
           ·rw[if_neg k6] at W0;have kb6:(nm.toList==([112,114,111,120,121,45,114,101,118,97,108,105,100,97,116,101]:aM))=false:=beq_eq_false_iff_ne.mpr k6;clear k6;by_cases k7:nm.toList=([109,97,120,45,97,103,101]:aM)
            ·rw[if_pos k7] at W0;have kb7:(nm.toList==([109,97,120,45,97,103,101]:aM))=true:=beq_iff_eq.mpr k7;clear k7;obtain⟨m,W1,W0⟩:=Option.bind_eq_some_iff.mp W0;have A7:=ae.mk W1;obtain rfl:=gK W0;clear W0 W1;go_wp2_with fail;refine(iI.calls k1 v0 0 m _ A7.out).mono ?_;rintro e w10 ⟨rfl,hb⟩;dsimp only;have I:=ae.mk (J.out.below hb);clear J A7 hb;have hcell:=I.out.cell 6;go_wp2_with fail;refine(xy (w.heap.size+1) 6 d.n6 m d.cs _ I.out.box rfl).mono ?_;rintro e Oh ⟨rfl,BM⟩;dsimp only;have Kr:CS w (some Mk) c16 ws { d with n6:=tu d.n6 m } Oh:=by
              rw[BM];unfold tu;split
              ·exact I.out.set 6 _ _ rfl
              ·exact I.out
             have Kr:=ae.mk Kr;clear I BM hcell;go_wp2;go_roundg k1
             case measure=>have:=mh.out;omega
             case rel=>exact⟨_,_,rfl,H2,⟨by have:=mh.out;omega⟩,Kr⟩
            ·rw[if_neg k7] at W0;have kb7:(nm.toList==([109,97,120,45,97,103,101]:aM))=false:=beq_eq_false_iff_ne.mpr k7;clear k7;by_cases k8:nm.toList=([115,45,109,97,120,97,103,101]:aM)
             ·rw[if_pos k8] at W0;have kb8:(nm.toList==([115,45,109,97,120,97,103,101]:aM))=true:=beq_iff_eq.mpr k8;clear k8;obtain⟨m,W1,W0⟩:=Option.bind_eq_some_iff.mp W0;have A7:=ae.mk W1;obtain rfl:=gK W0;clear W0 W1;go_wp2_with fail;refine(iI.calls k1 v0 0 m _ A7.out).mono ?_;rintro e w10 ⟨rfl,hb⟩;dsimp only;have I:=ae.mk (J.out.below hb);clear J A7 hb;have hcell:=I.out.cell 7;go_wp2_with fail;refine(xy (w.heap.size+1) 7 d.n7 m d.cs _ I.out.box rfl).mono ?_;rintro e Oh ⟨rfl,BM⟩;dsimp only;have Kr:CS w (some Mk) c16 ws { d with n7:=tu d.n7 m } Oh:=by
               rw[BM];unfold tu;split
               ·exact I.out.set 7 _ _ rfl
               ·exact I.out
              have Kr:=ae.mk Kr;clear I BM hcell;go_wp2;go_roundg k1
              case measure=>have:=mh.out;omega
              case rel=>exact⟨_,_,rfl,H2,⟨by have:=mh.out;omega⟩,Kr⟩
             ·rw[if_neg k8] at W0;have kb8:(nm.toList==([115,45,109,97,120,97,103,101]:aM))=false:=beq_eq_false_iff_ne.mpr k8;clear k8;by_cases k9:nm.toList=([109,97,120,45,115,116,97,108,101]:aM)
              ·rw[if_pos k9] at W0;have kb9:(nm.toList==([109,97,120,45,115,116,97,108,101]:aM))=true:=beq_iff_eq.mpr k9;clear k9;by_cases cv:v0.toList=([]:aM)
               ·rw[if_pos cv] at W0;have cvb:(v0.toList==([]:aM))=true:=beq_iff_eq.mpr cv;obtain rfl:=gK W0;clear W0 cv;have hcell:=J.out.cell 8;go_wp2_with fail;refine(xy (w.heap.size+1) 8 d.n8 2147483648 d.cs _ J.out.box rfl).mono ?_;rintro e Oh ⟨rfl,BM⟩;dsimp only;have Kr:CS w (some Mk) c16 ws { d with n8:=tu d.n8 2147483648 } Oh:=by
                 rw[BM];unfold tu;split
                 ·exact J.out.set 8 _ _ rfl
                 ·exact J.out
                have Kr:=ae.mk Kr;clear J BM hcell;go_wp2;go_roundg k1
                case measure=>have:=mh.out;omega
                case rel=>exact⟨_,_,rfl,H2,⟨by have:=mh.out;omega⟩,Kr⟩
               ·rw[if_neg cv] at W0;have cvb:(v0.toList==([]:aM))=false:=beq_eq_false_iff_ne.mpr cv;clear cv;obtain⟨m,W1,W0⟩:=Option.bind_eq_some_iff.mp W0;have A7:=ae.mk W1;obtain rfl:=gK W0;clear W0 W1;go_wp2_with fail;refine(iI.calls k1 v0 0 m _ A7.out).mono ?_;rintro e w10 ⟨rfl,hb⟩;dsimp only;have I:=ae.mk (J.out.below hb);clear J A7 hb;have hcell:=I.out.cell 8;go_wp2_with fail;refine(xy (w.heap.size+1) 8 d.n8 m d.cs _ I.out.box rfl).mono ?_;rintro e Oh ⟨rfl,BM⟩;dsimp only;have Kr:CS w (some Mk) c16 ws { d with n8:=tu d.n8 m } Oh:=by
                 rw[BM];unfold tu;split
                 ·exact I.out.set 8 _ _ rfl
                 ·exact I.out
                have Kr:=ae.mk Kr;clear I BM hcell;go_wp2;go_roundg k1
                case measure=>have:=mh.out;omega
                case rel=>exact⟨_,_,rfl,H2,⟨by have:=mh.out;omega⟩,Kr⟩
              ·rw[if_neg k9] at W0;have kb9:(nm.toList==([109,97,120,45,115,116,97,108,101]:aM))=false:=beq_eq_false_iff_ne.mpr k9;clear k9;by_cases k10:nm.toList=([109,105,110,45,102,114,101,115,104]:aM)
               ·rw[if_pos k10] at W0;have atv:(nm.toList==([109,105,110,45,102,114,101,115,104]:aM))=true:=beq_iff_eq.mpr k10;clear k10;obtain⟨m,W1,W0⟩:=Option.bind_eq_some_iff.mp W0;have A7:=ae.mk W1;obtain rfl:=gK W0;clear W0 W1;go_wp2_with fail;refine(iI.calls k1 v0 2147483648 m _ A7.out).mono ?_;rintro e w10 ⟨rfl,hb⟩;dsimp only;have I:=ae.mk (J.out.below hb);clear J A7 hb;have hcell:=I.out.cell 9;go_wp2_with fail;refine(xy (w.heap.size+1) 9 d.n9 m d.cs _ I.out.box rfl).mono ?_;rintro e Oh ⟨rfl,BM⟩;dsimp only;have Kr:CS w (some Mk) c16 ws { d with n9:=tu d.n9 m } Oh:=by
                 rw[BM];unfold tu;split
                 ·exact I.out.set 9 _ _ rfl
                 ·exact I.out
                have Kr:=ae.mk Kr;clear I BM hcell;go_wp2;go_roundg k1
                case measure=>have:=mh.out;omega
                case rel=>exact⟨_,_,rfl,H2,⟨by have:=mh.out;omega⟩,Kr⟩
               ·rw[if_neg k10] at W0;have atv:(nm.toList==([109,105,110,45,102,114,101,115,104]:aM))=false:=beq_eq_false_iff_ne.mpr k10;clear k10;obtain rfl:=gK W0;clear W0;go_wp2;go_roundg k1
                case measure=>have:=mh.out;omega
                case rel=>exact⟨_,_,rfl,H2,⟨by have:=mh.out;omega⟩,J⟩
   ·rw[if_neg c6] at H;have xV:decide (x18<(ws.length:Int))=false:=aT c6;clear c6;obtain rfl:=gK H;clear H;obtain⟨ok,O1,H⟩:=Option.bind_eq_some_iff.mp H'.out;have A3:=ae.mk O1;clear O1 H';go_wp2_with fail;refine(fB.calls k _ _ l0 ok _ (Kd.ng GL.out I.out.bel) GG.out A3.out).mono ?_;rintro e Kk ⟨rfl,hb⟩;dsimp only;have J:=ae.mk (I.out.below hb);clear I A3 hb;cases ok with
    |false=>
     have e1:some d.Nh=some (r1,r2,r3,r4,r5,r6,r7,r8,r9,Y2):=by simpa using H
     clear H;obtain⟨rfl,rfl,rfl,rfl,rfl,rfl,rfl,rfl,rfl,rfl⟩:d.b0=r1/\d.b1=r2/\d.b2=r3/\d.b3=r4/\d.b4=r5/\d.b5=r6/\d.n6=r7/\d.n7=r8/\d.n8=r9/\d.n9=Y2:=by
      have e2:=gK e1;unfold iJ.Nh at e2;simpa only[Prod.mk.injEq] using e2
     clear e1;have hc0:Kk.cell? ⟨w.heap.size+1,0,none⟩=some (.bool d.b0):=J.out.cell 0;have hc1:Kk.cell? ⟨w.heap.size+1,1,none⟩=some (.bool d.b1):=J.out.cell 1;have hc2:Kk.cell? ⟨w.heap.size+1,2,none⟩=some (.bool d.b2):=J.out.cell 2;have hc3:Kk.cell? ⟨w.heap.size+1,3,none⟩=some (.bool d.b3):=J.out.cell 3;have hc4:Kk.cell? ⟨w.heap.size+1,4,none⟩=some (.bool d.b4):=J.out.cell 4;have hc5:Kk.cell? ⟨w.heap.size+1,5,none⟩=some (.bool d.b5):=J.out.cell 5;have hc6:Kk.cell? ⟨w.heap.size+1,6,none⟩=some (.int .i64 d.n6):=J.out.cell 6;have hc7:Kk.cell? ⟨w.heap.size+1,7,none⟩=some (.int .i64 d.n7):=J.out.cell 7;have hc8:Kk.cell? ⟨w.heap.size+1,8,none⟩=some (.int .i64 d.n8):=J.out.cell 8;have hc9:Kk.cell? ⟨w.heap.size+1,9,none⟩=some (.int .i64 d.n9):=J.out.cell 9;have hz0:Kk.cell? ⟨w.heap.size,0,none⟩=some (.bool false):=(ag J.out.res 0).trans rfl;have hf0:Kk.frozen? ⟨w.heap.size,0,none⟩=false:=ah J.out.res 0;have hz1:Kk.cell? ⟨w.heap.size,1,none⟩=some (.bool false):=(ag J.out.res 1).trans rfl;have hf1:Kk.frozen? ⟨w.heap.size,1,none⟩=false:=ah J.out.res 1;have hz2:Kk.cell? ⟨w.heap.size,2,none⟩=some (.bool false):=(ag J.out.res 2).trans rfl;have hf2:Kk.frozen? ⟨w.heap.size,2,none⟩=false:=ah J.out.res 2;have hz3:Kk.cell? ⟨w.heap.size,3,none⟩=some (.bool false):=(ag J.out.res 3).trans rfl;have hf3:Kk.frozen? ⟨w.heap.size,3,none⟩=false:=ah J.out.res 3;have hz4:Kk.cell? ⟨w.heap.size,4,none⟩=some (.bool false):=(ag J.out.res 4).trans rfl;have hf4:Kk.frozen? ⟨w.heap.size,4,none⟩=false:=ah J.out.res 4;have hz5:Kk.cell? ⟨w.heap.size,5,none⟩=some (.bool false):=(ag J.out.res 5).trans rfl;have hf5:Kk.frozen? ⟨w.heap.size,5,none⟩=false:=ah J.out.res 5;have hz6:Kk.cell? ⟨w.heap.size,6,none⟩=some (.int .i64 0):=(ag J.out.res 6).trans rfl;have hf6:Kk.frozen? ⟨w.heap.size,6,none⟩=false:=ah J.out.res 6;have hz7:Kk.cell? ⟨w.heap.size,7,none⟩=some (.int .i64 0):=(ag J.out.res 7).trans rfl;have hf7:Kk.frozen? ⟨w.heap.size,7,none⟩=false:=ah J.out.res 7;have hz8:Kk.cell? ⟨w.heap.size,8,none⟩=some (.int .i64 0):=(ag J.out.res 8).trans rfl;have hf8:Kk.frozen? ⟨w.heap.size,8,none⟩=false:=ah J.out.res 8;have hz9:Kk.cell? ⟨w.heap.size,9,none⟩=some (.int .i64 0):=(ag J.out.res 9).trans rfl;have hf9:Kk.frozen? ⟨w.heap.size,9,none⟩=false:=ah J.out.res 9;go_wp2;refine bodyPost_ret (results_cell_row rfl _ _ w.heap.size 44 d.cs (0,0) _ rfl (ZE J.out.res) Tryz.underlying44 rfl eB) rfl ?_;exact⟨rfl,Rp J.out.bel⟩
    |true=>
     have H1:=H;rw[if_pos rfl] at H1;clear H;obtain⟨has,O1,H⟩:=Option.bind_eq_some_iff.mp H1;have A4:=ae.mk O1;clear O1 H1;go_wp2_with fail;refine(kR.calls k _ _ l0 _ has _ (Kd.ng GL.out J.out.bel) GG.out A4.out).mono ?_;rintro e Kg ⟨rfl,hb⟩;dsimp only;have I:=ae.mk (J.out.below hb);clear J A4 hb;have J:=I;clear I;cases has with
     |true=>
      have e1:some d.Nh=some (r1,r2,r3,r4,r5,r6,r7,r8,r9,Y2):=by simpa using H
      clear H;obtain⟨rfl,rfl,rfl,rfl,rfl,rfl,rfl,rfl,rfl,rfl⟩:d.b0=r1/\d.b1=r2/\d.b2=r3/\d.b3=r4/\d.b4=r5/\d.b5=r6/\d.n6=r7/\d.n7=r8/\d.n8=r9/\d.n9=Y2:=by
       have e2:=gK e1;unfold iJ.Nh at e2;simpa only[Prod.mk.injEq] using e2
      clear e1;have hc0:Kg.cell? ⟨w.heap.size+1,0,none⟩=some (.bool d.b0):=J.out.cell 0;have hc1:Kg.cell? ⟨w.heap.size+1,1,none⟩=some (.bool d.b1):=J.out.cell 1;have hc2:Kg.cell? ⟨w.heap.size+1,2,none⟩=some (.bool d.b2):=J.out.cell 2;have hc3:Kg.cell? ⟨w.heap.size+1,3,none⟩=some (.bool d.b3):=J.out.cell 3;have hc4:Kg.cell? ⟨w.heap.size+1,4,none⟩=some (.bool d.b4):=J.out.cell 4;have hc5:Kg.cell? ⟨w.heap.size+1,5,none⟩=some (.bool d.b5):=J.out.cell 5;have hc6:Kg.cell? ⟨w.heap.size+1,6,none⟩=some (.int .i64 d.n6):=J.out.cell 6;have hc7:Kg.cell? ⟨w.heap.size+1,7,none⟩=some (.int .i64 d.n7):=J.out.cell 7;have hc8:Kg.cell? ⟨w.heap.size+1,8,none⟩=some (.int .i64 d.n8):=J.out.cell 8;have hc9:Kg.cell? ⟨w.heap.size+1,9,none⟩=some (.int .i64 d.n9):=J.out.cell 9;have hz0:Kg.cell? ⟨w.heap.size,0,none⟩=some (.bool false):=(ag J.out.res 0).trans rfl;have hf0:Kg.frozen? ⟨w.heap.size,0,none⟩=false:=ah J.out.res 0;have hz1:Kg.cell? ⟨w.heap.size,1,none⟩=some (.bool false):=(ag J.out.res 1).trans rfl;have hf1:Kg.frozen? ⟨w.heap.size,1,none⟩=false:=ah J.out.res 1;have hz2:Kg.cell? ⟨w.heap.size,2,none⟩=some (.bool false):=(ag J.out.res 2).trans rfl;have hf2:Kg.frozen? ⟨w.heap.size,2,none⟩=false:=ah J.out.res 2;have hz3:Kg.cell? ⟨w.heap.size,3,none⟩=some (.bool false):=(ag J.out.res 3).trans rfl;have hf3:Kg.frozen? ⟨w.heap.size,3,none⟩=false:=ah J.out.res 3;have hz4:Kg.cell? ⟨w.heap.size,4,none⟩=some (.bool false):=(ag J.out.res 4).trans rfl;have hf4:Kg.frozen? ⟨w.heap.size,4,none⟩=false:=ah J.out.res 4;have hz5:Kg.cell? ⟨w.heap.size,5,none⟩=some (.bool false):=(ag J.out.res 5).trans rfl;have hf5:Kg.frozen? ⟨w.heap.size,5,none⟩=false:=ah J.out.res 5;have hz6:Kg.cell? ⟨w.heap.size,6,none⟩=some (.int .i64 0):=(ag J.out.res 6).trans rfl;have hf6:Kg.frozen? ⟨w.heap.size,6,none⟩=false:=ah J.out.res 6;have hz7:Kg.cell? ⟨w.heap.size,7,none⟩=some (.int .i64 0):=(ag J.out.res 7).trans rfl;have hf7:Kg.frozen? ⟨w.heap.size,7,none⟩=false:=ah J.out.res 7;have hz8:Kg.cell? ⟨w.heap.size,8,none⟩=some (.int .i64 0):=(ag J.out.res 8).trans rfl;have hf8:Kg.frozen? ⟨w.heap.size,8,none⟩=false:=ah J.out.res 8;have hz9:Kg.cell? ⟨w.heap.size,9,none⟩=some (.int .i64 0):=(ag J.out.res 9).trans rfl;have hf9:Kg.frozen? ⟨w.heap.size,9,none⟩=false:=ah J.out.res 9;go_wp2;refine bodyPost_ret (results_cell_row rfl _ _ w.heap.size 44 d.cs (0,0) _ rfl (ZE J.out.res) Tryz.underlying44 rfl eB) rfl ?_;exact⟨rfl,Rp J.out.bel⟩
     |false=>
      have H1:=H;rw[if_neg av] at H1;clear H;obtain⟨ps,O1,H⟩:=Option.bind_eq_some_iff.mp H1;obtain⟨d9,O2,H2⟩:=Option.bind_eq_some_iff.mp H;have A5:=ae.mk O1;have L2:=ae.mk O2;have H3:=ae.mk H2;clear O1 O2 H H1 H2;go_wp2_with fail;refine(mU.calls k _ _ l0 _ ps _ (Kd.ng GL.out J.out.bel) GG.out A5.out).mono ?_;rintro e w14 ⟨aJi,rfl,ajv,hb⟩;dsimp only;obtain⟨aCX,aCY,rfl⟩:=dE ajv;have hsz:w.heap.size+2<=Kg.heap.size:=by have:=zF J.out.box;omega
      have hr:=Kd.gZ ajv hsz;have I:=ae.mk (CS.mk (d:=d) (pU J.out.res hb) (pU J.out.box hb) (Kd.iR (Kd.aet rfl hr) (fun k_ hk_=>Kd.nH hr k_ hk_.symm)) (Cs J.out.bel hb));clear J hr ajv hb hsz;go_wp2;go_loopg [103] k (fun kq aCZ w'=>∃(x103:Int) (d:iJ),aCZ = .int .i64 x103/\ae (LD kq ps d x103=some d9)/\ae (kq<=k)/\ae (CS w aCX aCY ps d w'))
      case atStart=>exact⟨0,d,rfl,L2,⟨Nat.le_refl _⟩,I⟩
      case round=>
       clear L2 I;obtain⟨x103,dq,rfl,HA,mh,I⟩:=hrel;cases gk with
       |zero=>exact absurd HA.out (by simp[LD])
       |succ k1=>
        have H:=HA.out;clear HA;simp only[LD] at H;by_cases c6:x103<(ps.length:Int)
        ·rw[if_pos c6] at H;have xV:decide (x103<(ps.length:Int))=true:=aQ c6;by_cases c7:0<=x103
         case neg=>rw[if_neg c7] at H;cases H
         rw[if_pos c7] at H;obtain⟨t,W0,H⟩:=Option.bind_eq_some_iff.mp H;have A6:=ae.mk W0;clear W0;have Am:decide (0<=x103)=true:=aQ c7;obtain⟨Mk,atu,aju⟩:=Kd.iM (Kd.aJ I.out.rows).2.2 x103 c7 c6;cases atu
         have aCV:=eq_true c7;have aCW:=eq_true c6;clear c6 c7;go_wp2_with fail;refine(jw.calls _ t _ A6.out).mono ?_;rintro e w15 ⟨rfl,hb⟩;dsimp only;have J:=ae.mk (I.out.below hb);clear I A6 hb aju;by_cases kt:t.toList=([110,111,45,99,97,99,104,101]:aM)
         ·rw[if_pos kt] at H;have H2:=ae.mk H;have ktb:(t.toList==([110,111,45,99,97,99,104,101]:aM))=true:=beq_iff_eq.mpr kt;clear kt H;have hcell:w15.cell? ⟨w.heap.size+1,1,none⟩=some (.bool dq.b1):=J.out.cell 1;have hfz:=J.out.free 1;go_wp2;go_roundg k1
          case measure=>have:=mh.out;omega
          case rel=>exact⟨_,_,rfl,H2,⟨by have:=mh.out;omega⟩,⟨J.out.set 1 _ _ rfl⟩⟩
         ·rw[if_neg kt] at H;have H2:=ae.mk H;have ktb:(t.toList==([110,111,45,99,97,99,104,101]:aM))=false:=beq_eq_false_iff_ne.mpr kt;clear kt H;go_wp2;go_roundg k1
          case measure=>have:=mh.out;omega
          case rel=>exact⟨_,_,rfl,H2,⟨by have:=mh.out;omega⟩,J⟩
        ·rw[if_neg c6] at H;have xV:decide (x103<(ps.length:Int))=false:=aT c6;clear c6;obtain rfl:=gK H;have J:=I;have H4:=H3.out;clear H H3 I;have e1:some dq.Nh=some (r1,r2,r3,r4,r5,r6,r7,r8,r9,Y2):=by simpa using H4
         clear H4;obtain⟨rfl,rfl,rfl,rfl,rfl,rfl,rfl,rfl,rfl,rfl⟩:dq.b0=r1/\dq.b1=r2/\dq.b2=r3/\dq.b3=r4/\dq.b4=r5/\dq.b5=r6/\dq.n6=r7/\dq.n7=r8/\dq.n8=r9/\dq.n9=Y2:=by
          have e2:=gK e1;unfold iJ.Nh at e2;simpa only[Prod.mk.injEq] using e2
         clear e1;have hc0:wr.cell? ⟨w.heap.size+1,0,none⟩=some (.bool dq.b0):=J.out.cell 0;have hc1:wr.cell? ⟨w.heap.size+1,1,none⟩=some (.bool dq.b1):=J.out.cell 1;have hc2:wr.cell? ⟨w.heap.size+1,2,none⟩=some (.bool dq.b2):=J.out.cell 2;have hc3:wr.cell? ⟨w.heap.size+1,3,none⟩=some (.bool dq.b3):=J.out.cell 3;have hc4:wr.cell? ⟨w.heap.size+1,4,none⟩=some (.bool dq.b4):=J.out.cell 4;have hc5:wr.cell? ⟨w.heap.size+1,5,none⟩=some (.bool dq.b5):=J.out.cell 5;have hc6:wr.cell? ⟨w.heap.size+1,6,none⟩=some (.int .i64 dq.n6):=J.out.cell 6;have hc7:wr.cell? ⟨w.heap.size+1,7,none⟩=some (.int .i64 dq.n7):=J.out.cell 7;have hc8:wr.cell? ⟨w.heap.size+1,8,none⟩=some (.int .i64 dq.n8):=J.out.cell 8;have hc9:wr.cell? ⟨w.heap.size+1,9,none⟩=some (.int .i64 dq.n9):=J.out.cell 9;have hz0:wr.cell? ⟨w.heap.size,0,none⟩=some (.bool false):=(ag J.out.res 0).trans rfl;have hf0:wr.frozen? ⟨w.heap.size,0,none⟩=false:=ah J.out.res 0;have hz1:wr.cell? ⟨w.heap.size,1,none⟩=some (.bool false):=(ag J.out.res 1).trans rfl;have hf1:wr.frozen? ⟨w.heap.size,1,none⟩=false:=ah J.out.res 1;have hz2:wr.cell? ⟨w.heap.size,2,none⟩=some (.bool false):=(ag J.out.res 2).trans rfl;have hf2:wr.frozen? ⟨w.heap.size,2,none⟩=false:=ah J.out.res 2;have hz3:wr.cell? ⟨w.heap.size,3,none⟩=some (.bool false):=(ag J.out.res 3).trans rfl;have hf3:wr.frozen? ⟨w.heap.size,3,none⟩=false:=ah J.out.res 3;have hz4:wr.cell? ⟨w.heap.size,4,none⟩=some (.bool false):=(ag J.out.res 4).trans rfl;have hf4:wr.frozen? ⟨w.heap.size,4,none⟩=false:=ah J.out.res 4;have hz5:wr.cell? ⟨w.heap.size,5,none⟩=some (.bool false):=(ag J.out.res 5).trans rfl;have hf5:wr.frozen? ⟨w.heap.size,5,none⟩=false:=ah J.out.res 5;have hz6:wr.cell? ⟨w.heap.size,6,none⟩=some (.int .i64 0):=(ag J.out.res 6).trans rfl;have hf6:wr.frozen? ⟨w.heap.size,6,none⟩=false:=ah J.out.res 6;have hz7:wr.cell? ⟨w.heap.size,7,none⟩=some (.int .i64 0):=(ag J.out.res 7).trans rfl;have hf7:wr.frozen? ⟨w.heap.size,7,none⟩=false:=ah J.out.res 7;have hz8:wr.cell? ⟨w.heap.size,8,none⟩=some (.int .i64 0):=(ag J.out.res 8).trans rfl;have hf8:wr.frozen? ⟨w.heap.size,8,none⟩=false:=ah J.out.res 8;have hz9:wr.cell? ⟨w.heap.size,9,none⟩=some (.int .i64 0):=(ag J.out.res 9).trans rfl;have hf9:wr.frozen? ⟨w.heap.size,9,none⟩=false:=ah J.out.res 9;go_wp2;refine bodyPost_ret (results_cell_row rfl _ _ w.heap.size 44 dq.cs (0,0) _ rfl (ZE J.out.res) Tryz.underlying44 rfl eB) rfl ?_;exact⟨rfl,Rp J.out.bel⟩
@[reducible,instance] def lV.c:=jM.of 0 Tryz.func50 @lV.calls

end Go.Proofs.YtfhllanhldbkkaaGreatDoor.P
namespace Go.Proofs.YtfhllanhldbkkaaGreatDoor.P
open Go.RowKit Go.Proofs.YtfhllanhldbkkaaGreatDoorW.aW Go.Proofs.YtfhllanhldbkkaaGreatDoorW.eQ Go.Proofs.YtfhllanhldbkkaaGreatDoorW.fO
attribute [local go_sem] kV kW mE mF jP jQ kX kY dZ E8 E9 Fa Fb oU oV
set_option linter.unusedVariables false
set_option linter.unusedSimpArgs false

def pI.f (a0:Int):Option (Bool):=(dB.f a0 (-1) 2147483648).bind fun axn=>(some axn)
theorem pI.calls (a0:Int) (r:Bool) (w:World) (h:pI.f a0=some r) :
  Calls Tryz.prog 94 #[.int .i64 a0] w fun e w'=>e = .returned (.bool r)/\bL w w':=by
 unfold pI.f at h;exact uA
@[reducible,instance] def pI.c:=jM.of 0 Tryz.func94 @pI.calls

def uB.f (az:Bool) (aA:Bool) (aC:Bool) (bI:Bool) (aG:Bool) (bH:Bool) (aZ:Int) (df:Int) (cZ:Int) (Pt:Int):Option (Bool):=(pI.f aZ).bind fun axo=>(if axo=true then((pI.f df).bind fun axp=>(if axp=true then((pI.f cZ).bind fun axq=>(if axq=true then((pI.f Pt).bind fun axr=>(some axr)) else(some false))) else(some false))) else(some false))
theorem uB.calls (az aA:Bool) (aC bI:Bool) (aG bH:Bool) (aZ df:Int) (cZ Pt:Int) (r:Bool) (w:World) (h:uB.f az aA aC bI aG bH aZ df cZ Pt=some r) :
  Calls Tryz.prog 55 #[.agg #[.bool az,.bool aA,.bool aC,.bool bI,.bool aG,.bool bH,.int .i64 aZ,.int .i64 df,.int .i64 cZ,.int .i64 Pt]] w fun e w'=>e = .returned (.bool r)/\Below w.heap.size w w':=by
 have adh:=Tryz.underlying44;unfold uB.f at h;exact uA
@[reducible,instance] def uB.c:=jM.of 0 Tryz.func55 @uB.calls


def lv.f (k:Nat) (az:ByteArray) (aA:Int) (aC:Int) (bK:List (j6)) (aG:ByteArray) (bH:ByteArray) (aZ:Int) (df:ByteArray) (cZ:Bool) (bD:List (j6)) (bg:ByteArray):Option (Bool):=(lW.f k az).bind fun aC0=>(if aC0=true then((iT.f aA).bind fun aC1=>(if aC1=true then((iT.f aC).bind fun aC2=>(if aC2=true then(if aA<=aC then((fB.f k bK).bind fun aC3=>(if aC3=true then((dA.f k aG bH aZ df cZ bD bg).bind fun aC4=>(if aC4=true then(if aG.toList=([]:aM) then(some (!cZ)) else(some false)) else(some false))) else(some false))) else(some false)) else(some false))) else(some false))) else(some false))
theorem lv.calls (k:Nat) (az:ByteArray) (aA aC:Int) (jy:Option Addr) (jA:Nat) (bK:List (j6)) (aG bH:ByteArray) (aZ:Int) (df:ByteArray) (cZ:Bool) (jB:Option Addr) (jC:Nat) (bD:List (j6)) (bg:ByteArray) (r:Bool) (w:World) (ku:Kd.C tZ w jy bK.length bK) (kv:bK.length<=jA) (ky:Kd.C tZ w jB bD.length bD) (kz:bD.length<=jC) (h:lv.f k az aA aC bK aG bH aZ df cZ bD bg=some r) (HT0:nN w) :
  Calls Tryz.prog 13 #[.agg #[.string az,.int .i64 aA,.int .i64 aC,.slice jy bK.length jA,.string aG,.string bH,.int .i64 aZ,.string df,.bool cZ,.slice jB bD.length jC,.string bg]] w fun e w'=>e = .returned (.bool r)/\Below w.heap.size w w':=by
 have HT:=ae.mk HT0;clear HT0;have J9:=Tryz.underlying33;have WV:=Tryz.underlying31;have xI:=ae.mk ku;have mD:=ae.mk kv;clear ku kv;have xB:=ae.mk ky;have lg:=ae.mk kz;clear ky kz;unfold lv.f at h;exact uA
@[reducible,instance] def lv.c:=jM.of 0 Tryz.func13 @lv.calls


def pW.f (k:Nat) (l0:List (j6)) (a1:ByteArray):Option (Int×Bool):=(xh.f k l0 a1).bind fun atw=>((au.f k atw.1).bind fun ajw=>(some (ajw.1,ajw.2)))
theorem pW.calls (k:Nat) (A0:Option Addr) (c0:Nat) (l0:List (j6)) (a1:ByteArray) (r1:Int) (r2:Bool) (w:World) (hr0:Kd.C tZ w A0 l0.length l0) (hc0:l0.length<=c0) (h:pW.f k l0 a1=some (r1,r2)) (HT0:nN w) :
  Calls Tryz.prog 52 #[.slice A0 l0.length c0,.string a1] w fun e w'=>e = .returned (.tuple #[.int .i64 r1,.bool r2])/\Below w.heap.size w w':=by
 have HT:=ae.mk HT0;clear HT0;have GL:=ae.mk hr0;have GG:=ae.mk hc0;clear hr0 hc0;unfold pW.f at h;exact uA
@[reducible,instance] def pW.c:=jM.of 0 Tryz.func52 @pW.calls

def jF.f (k:Nat) (az:ByteArray) (aA:Int) (aC:Int) (bK:List (j6)) (aG:ByteArray) (bH:ByteArray) (aZ:Int) (df:ByteArray) (cZ:Bool) (bD:List (j6)) (bg:ByteArray):Option (Int):=(pW.f k bD (⟨#[100,97,116,101]⟩:af)).bind fun ajx=>(if ajx.2=true then(some ajx.1) else(some aC))
theorem jF.calls (k:Nat) (az:ByteArray) (aA aC:Int) (jy:Option Addr) (jA:Nat) (bK:List (j6)) (aG bH:ByteArray) (aZ:Int) (df:ByteArray) (cZ:Bool) (jB:Option Addr) (jC:Nat) (bD:List (j6)) (bg:ByteArray) (r:Int) (w:World) (ku:Kd.C tZ w jy bK.length bK) (kv:bK.length<=jA) (ky:Kd.C tZ w jB bD.length bD) (kz:bD.length<=jC) (h:jF.f k az aA aC bK aG bH aZ df cZ bD bg=some r) (HT0:nN w) :
  Calls Tryz.prog 43 #[.agg #[.string az,.int .i64 aA,.int .i64 aC,.slice jy bK.length jA,.string aG,.string bH,.int .i64 aZ,.string df,.bool cZ,.slice jB bD.length jC,.string bg]] w fun e w'=>e = .returned (.int .i64 r)/\Below w.heap.size w w':=by
 have HT:=ae.mk HT0;clear HT0;have J9:=Tryz.underlying33;have xI:=ae.mk ku;have mD:=ae.mk kv;clear ku kv;have xB:=ae.mk ky;have lg:=ae.mk kz;clear ky kz;unfold jF.f at h;exact uA
@[reducible,instance] def jF.c:=jM.of 0 Tryz.func43 @jF.calls

def DF.f (k:Nat) (az:ByteArray) (aA:Int) (aC:Int) (bK:List (j6)) (aG:ByteArray) (bH:ByteArray) (aZ:Int) (df:ByteArray) (cZ:Bool) (bD:List (j6)) (bg:ByteArray):Option (Int):=(lv.f k az aA aC bK aG bH aZ df cZ bD bg).bind fun axs=>(if axs=true then((jF.f k az aA aC bK aG bH aZ df cZ bD bg).bind fun axt=>(some axt)) else(some (-1)))
theorem DF.calls (k:Nat) (az:ByteArray) (aA aC:Int) (jy:Option Addr) (jA:Nat) (bK:List (j6)) (aG bH:ByteArray) (aZ:Int) (df:ByteArray) (cZ:Bool) (jB:Option Addr) (jC:Nat) (bD:List (j6)) (bg:ByteArray) (r:Int) (w:World) (ku:Kd.C tZ w jy bK.length bK) (kv:bK.length<=jA) (ky:Kd.C tZ w jB bD.length bD) (kz:bD.length<=jC) (h:DF.f k az aA aC bK aG bH aZ df cZ bD bg=some r) (HT0:nN w) :
  Calls Tryz.prog 16 #[.agg #[.string az,.int .i64 aA,.int .i64 aC,.slice jy bK.length jA,.string aG,.string bH,.int .i64 aZ,.string df,.bool cZ,.slice jB bD.length jC,.string bg]] w fun e w'=>e = .returned (.int .i64 r)/\Below w.heap.size w w':=by
 have HT:=ae.mk HT0;clear HT0;have J9:=Tryz.underlying33;have xI:=ae.mk ku;have mD:=ae.mk kv;clear ku kv;have xB:=ae.mk ky;have lg:=ae.mk kz;clear ky kz;unfold DF.f at h;exact uA
@[reducible,instance] def DF.c:=jM.of 0 Tryz.func16 @DF.calls

end Go.Proofs.YtfhllanhldbkkaaGreatDoor.P
