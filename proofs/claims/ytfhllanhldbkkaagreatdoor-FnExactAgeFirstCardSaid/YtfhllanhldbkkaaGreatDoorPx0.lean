-- Written by a program of ours (myprint.py, by way of the kit's print) out of Lean's print of the translation.
import Derived.Test.YtfhllanhldbkkaaGreatDoorProg
import Derived.Below
import Derived.Deep.Draws
import Derived.Deep.AppendLies
import Derived.Maps.AppendAt
import Derived.OwnWalk
import Derived.Laws.BytesArg
import Derived.Laws.MakeOwn
import Derived.Laws.OwnMore
import Derived.Deep.OwnRows
import Derived.Tactics
import Derived.Lib.ConvBytes
import Derived.Laws.Slices
import Derived.WalkKit
import Derived.KernelRfl
import Derived.RowKit3
import Derived.Deep.LoopGhost
import Derived.Deep.QuietTactic
import Derived.BigQuiet
import Derived.WideLaws
import Derived.Deep.DeepCutAuto
import Derived.Deep.CutBlock
import Derived.Deep.RegionHeld3
import Derived.Laws.Rows
import Derived.Lib.AppendStr
import Derived.ArgAppend
import Derived.Laws.IdiomCopy
import Derived.OrdersHeld
import Derived.Laws.BitsLemmas
import Derived.RowKit
import Derived.Test.YtfhllanhldbkkaaGreatDoorWWords
import Derived.Test.YtfhllanhldbkkaaGreatDoorWLast
import Derived.Test.YtfhllanhldbkkaaGreatDoorWTab
import Derived.Test.YtfhllanhldbkkaaGreatDoorWFour
import Derived.Test.YtfhllanhldbkkaaGreatDoorWQPut
import Derived.Test.YtfhllanhldbkkaaGreatDoorWApart
import Derived.Test.YtfhllanhldbkkaaGreatDoorWEqStruct
import Derived.Test.YtfhllanhldbkkaaGreatDoorWRepsOne
import Derived.Test.YtfhllanhldbkkaaGreatDoorWInv
import Derived.Test.YtfhllanhldbkkaaGreatDoorWInvWords
import Derived.Test.YtfhllanhldbkkaaGreatDoorWGuard
import Derived.Test.YtfhllanhldbkkaaGreatDoorWMore
import Derived.Test.YtfhllanhldbkkaaGreatDoorOwn
import Derived.Test.YtfhllanhldbkkaaGreatDoorWC
namespace Go.Proofs.YtfhllanhldbkkaaGreatDoor.P
open Go.RowKit Go.Proofs.YtfhllanhldbkkaaGreatDoorW.ax Go.Proofs.YtfhllanhldbkkaaGreatDoorW.aD Go.Proofs.YtfhllanhldbkkaaGreatDoorW.aH
attribute [local go_sem] nZ oh qI qJ mq mr om oo   -- for this text's walks alone
set_option linter.unusedVariables false
set_option linter.unusedSimpArgs false



def anA : Option Int→Value
 |none=>.nilIface
 |some c=>.iface 0 (.int .i64 c)
theorem jy : anA none = .nilIface:=rfl
theorem jA (c:Int):anA (some c) = .iface 0 (.int .i64 c):=rfl

theorem info3 : (Tryz.prog.info? 3).map (fun i=>(i.zero,i.size,i.bytes))=some (some (.int .i64 0),1,8):=by kernel_rfl
theorem info5 : (Tryz.prog.info? 5).map (fun i=>(i.zero,i.size,i.bytes))=some (some (.int .u8 0),1,1):=by kernel_rfl
theorem J6 : (Tryz.prog.info? 9).map (fun i=>(i.zero,i.size,i.bytes))=some (some (.string ⟨#[]⟩),1,16):=by kernel_rfl
theorem akK : (Tryz.prog.info? 72).map (fun i=>(i.zero,i.size,i.bytes))=some (some (.agg #[(.string ⟨#[]⟩),(.string ⟨#[]⟩)]),2,32):=by kernel_rfl
-- the values' own types
structure EM where
 f0:ByteArray
 f1:ByteArray
def z69 : EM:=⟨(⟨#[]⟩:ByteArray),(⟨#[]⟩:ByteArray)⟩
def Q9 : Kd EM:=Kd.iso (Kd.pair Kd.string Kd.string) (fun x:EM=>(x.f0,x.f1))
theorem adf {w:World} {x:EM} {cs:List Value} (h:Q9.K w x cs):cs = [.string x.f0,.string x.f1]:=by
 obtain⟨_,_,rfl,rfl,rfl⟩:=h
 exact rfl
theorem akC (w:World) (x:EM)  : Q9.K w x [.string x.f0,.string x.f1]:=⟨[.string x.f0],[.string x.f1],rfl,rfl,rfl⟩
def rT (xs:List EM) (i:Int):EM:=xs.getD i.toNat z69
theorem Zz {w:World} {A:Option Addr} {n:Nat} {xs:List EM} (h:Kd.C Q9 w A n xs) (i:Int) (h0:0≤i) (h1:i<n):∃ ad,A=some ad∧w.cell? (ad.add (i.toNat*2))=some (.string (rT xs i).f0)∧w.cell? ⟨(ad.add (i.toNat*2)).block,(ad.add (i.toNat*2)).off+1,none⟩=some (.string (rT xs i).f1):=by
 obtain⟨ad,c,e,_,hK,hc0⟩:=Kd.aiu h z69 i h0 h1
 have hc:∀ j u,c[j]? = some u→w.cell? (ad.add (i.toNat*2+j))=some u:=hc0
 obtain rfl:=adf hK
 exact⟨ad,e,hc 0 _ rfl,anB⟩

structure nV where
 f0:ByteArray
 f1:ByteArray
def z72 : nV:=⟨(⟨#[]⟩:ByteArray),(⟨#[]⟩:ByteArray)⟩
def Ct : Kd nV:=Kd.iso (Kd.pair Kd.string Kd.string) (fun x:nV=>(x.f0,x.f1))
theorem adg {w:World} {x:nV} {cs:List Value} (h:Ct.K w x cs):cs = [.string x.f0,.string x.f1]:=by
 obtain⟨_,_,rfl,rfl,rfl⟩:=h
 exact rfl
theorem Uz {w:World} {base:Nat} {ok:Nat→Prop} {x:nV} {cs:List Value} (h:Ct.M w base ok x cs):cs = [.string x.f0,.string x.f1]:=by
 obtain⟨_,_,rfl,rfl,rfl⟩:=h
 exact rfl
theorem aa0 (w:World) (base:Nat) (ok:Nat→Prop) (x:nV)  : Ct.M w base ok x [.string x.f0,.string x.f1]:=⟨[.string x.f0],[.string x.f1],rfl,rfl,rfl⟩
def bg (xs:List nV) (i:Int):nV:=xs.getD i.toNat z72
theorem yZ {w:World} {A:Option Addr} {n:Nat} {xs:List nV} (h:Kd.C Ct w A n xs) (i:Int) (h0:0≤i) (h1:i<n):∃ ad,A=some ad∧w.cell? (ad.add (i.toNat*2))=some (.string (bg xs i).f0)∧w.cell? ⟨(ad.add (i.toNat*2)).block,(ad.add (i.toNat*2)).off+1,none⟩=some (.string (bg xs i).f1):=by
 obtain⟨ad,c,e,_,hK,hc0⟩:=Kd.aiu h z72 i h0 h1
 have hc:∀ j u,c[j]? = some u→w.cell? (ad.add (i.toNat*2+j))=some u:=hc0
 obtain rfl:=adg hK
 exact⟨ad,e,hc 0 _ rfl,anB⟩

structure S31 where
 f0:ByteArray
 f1:ByteArray
 f2:Int
 f3:ByteArray
 f4:Bool
 f5:(List nV)
 f6:ByteArray
def z31 : S31:=⟨(⟨#[]⟩:ByteArray),(⟨#[]⟩:ByteArray),(0:Int),(⟨#[]⟩:ByteArray),false,([]:List nV),(⟨#[]⟩:ByteArray)⟩
abbrev af := ByteArray
theorem aa {p : Prop} (h : p := by omega) : p := h
theorem aK {p : Prop} (h : p := by kernel_rfl) : p := h
theorem ak {p : Prop} (h : p := by decide) : p := h
theorem aj {a b : Type} (x : a) (f : a → Option b) : (some x).bind f = f x := rfl
theorem cu {a : Type} {x y : a} (h : some x = some y) : x = y := Option.some.inj h
theorem bE {p : Prop} [d : Decidable p] (h : decide p = true) : p := of_decide_eq_true h
theorem aT {p : Prop} [d : Decidable p] (h : p) : decide p = true := decide_eq_true h
theorem aN {p : Prop} [d : Decidable p] (h : ¬ p) : decide p = false := decide_eq_false h
end Go.Proofs.YtfhllanhldbkkaaGreatDoor.P
