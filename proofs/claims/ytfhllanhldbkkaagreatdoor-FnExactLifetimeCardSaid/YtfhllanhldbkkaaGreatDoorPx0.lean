-- Written by a program of ours (myprint.py, by way of the kit's print) out of Lean's print of the translation.
import Derived.Test.YtfhllanhldbkkaaGreatDoorProg
import Derived.Test.YtfhllanhldbkkaaGreatDoorWFour
import Derived.Test.YtfhllanhldbkkaaGreatDoorWEqStruct
import Derived.Test.YtfhllanhldbkkaaGreatDoorWRepsOne
import Derived.Test.YtfhllanhldbkkaaGreatDoorWInvWords
import Derived.Test.YtfhllanhldbkkaaGreatDoorOwn
import Derived.Test.YtfhllanhldbkkaaGreatDoorWC
namespace Go.Proofs.YtfhllanhldbkkaaGreatDoor.P
open Go.RowKit Go.Proofs.YtfhllanhldbkkaaGreatDoorW.bf Go.Proofs.YtfhllanhldbkkaaGreatDoorW.iK Go.Proofs.YtfhllanhldbkkaaGreatDoorW.kG
attribute [local go_sem] rE rF uF uG pE pF rG rH   -- for this text's walks alone
set_option linter.unusedVariables false
set_option linter.unusedSimpArgs false



def asD : Option Int->Value
 |none=>.nilIface
 |some c=>.iface 0 (.int .i64 c)
theorem dP : asD none = .nilIface:=rfl
theorem dQ (c:Int):asD (some c) = .iface 0 (.int .i64 c):=rfl

theorem info3 : (Tryz.prog.info? 3).map (fun i=>(i.zero,i.size,i.bytes))=some (some (.int .i64 0),1,8):=by kernel_rfl
theorem info5 : (Tryz.prog.info? 5).map (fun i=>(i.zero,i.size,i.bytes))=some (some (.int .u8 0),1,1):=by kernel_rfl
theorem Bg : (Tryz.prog.info? 9).map (fun i=>(i.zero,i.size,i.bytes))=some (some (.string ⟨#[]⟩),1,16):=by kernel_rfl
theorem apB : (Tryz.prog.info? 72).map (fun i=>(i.zero,i.size,i.bytes))=some (some (.agg #[(.string ⟨#[]⟩),(.string ⟨#[]⟩)]),2,32):=by kernel_rfl
-- the values' own types
structure BX where
 f0:ByteArray
 f1:ByteArray
def z69 : BX:=⟨(⟨#[]⟩:ByteArray),(⟨#[]⟩:ByteArray)⟩
def Tu : Kd BX:=Kd.iso (Kd.pair Kd.string Kd.string) (fun x:BX=>(x.f0,x.f1))
theorem aeW {w:World} {x:BX} {cs:List Value} (h:Tu.K w x cs):cs = [.string x.f0,.string x.f1]:=by
 obtain⟨_,_,rfl,rfl,rfl⟩:=h
 exact rfl
theorem apt (w:World) (x:BX)  : Tu.K w x [.string x.f0,.string x.f1]:=⟨[.string x.f0],[.string x.f1],rfl,rfl,rfl⟩
def uN (xs:List BX) (i:Int):BX:=xs.getD i.toNat z69
theorem Zb {w:World} {A:Option Addr} {n:Nat} {xs:List BX} (h:Kd.C Tu w A n xs) (i:Int) (h0:0<=i) (h1:i<n):∃ ad,A=some ad/\w.cell? (ad.add (i.toNat*2))=some (.string (uN xs i).f0)/\w.cell? ⟨(ad.add (i.toNat*2)).block,(ad.add (i.toNat*2)).off+1,none⟩=some (.string (uN xs i).f1):=by
 obtain⟨ad,c,e,_,hK,hc0⟩:=Kd.anB h z69 i h0 h1
 have hc:∀ j u,c[j]? = some u->w.cell? (ad.add (i.toNat*2+j))=some u:=hc0
 obtain rfl:=aeW hK
 exact⟨ad,e,hc 0 _ rfl,asE⟩

structure lq where
 f0:ByteArray
 f1:ByteArray
def z72 : lq:=⟨(⟨#[]⟩:ByteArray),(⟨#[]⟩:ByteArray)⟩
def wQ : Kd lq:=Kd.iso (Kd.pair Kd.string Kd.string) (fun x:lq=>(x.f0,x.f1))
theorem aeX {w:World} {x:lq} {cs:List Value} (h:wQ.K w x cs):cs = [.string x.f0,.string x.f1]:=by
 obtain⟨_,_,rfl,rfl,rfl⟩:=h
 exact rfl
theorem Rh {w:World} {base:Nat} {ok:Nat->Prop} {x:lq} {cs:List Value} (h:wQ.M w base ok x cs):cs = [.string x.f0,.string x.f1]:=by
 obtain⟨_,_,rfl,rfl,rfl⟩:=h
 exact rfl
theorem abj (w:World) (base:Nat) (ok:Nat->Prop) (x:lq)  : wQ.M w base ok x [.string x.f0,.string x.f1]:=⟨[.string x.f0],[.string x.f1],rfl,rfl,rfl⟩
def aV (xs:List lq) (i:Int):lq:=xs.getD i.toNat z72
theorem sK {w:World} {A:Option Addr} {n:Nat} {xs:List lq} (h:Kd.C wQ w A n xs) (i:Int) (h0:0<=i) (h1:i<n):∃ ad,A=some ad/\w.cell? (ad.add (i.toNat*2))=some (.string (aV xs i).f0)/\w.cell? ⟨(ad.add (i.toNat*2)).block,(ad.add (i.toNat*2)).off+1,none⟩=some (.string (aV xs i).f1):=by
 obtain⟨ad,c,e,_,hK,hc0⟩:=Kd.anB h z72 i h0 h1
 have hc:∀ j u,c[j]? = some u->w.cell? (ad.add (i.toNat*2+j))=some u:=hc0
 obtain rfl:=aeX hK
 exact⟨ad,e,hc 0 _ rfl,asE⟩

structure S31 where
 f0:ByteArray
 f1:ByteArray
 f2:Int
 f3:ByteArray
 f4:Bool
 f5:(List lq)
 f6:ByteArray
def z31 : S31:=⟨(⟨#[]⟩:ByteArray),(⟨#[]⟩:ByteArray),(0:Int),(⟨#[]⟩:ByteArray),false,([]:List lq),(⟨#[]⟩:ByteArray)⟩
abbrev af := ByteArray
abbrev aQ := List UInt8
theorem ae {p : Prop} (h : p := by omega) : p := h
theorem dK {p : Prop} (h : p := by kernel_rfl) : p := h
theorem aA {p : Prop} (h : p := by decide) : p := h
theorem ax {a b : Type} (x : a) (f : a -> Option b) : (some x).bind f = f x := rfl
theorem aI {a : Type} {x y : a} (h : some x = some y) : x = y := Option.some.inj h
theorem ay {p : Prop} [d : Decidable p] (h : decide p = true) : p := of_decide_eq_true h
theorem bK {p : Prop} [d : Decidable p] (h : p) : decide p = true := decide_eq_true h
theorem bQ {p : Prop} [d : Decidable p] (h : ¬ p) : decide p = false := decide_eq_false h
end Go.Proofs.YtfhllanhldbkkaaGreatDoor.P
