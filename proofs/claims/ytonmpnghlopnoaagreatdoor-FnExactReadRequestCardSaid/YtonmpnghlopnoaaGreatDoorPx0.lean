-- Written by a program of ours (myprint.py, by way of the kit's print) out of Lean's print of the translation.
import Derived.Test.YtonmpnghlopnoaaGreatDoorProg
import Derived.Below
import Derived.Deep.Draws
import Derived.Deep.AppendLies
import Derived.Maps.AppendAt
import Derived.OwnWalk
import Derived.Laws.BytesArg
import Derived.Laws.MakeOwn
import Derived.Laws.OwnMore
import Derived.Deep.OwnRows
import Derived.Tactics
import Derived.Lib.ConvBytes
import Derived.Laws.Slices
import Derived.WalkKit
import Derived.KernelRfl
import Derived.RowKit3
import Derived.Deep.LoopGhost
import Derived.Deep.QuietTactic
import Derived.BigQuiet
import Derived.WideLaws
import Derived.Deep.DeepCutAuto
import Derived.Deep.CutBlock
import Derived.Deep.RegionHeld3
import Derived.Laws.Rows
import Derived.Lib.AppendStr
import Derived.ArgAppend
import Derived.Laws.IdiomCopy
import Derived.OrdersHeld
import Derived.Laws.BitsLemmas
import Derived.RowKit
import Derived.Test.YtonmpnghlopnoaaGreatDoorWWords
import Derived.Test.YtonmpnghlopnoaaGreatDoorWLast
import Derived.Test.YtonmpnghlopnoaaGreatDoorWTab
import Derived.Test.YtonmpnghlopnoaaGreatDoorWFour
import Derived.Test.YtonmpnghlopnoaaGreatDoorWQPut
import Derived.Test.YtonmpnghlopnoaaGreatDoorWApart
import Derived.Test.YtonmpnghlopnoaaGreatDoorWEqStruct
import Derived.Test.YtonmpnghlopnoaaGreatDoorWRepsOne
import Derived.Test.YtonmpnghlopnoaaGreatDoorWInv
import Derived.Test.YtonmpnghlopnoaaGreatDoorWInvWords
import Derived.Test.YtonmpnghlopnoaaGreatDoorWGuard
import Derived.Test.YtonmpnghlopnoaaGreatDoorWMore
import Derived.Test.YtonmpnghlopnoaaGreatDoorOwn
import Derived.Test.YtonmpnghlopnoaaGreatDoorWC
namespace Go.Proofs.YtonmpnghlopnoaaGreatDoor.P
open Go.RowKit Go.Proofs.YtonmpnghlopnoaaGreatDoorW.PrintWords Go.Proofs.YtonmpnghlopnoaaGreatDoorW.PrintLast Go.Proofs.YtonmpnghlopnoaaGreatDoorW.PrintMore
attribute [local go_sem] max2_int min2_int max_two min_two max_three min_three max_four min_four   -- for this text's walks alone
set_option linter.unusedVariables false
set_option linter.unusedSimpArgs false



def errW : Option Int→Value
 |none=>.nilIface
 |some c=>.iface 0 (.int .i64 c)
theorem errW_none : errW none = .nilIface:=rfl
theorem errW_some (c:Int):errW (some c) = .iface 0 (.int .i64 c):=rfl

theorem info5 : (Tryz.prog.info? 5).map (fun i=>(i.zero,i.size,i.bytes))=some (some (.int .u8 0),1,1):=by kernel_rfl
theorem info9 : (Tryz.prog.info? 9).map (fun i=>(i.zero,i.size,i.bytes))=some (some (.string ⟨#[]⟩),1,16):=by kernel_rfl
theorem info41 : (Tryz.prog.info? 41).map (fun i=>(i.zero,i.size,i.bytes))=some (some (.agg #[(.string ⟨#[]⟩),(.string ⟨#[]⟩)]),2,32):=by kernel_rfl
-- the values' own types
structure S41 where
 f0:ByteArray
 f1:ByteArray
def z41 : S41:=⟨(⟨#[]⟩:ByteArray),(⟨#[]⟩:ByteArray)⟩
def k41 : Kd S41:=Kd.iso (Kd.pair Kd.string Kd.string) (fun x:S41=>(x.f0,x.f1))
theorem k41_open {w:World} {x:S41} {cs:List Value} (h:k41.K w x cs):cs = [.string x.f0,.string x.f1]:=by
 obtain⟨_,_,rfl,rfl,rfl⟩:=h
 exact rfl
theorem k41_openM {w:World} {base:Nat} {ok:Nat→Prop} {x:S41} {cs:List Value} (h:k41.M w base ok x cs):cs = [.string x.f0,.string x.f1]:=by
 obtain⟨_,_,rfl,rfl,rfl⟩:=h
 exact rfl
theorem k41_mk (w:World) (x:S41)  : k41.K w x [.string x.f0,.string x.f1]:=⟨[.string x.f0],[.string x.f1],rfl,rfl,rfl⟩
theorem k41_mkM (w:World) (base:Nat) (ok:Nat→Prop) (x:S41)  : k41.M w base ok x [.string x.f0,.string x.f1]:=⟨[.string x.f0],[.string x.f1],rfl,rfl,rfl⟩
def rd_T41 (xs:List S41) (i:Int):S41:=xs.getD i.toNat z41
theorem at_T41 {w:World} {A:Option Addr} {n:Nat} {xs:List S41} (h:Kd.C k41 w A n xs) (i:Int) (h0:0≤i) (h1:i<n):∃ ad,A=some ad∧w.cell? (ad.add (i.toNat*2))=some (.string (rd_T41 xs i).f0)∧w.cell? ⟨(ad.add (i.toNat*2)).block,(ad.add (i.toNat*2)).off+1,none⟩=some (.string (rd_T41 xs i).f1):=by
 obtain⟨ad,c,e,_,hK,hc0⟩:=Kd.C_get h z41 i h0 h1
 have hc:∀ j u,c[j]? = some u→w.cell? (ad.add (i.toNat*2+j))=some u:=hc0
 obtain rfl:=k41_open hK
 exact⟨ad,e,hc 0 _ rfl,by rw[← add_field _ _ 1 (by omega)];exact hc 1 _ rfl⟩

def rd_L4 (xs:List (List ByteArray)) (i:Int):(List ByteArray):=xs.getD i.toNat ([]:List ByteArray)
theorem at_L4 {w:World} {A:Option Addr} {n:Nat} {xs:List (List ByteArray)} (h:Kd.C (Kd.slice 9 Kd.string) w A n xs) (i:Int) (h0:0≤i) (h1:i<n):∃ ad A0 c0,A=some ad∧w.cell? (ad.add i.toNat)=some (.slice A0 (rd_L4 xs i).length c0)∧(rd_L4 xs i).length≤c0∧Kd.string.C w A0 (rd_L4 xs i).length (rd_L4 xs i):=by
 obtain⟨ad,c,e,_,hK,hc0⟩:=Kd.C_get h ([]:List ByteArray) i h0 h1
 have hc:∀ j u,c[j]? = some u→w.cell? (ad.add (i.toNat*1+j))=some u:=hc0
 obtain⟨A0,c0,rfl,l0,g0⟩:=hK
 exact⟨ad,A0,c0,e,by have hq:=hc 0 _ rfl;rwa [Nat.mul_one,Nat.add_zero] at hq,l0,g0⟩

def rd_L5 (xs:List (List S41)) (i:Int):(List S41):=xs.getD i.toNat ([]:List S41)
theorem at_L5 {w:World} {A:Option Addr} {n:Nat} {xs:List (List S41)} (h:Kd.C (Kd.slice 41 k41) w A n xs) (i:Int) (h0:0≤i) (h1:i<n):∃ ad A0 c0,A=some ad∧w.cell? (ad.add i.toNat)=some (.slice A0 (rd_L5 xs i).length c0)∧(rd_L5 xs i).length≤c0∧k41.C w A0 (rd_L5 xs i).length (rd_L5 xs i):=by
 obtain⟨ad,c,e,_,hK,hc0⟩:=Kd.C_get h ([]:List S41) i h0 h1
 have hc:∀ j u,c[j]? = some u→w.cell? (ad.add (i.toNat*1+j))=some u:=hc0
 obtain⟨A0,c0,rfl,l0,g0⟩:=hK
 exact⟨ad,A0,c0,e,by have hq:=hc 0 _ rfl;rwa [Nat.mul_one,Nat.add_zero] at hq,l0,g0⟩

structure S24 where
 f0:ByteArray
 f1:ByteArray
 f2:Int
 f3:ByteArray
 f4:Bool
 f5:(List S41)
 f6:ByteArray
def z24 : S24:=⟨(⟨#[]⟩:ByteArray),(⟨#[]⟩:ByteArray),(0:Int),(⟨#[]⟩:ByteArray),false,([]:List S41),(⟨#[]⟩:ByteArray)⟩
def k24 : Kd S24:=Kd.iso (Kd.pair Kd.string (Kd.pair Kd.string (Kd.pair (Kd.int .i64) (Kd.pair Kd.string (Kd.pair Kd.bool (Kd.pair (Kd.slice 41 k41) Kd.string)))))) (fun x:S24=>(x.f0,x.f1,x.f2,x.f3,x.f4,x.f5,x.f6))
theorem k24_open {w:World} {x:S24} {cs:List Value} (h:k24.K w x cs):∃ A5 c5,cs = [.string x.f0,.string x.f1,.int .i64 x.f2,.string x.f3,.bool x.f4,.slice A5 x.f5.length c5,.string x.f6]∧x.f5.length≤c5∧k41.C w A5 x.f5.length x.f5:=by
 obtain⟨_,_,rfl,rfl,⟨_,_,rfl,rfl,⟨_,_,rfl,rfl,⟨_,_,rfl,rfl,⟨_,_,rfl,rfl,⟨_,_,rfl,⟨A5,c5,rfl,l5,g5⟩,rfl⟩⟩⟩⟩⟩⟩:=h
 exact⟨A5,c5,rfl,l5,g5⟩
theorem k24_openM {w:World} {base:Nat} {ok:Nat→Prop} {x:S24} {cs:List Value} (h:k24.M w base ok x cs):∃ v5,cs = [.string x.f0,.string x.f1,.int .i64 x.f2,.string x.f3,.bool x.f4,v5,.string x.f6]∧k41.R 41 w base ok v5 x.f5:=by
 obtain⟨_,_,rfl,rfl,⟨_,_,rfl,rfl,⟨_,_,rfl,rfl,⟨_,_,rfl,rfl,⟨_,_,rfl,rfl,⟨_,_,rfl,⟨v5,rfl,g5⟩,rfl⟩⟩⟩⟩⟩⟩:=h
 exact⟨v5,rfl,g5⟩
theorem k24_mk (w:World) (x:S24) {A5:Option Addr} {c5:Nat} (l5:x.f5.length≤c5) (g5:k41.C w A5 x.f5.length x.f5):k24.K w x [.string x.f0,.string x.f1,.int .i64 x.f2,.string x.f3,.bool x.f4,.slice A5 x.f5.length c5,.string x.f6]:=⟨[.string x.f0],[.string x.f1,.int .i64 x.f2,.string x.f3,.bool x.f4,.slice A5 x.f5.length c5,.string x.f6],rfl,rfl,⟨[.string x.f1],[.int .i64 x.f2,.string x.f3,.bool x.f4,.slice A5 x.f5.length c5,.string x.f6],rfl,rfl,⟨[.int .i64 x.f2],[.string x.f3,.bool x.f4,.slice A5 x.f5.length c5,.string x.f6],rfl,rfl,⟨[.string x.f3],[.bool x.f4,.slice A5 x.f5.length c5,.string x.f6],rfl,rfl,⟨[.bool x.f4],[.slice A5 x.f5.length c5,.string x.f6],rfl,rfl,⟨[.slice A5 x.f5.length c5],[.string x.f6],rfl,⟨A5,c5,rfl,l5,g5⟩,rfl⟩⟩⟩⟩⟩⟩
theorem k24_mkM (w:World) (base:Nat) (ok:Nat→Prop) (x:S24) {v5:Value} (g5:k41.R 41 w base ok v5 x.f5):k24.M w base ok x [.string x.f0,.string x.f1,.int .i64 x.f2,.string x.f3,.bool x.f4,v5,.string x.f6]:=⟨[.string x.f0],[.string x.f1,.int .i64 x.f2,.string x.f3,.bool x.f4,v5,.string x.f6],rfl,rfl,⟨[.string x.f1],[.int .i64 x.f2,.string x.f3,.bool x.f4,v5,.string x.f6],rfl,rfl,⟨[.int .i64 x.f2],[.string x.f3,.bool x.f4,v5,.string x.f6],rfl,rfl,⟨[.string x.f3],[.bool x.f4,v5,.string x.f6],rfl,rfl,⟨[.bool x.f4],[v5,.string x.f6],rfl,rfl,⟨[v5],[.string x.f6],rfl,⟨v5,rfl,g5⟩,rfl⟩⟩⟩⟩⟩⟩
def rd_T24 (xs:List S24) (i:Int):S24:=xs.getD i.toNat z24
theorem at_T24 {w:World} {A:Option Addr} {n:Nat} {xs:List S24} (h:Kd.C k24 w A n xs) (i:Int) (h0:0≤i) (h1:i<n):∃ ad A5 c5,A=some ad∧w.cell? (ad.add (i.toNat*7))=some (.string (rd_T24 xs i).f0)∧w.cell? ⟨(ad.add (i.toNat*7)).block,(ad.add (i.toNat*7)).off+1,none⟩=some (.string (rd_T24 xs i).f1)∧w.cell? ⟨(ad.add (i.toNat*7)).block,(ad.add (i.toNat*7)).off+2,none⟩=some (.int .i64 (rd_T24 xs i).f2)∧w.cell? ⟨(ad.add (i.toNat*7)).block,(ad.add (i.toNat*7)).off+3,none⟩=some (.string (rd_T24 xs i).f3)∧w.cell? ⟨(ad.add (i.toNat*7)).block,(ad.add (i.toNat*7)).off+4,none⟩=some (.bool (rd_T24 xs i).f4)∧w.cell? ⟨(ad.add (i.toNat*7)).block,(ad.add (i.toNat*7)).off+5,none⟩=some (.slice A5 (rd_T24 xs i).f5.length c5)∧w.cell? ⟨(ad.add (i.toNat*7)).block,(ad.add (i.toNat*7)).off+6,none⟩=some (.string (rd_T24 xs i).f6)∧(rd_T24 xs i).f5.length≤c5∧k41.C w A5 (rd_T24 xs i).f5.length (rd_T24 xs i).f5:=by
 obtain⟨ad,c,e,_,hK,hc0⟩:=Kd.C_get h z24 i h0 h1
 have hc:∀ j u,c[j]? = some u→w.cell? (ad.add (i.toNat*7+j))=some u:=hc0
 obtain⟨A5,c5,rfl,l5,g5⟩:=k24_open hK
 exact⟨ad,A5,c5,e,hc 0 _ rfl,by rw[← add_field _ _ 1 (by omega)];exact hc 1 _ rfl,by rw[← add_field _ _ 2 (by omega)];exact hc 2 _ rfl,by rw[← add_field _ _ 3 (by omega)];exact hc 3 _ rfl,by rw[← add_field _ _ 4 (by omega)];exact hc 4 _ rfl,by rw[← add_field _ _ 5 (by omega)];exact hc 5 _ rfl,by rw[← add_field _ _ 6 (by omega)];exact hc 6 _ rfl,l5,g5⟩

end Go.Proofs.YtonmpnghlopnoaaGreatDoor.P
