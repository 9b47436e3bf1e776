-- Written by a program of ours (myprint.py, by way of the kit's print) out of Lean's print of the translation.
import Derived.Test.YtfhllanhldbkkaaGreatDoorProg
import Derived.Test.YtfhllanhldbkkaaGreatDoorWFour
import Derived.Test.YtfhllanhldbkkaaGreatDoorWEqStruct
import Derived.Test.YtfhllanhldbkkaaGreatDoorWRepsOne
import Derived.Test.YtfhllanhldbkkaaGreatDoorWInvWords
import Derived.Test.YtfhllanhldbkkaaGreatDoorOwn
import Derived.Test.YtfhllanhldbkkaaGreatDoorWU
namespace Go.Proofs.YtfhllanhldbkkaaGreatDoor.P
open Go.RowKit Go.Proofs.YtfhllanhldbkkaaGreatDoorW.aW Go.Proofs.YtfhllanhldbkkaaGreatDoorW.eQ Go.Proofs.YtfhllanhldbkkaaGreatDoorW.fO
attribute [local go_sem] kV kW mE mF jP jQ kX kY   -- for this text's walks alone
set_option linter.unusedVariables false
set_option linter.unusedSimpArgs false



def auy : Option Int->Value
 |none=>.nilIface
 |some c=>.iface 0 (.int .i64 c)
theorem iN : auy none = .nilIface:=rfl
theorem iO (c:Int):auy (some c) = .iface 0 (.int .i64 c):=rfl

theorem info3 : (Tryz.prog.info? 3).map (fun i=>(i.zero,i.size,i.bytes))=some (some (.int .i64 0),1,8):=by kernel_rfl
theorem info5 : (Tryz.prog.info? 5).map (fun i=>(i.zero,i.size,i.bytes))=some (some (.int .u8 0),1,1):=by kernel_rfl
theorem Iy : (Tryz.prog.info? 9).map (fun i=>(i.zero,i.size,i.bytes))=some (some (.string ⟨#[]⟩),1,16):=by kernel_rfl
theorem asb : (Tryz.prog.info? 72).map (fun i=>(i.zero,i.size,i.bytes))=some (some (.agg #[(.string ⟨#[]⟩),(.string ⟨#[]⟩)]),2,32):=by kernel_rfl
-- the values' own types
structure ET where
 f0:ByteArray
 f1:ByteArray
def z69 : ET:=⟨(⟨#[]⟩:ByteArray),(⟨#[]⟩:ByteArray)⟩
def WJ : Kd ET:=Kd.iso (Kd.pair Kd.string Kd.string) (fun x:ET=>(x.f0,x.f1))
theorem aha {w:World} {x:ET} {cs:List Value} (h:WJ.K w x cs):cs = [.string x.f0,.string x.f1]:=by
 obtain⟨_,_,rfl,rfl,rfl⟩:=h
 exact rfl
theorem ar3 (w:World) (x:ET)  : WJ.K w x [.string x.f0,.string x.f1]:=⟨[.string x.f0],[.string x.f1],rfl,rfl,rfl⟩
def Ap (xs:List ET) (i:Int):ET:=xs.getD i.toNat z69
theorem acU {w:World} {A:Option Addr} {n:Nat} {xs:List ET} (h:Kd.C WJ w A n xs) (i:Int) (h0:0<=i) (h1:i<n):∃ ad,A=some ad/\w.cell? (ad.add (i.toNat*2))=some (.string (Ap xs i).f0)/\w.cell? ⟨(ad.add (i.toNat*2)).block,(ad.add (i.toNat*2)).off+1,none⟩=some (.string (Ap xs i).f1):=by
 obtain⟨ad,c,e,_,hK,hc0⟩:=Kd.Xe h z69 i h0 h1
 have hc:∀ j u,c[j]? = some u->w.cell? (ad.add (i.toNat*2+j))=some u:=hc0
 obtain rfl:=aha hK
 exact⟨ad,e,hc 0 _ rfl,alf⟩

structure j6 where
 f0:ByteArray
 f1:ByteArray
def z72 : j6:=⟨(⟨#[]⟩:ByteArray),(⟨#[]⟩:ByteArray)⟩
def tZ : Kd j6:=Kd.iso (Kd.pair Kd.string Kd.string) (fun x:j6=>(x.f0,x.f1))
theorem ahb {w:World} {x:j6} {cs:List Value} (h:tZ.K w x cs):cs = [.string x.f0,.string x.f1]:=by
 obtain⟨_,_,rfl,rfl,rfl⟩:=h
 exact rfl
theorem Xg {w:World} {base:Nat} {ok:Nat->Prop} {x:j6} {cs:List Value} (h:tZ.M w base ok x cs):cs = [.string x.f0,.string x.f1]:=by
 obtain⟨_,_,rfl,rfl,rfl⟩:=h
 exact rfl
theorem aeu (w:World) (base:Nat) (ok:Nat->Prop) (x:j6)  : tZ.M w base ok x [.string x.f0,.string x.f1]:=⟨[.string x.f0],[.string x.f1],rfl,rfl,rfl⟩
def bF (xs:List j6) (i:Int):j6:=xs.getD i.toNat z72
theorem D5 {w:World} {A:Option Addr} {n:Nat} {xs:List j6} (h:Kd.C tZ w A n xs) (i:Int) (h0:0<=i) (h1:i<n):∃ ad,A=some ad/\w.cell? (ad.add (i.toNat*2))=some (.string (bF xs i).f0)/\w.cell? ⟨(ad.add (i.toNat*2)).block,(ad.add (i.toNat*2)).off+1,none⟩=some (.string (bF xs i).f1):=by
 obtain⟨ad,c,e,_,hK,hc0⟩:=Kd.Xe h z72 i h0 h1
 have hc:∀ j u,c[j]? = some u->w.cell? (ad.add (i.toNat*2+j))=some u:=hc0
 obtain rfl:=ahb hK
 exact⟨ad,e,hc 0 _ rfl,alf⟩

def aev (xs:List (List ByteArray)) (i:Int):(List ByteArray):=xs.getD i.toNat ([]:List ByteArray)
theorem apE {w:World} {A:Option Addr} {n:Nat} {xs:List (List ByteArray)} (h:Kd.C (Kd.slice 9 Kd.string) w A n xs) (i:Int) (h0:0<=i) (h1:i<n):∃ ad A0 c0,A=some ad/\w.cell? (ad.add i.toNat)=some (.slice A0 (aev xs i).length c0)/\(aev xs i).length<=c0/\Kd.string.C w A0 (aev xs i).length (aev xs i):=by
 obtain⟨ad,c,e,_,hK,hc0⟩:=Kd.Xe h ([]:List ByteArray) i h0 h1
 have hc:∀ j u,c[j]? = some u->w.cell? (ad.add (i.toNat*1+j))=some u:=hc0
 obtain⟨A0,c0,rfl,l0,g0⟩:=hK
 exact⟨ad,A0,c0,e,by have hq:=hc 0 _ rfl;rwa [Nat.mul_one,Nat.add_zero] at hq,l0,g0⟩

def aew (xs:List (List j6)) (i:Int):(List j6):=xs.getD i.toNat ([]:List j6)
theorem apF {w:World} {A:Option Addr} {n:Nat} {xs:List (List j6)} (h:Kd.C (Kd.slice 72 tZ) w A n xs) (i:Int) (h0:0<=i) (h1:i<n):∃ ad A0 c0,A=some ad/\w.cell? (ad.add i.toNat)=some (.slice A0 (aew xs i).length c0)/\(aew xs i).length<=c0/\tZ.C w A0 (aew xs i).length (aew xs i):=by
 obtain⟨ad,c,e,_,hK,hc0⟩:=Kd.Xe h ([]:List j6) i h0 h1
 have hc:∀ j u,c[j]? = some u->w.cell? (ad.add (i.toNat*1+j))=some u:=hc0
 obtain⟨A0,c0,rfl,l0,g0⟩:=hK
 exact⟨ad,A0,c0,e,by have hq:=hc 0 _ rfl;rwa [Nat.mul_one,Nat.add_zero] at hq,l0,g0⟩

structure S31 where
 f0:ByteArray
 f1:ByteArray
 f2:Int
 f3:ByteArray
 f4:Bool
 f5:(List j6)
 f6:ByteArray
def z31 : S31:=⟨(⟨#[]⟩:ByteArray),(⟨#[]⟩:ByteArray),(0:Int),(⟨#[]⟩:ByteArray),false,([]:List j6),(⟨#[]⟩:ByteArray)⟩
def k31 : Kd S31:=Kd.iso (Kd.pair Kd.string (Kd.pair Kd.string (Kd.pair (Kd.int .i64) (Kd.pair Kd.string (Kd.pair Kd.bool (Kd.pair (Kd.slice 72 tZ) Kd.string)))))) (fun x:S31=>(x.f0,x.f1,x.f2,x.f3,x.f4,x.f5,x.f6))
theorem ahc {w:World} {x:S31} {cs:List Value} (h:k31.K w x cs):∃ A5 c5,cs = [.string x.f0,.string x.f1,.int .i64 x.f2,.string x.f3,.bool x.f4,.slice A5 x.f5.length c5,.string x.f6]/\x.f5.length<=c5/\tZ.C w A5 x.f5.length x.f5:=by
 obtain⟨_,_,rfl,rfl,⟨_,_,rfl,rfl,⟨_,_,rfl,rfl,⟨_,_,rfl,rfl,⟨_,_,rfl,rfl,⟨_,_,rfl,⟨A5,c5,rfl,l5,g5⟩,rfl⟩⟩⟩⟩⟩⟩:=h
 exact⟨A5,c5,rfl,l5,g5⟩
def G9 (xs:List S31) (i:Int):S31:=xs.getD i.toNat z31
theorem ahd {w:World} {A:Option Addr} {n:Nat} {xs:List S31} (h:Kd.C k31 w A n xs) (i:Int) (h0:0<=i) (h1:i<n):∃ ad A5 c5,A=some ad/\w.cell? (ad.add (i.toNat*7))=some (.string (G9 xs i).f0)/\w.cell? ⟨(ad.add (i.toNat*7)).block,(ad.add (i.toNat*7)).off+1,none⟩=some (.string (G9 xs i).f1)/\w.cell? ⟨(ad.add (i.toNat*7)).block,(ad.add (i.toNat*7)).off+2,none⟩=some (.int .i64 (G9 xs i).f2)/\w.cell? ⟨(ad.add (i.toNat*7)).block,(ad.add (i.toNat*7)).off+3,none⟩=some (.string (G9 xs i).f3)/\w.cell? ⟨(ad.add (i.toNat*7)).block,(ad.add (i.toNat*7)).off+4,none⟩=some (.bool (G9 xs i).f4)/\w.cell? ⟨(ad.add (i.toNat*7)).block,(ad.add (i.toNat*7)).off+5,none⟩=some (.slice A5 (G9 xs i).f5.length c5)/\w.cell? ⟨(ad.add (i.toNat*7)).block,(ad.add (i.toNat*7)).off+6,none⟩=some (.string (G9 xs i).f6)/\(G9 xs i).f5.length<=c5/\tZ.C w A5 (G9 xs i).f5.length (G9 xs i).f5:=by
 obtain⟨ad,c,e,_,hK,hc0⟩:=Kd.Xe h z31 i h0 h1
 have hc:∀ j u,c[j]? = some u->w.cell? (ad.add (i.toNat*7+j))=some u:=hc0
 obtain⟨A5,c5,rfl,l5,g5⟩:=ahc hK
 exact⟨ad,A5,c5,e,hc 0 _ rfl,alf,by rw[<- qV _ _ 2 (by omega)];exact hc 2 _ rfl,by rw[<- qV _ _ 3 (by omega)];exact hc 3 _ rfl,by rw[<- qV _ _ 4 (by omega)];exact hc 4 _ rfl,by rw[<- qV _ _ 5 (by omega)];exact hc 5 _ rfl,by rw[<- qV _ _ 6 (by omega)];exact hc 6 _ rfl,l5,g5⟩

structure S44 where
 f0:Bool
 f1:Bool
 f2:Bool
 f3:Bool
 f4:Bool
 f5:Bool
 f6:Int
 f7:Int
 f8:Int
 f9:Int
def z44 : S44:=⟨false,false,false,false,false,false,(0:Int),(0:Int),(0:Int),(0:Int)⟩
def k44 : Kd S44:=Kd.iso (Kd.pair Kd.bool (Kd.pair Kd.bool (Kd.pair Kd.bool (Kd.pair Kd.bool (Kd.pair Kd.bool (Kd.pair Kd.bool (Kd.pair (Kd.int .i64) (Kd.pair (Kd.int .i64) (Kd.pair (Kd.int .i64) (Kd.int .i64)))))))))) (fun x:S44=>(x.f0,x.f1,x.f2,x.f3,x.f4,x.f5,x.f6,x.f7,x.f8,x.f9))
theorem ahe {w:World} {x:S44} {cs:List Value} (h:k44.K w x cs):cs = [.bool x.f0,.bool x.f1,.bool x.f2,.bool x.f3,.bool x.f4,.bool x.f5,.int .i64 x.f6,.int .i64 x.f7,.int .i64 x.f8,.int .i64 x.f9]:=by
 obtain⟨_,_,rfl,rfl,⟨_,_,rfl,rfl,⟨_,_,rfl,rfl,⟨_,_,rfl,rfl,⟨_,_,rfl,rfl,⟨_,_,rfl,rfl,⟨_,_,rfl,rfl,⟨_,_,rfl,rfl,⟨_,_,rfl,rfl,rfl⟩⟩⟩⟩⟩⟩⟩⟩⟩:=h
 exact rfl
def Ha (xs:List S44) (i:Int):S44:=xs.getD i.toNat z44
theorem ahf {w:World} {A:Option Addr} {n:Nat} {xs:List S44} (h:Kd.C k44 w A n xs) (i:Int) (h0:0<=i) (h1:i<n):∃ ad,A=some ad/\w.cell? (ad.add (i.toNat*10))=some (.bool (Ha xs i).f0)/\w.cell? ⟨(ad.add (i.toNat*10)).block,(ad.add (i.toNat*10)).off+1,none⟩=some (.bool (Ha xs i).f1)/\w.cell? ⟨(ad.add (i.toNat*10)).block,(ad.add (i.toNat*10)).off+2,none⟩=some (.bool (Ha xs i).f2)/\w.cell? ⟨(ad.add (i.toNat*10)).block,(ad.add (i.toNat*10)).off+3,none⟩=some (.bool (Ha xs i).f3)/\w.cell? ⟨(ad.add (i.toNat*10)).block,(ad.add (i.toNat*10)).off+4,none⟩=some (.bool (Ha xs i).f4)/\w.cell? ⟨(ad.add (i.toNat*10)).block,(ad.add (i.toNat*10)).off+5,none⟩=some (.bool (Ha xs i).f5)/\w.cell? ⟨(ad.add (i.toNat*10)).block,(ad.add (i.toNat*10)).off+6,none⟩=some (.int .i64 (Ha xs i).f6)/\w.cell? ⟨(ad.add (i.toNat*10)).block,(ad.add (i.toNat*10)).off+7,none⟩=some (.int .i64 (Ha xs i).f7)/\w.cell? ⟨(ad.add (i.toNat*10)).block,(ad.add (i.toNat*10)).off+8,none⟩=some (.int .i64 (Ha xs i).f8)/\w.cell? ⟨(ad.add (i.toNat*10)).block,(ad.add (i.toNat*10)).off+9,none⟩=some (.int .i64 (Ha xs i).f9):=by
 obtain⟨ad,c,e,_,hK,hc0⟩:=Kd.Xe h z44 i h0 h1
 have hc:∀ j u,c[j]? = some u->w.cell? (ad.add (i.toNat*10+j))=some u:=hc0
 obtain rfl:=ahe hK
 exact⟨ad,e,hc 0 _ rfl,alf,by rw[<- qV _ _ 2 (by omega)];exact hc 2 _ rfl,by rw[<- qV _ _ 3 (by omega)];exact hc 3 _ rfl,by rw[<- qV _ _ 4 (by omega)];exact hc 4 _ rfl,by rw[<- qV _ _ 5 (by omega)];exact hc 5 _ rfl,by rw[<- qV _ _ 6 (by omega)];exact hc 6 _ rfl,by rw[<- qV _ _ 7 (by omega)];exact hc 7 _ rfl,by rw[<- qV _ _ 8 (by omega)];exact hc 8 _ rfl,by rw[<- qV _ _ 9 (by omega)];exact hc 9 _ rfl⟩

set_option maxRecDepth 100000
@[reducible,instance] def acU.c:=AtK.mk (d:=WJ) @acU
@[reducible,instance] def D5.c:=AtK.mk (d:=tZ) @D5
@[reducible,instance] def apE.c:=AtK.mk (d:=(Kd.slice 9 Kd.string)) fun h i h0 h1=>ex2 (apE h i h0 h1)
@[reducible,instance] def apF.c:=AtK.mk (d:=(Kd.slice 72 tZ)) fun h i h0 h1=>ex2 (apF h i h0 h1)
@[reducible,instance] def ahd.c:=AtK.mk (d:=k31) fun h i h0 h1=>ex2 (ahd h i h0 h1)
@[reducible,instance] def ahf.c:=AtK.mk (d:=k44) @ahf
@[reducible,instance] def un5:=Xh.mk Tryz.underlying5
@[reducible,instance] def un9:=Xh.mk Tryz.underlying9
@[reducible,instance] def aIe:=Xh.mk Tryz.underlying24
@[reducible,instance] def aIf:=Xh.mk Tryz.underlying26
@[reducible,instance] def aIg:=Xh.mk Tryz.underlying29
@[reducible,instance] def aIh:=Xh.mk Tryz.underlying31
@[reducible,instance] def aIi:=Xh.mk Tryz.underlying33
@[reducible,instance] def aIj:=Xh.mk Tryz.underlying42
@[reducible,instance] def aIk:=Xh.mk Tryz.underlying44
@[reducible,instance] def aIl:=Xh.mk Tryz.underlying69
@[reducible,instance] def aIm:=Xh.mk Tryz.underlying72
@[reducible,instance] def aIn:=Xh.mk Tryz.underlying76
@[reducible,instance] def aIo:=Xh.mk Tryz.underlying90
@[reducible,instance] def aIp:=Xh.mk Tryz.underlying92
@[reducible,instance] def aEu:=Xh.mk Tryz.underlying100
@[reducible,instance] def aEv:=Xh.mk Tryz.underlying104
@[reducible,instance] def aEw:=Xh.mk Tryz.underlying117
@[reducible,instance] def aIq:Zr Tryz.prog 31 #[.string (⟨#[]⟩:ByteArray),.string (⟨#[]⟩:ByteArray),.int .i64 0,.string (⟨#[]⟩:ByteArray),.bool false,.slice none 0 0,.string (⟨#[]⟩:ByteArray)]:=⟨fun W=>by first|rfl|kernel_rfl|(go_simp;done)|(go_simp;rfl)⟩
@[reducible,instance] def aIr:Zr Tryz.prog 33 #[.string (⟨#[]⟩:ByteArray),.int .i64 0,.int .i64 0,.slice none 0 0,.string (⟨#[]⟩:ByteArray),.string (⟨#[]⟩:ByteArray),.int .i64 0,.string (⟨#[]⟩:ByteArray),.bool false,.slice none 0 0,.string (⟨#[]⟩:ByteArray)]:=⟨fun W=>by first|rfl|kernel_rfl|(go_simp;done)|(go_simp;rfl)⟩
@[reducible,instance] def aIs:Zr Tryz.prog 44 #[.bool false,.bool false,.bool false,.bool false,.bool false,.bool false,.int .i64 0,.int .i64 0,.int .i64 0,.int .i64 0]:=⟨fun W=>by first|rfl|kernel_rfl|(go_simp;done)|(go_simp;rfl)⟩
@[reducible,instance] def aIt:Zr Tryz.prog 72 #[.string (⟨#[]⟩:ByteArray),.string (⟨#[]⟩:ByteArray)]:=⟨fun W=>by first|rfl|kernel_rfl|(go_simp;done)|(go_simp;rfl)⟩
@[reducible,instance] def aIu:Zr Tryz.prog 92 #[.string (⟨#[]⟩:ByteArray),.int .i64 0,.string (⟨#[]⟩:ByteArray),.string (⟨#[]⟩:ByteArray),.bool false]:=⟨fun W=>by first|rfl|kernel_rfl|(go_simp;done)|(go_simp;rfl)⟩
@[reducible,instance] def aEx:Zr Tryz.prog 117 #[.int .i64 0,.int .i64 0,.int .i64 0,.int .i64 0,.int .i64 0,.int .i64 0]:=⟨fun W=>by first|rfl|kernel_rfl|(go_simp;done)|(go_simp;rfl)⟩
abbrev af := ByteArray
abbrev aM := List UInt8
theorem aa {p : Prop} (h : p := by omega) : p := h
theorem eB {p : Prop} (h : p := by kernel_rfl) : p := h
theorem av {p : Prop} (h : p := by decide) : p := h
theorem aj {a b : Type} (x : a) (f : a -> Option b) : (some x).bind f = f x := rfl
theorem gK {a : Type} {x y : a} (h : some x = some y) : x = y := Option.some.inj h
theorem aX {p : Prop} [d : Decidable p] (h : decide p = true) : p := of_decide_eq_true h
theorem aQ {p : Prop} [d : Decidable p] (h : p) : decide p = true := decide_eq_true h
theorem aT {p : Prop} [d : Decidable p] (h : ¬ p) : decide p = false := decide_eq_false h
end Go.Proofs.YtfhllanhldbkkaaGreatDoor.P
