import Derived.Lib.AppendIntMem
import Derived.Lib.ItoaNum
import Derived.Lib.LaidTab
import Derived.Test.YtfhllanhldbkkaaGreatDoorShelf
import Derived.Test.YtfhllanhldbkkaaGreatDoorPx0
import Derived.Laws.RangeAny
import Derived.Lib.DecodeN
import Derived.Lib.IndexAny
import Derived.Lib.MapLaws
import Derived.Lib.OthersKept
import Derived.WalkMore
import Derived.Lib.SplitLaws
set_option maxHeartbeats 8000000
set_option maxRecDepth 100000
namespace Go.Proofs.YtfhllanhldbkkaaGreatDoor.P
open Go.RowKit Go.Proofs.YtfhllanhldbkkaaGreatDoorW.aW Go.Proofs.YtfhllanhldbkkaaGreatDoorW.eQ Go.Proofs.YtfhllanhldbkkaaGreatDoorW.fO
attribute [local go_sem] kV kW mE mF jP jQ kX kY dZ E8 E9 Fa Fb oU oV
set_option linter.unusedVariables false
set_option linter.unusedSimpArgs false

-- IMPORT Shelf Derived.Lib.LaidTab Derived.Lib.ItoaNum Derived.Lib.AppendIntMem
def nN (w : World) : Prop := (∃ m : Int, w.cell? ⟨0, 0, none⟩ = some (.int .i64 m)) /\ Lib.TabIs Tryz.prog w "internal/strconv.uint64pow10" .u64 Lib.pow10Tab /\ (∃ te pe, w.cell? ⟨2, 0, none⟩ = some (.iface te pe)) /\ ∃ te pe, w.cell? ⟨3, 0, none⟩ = some (.iface te pe)
theorem agx {w w':World} (h:nN w) (hb:Below w.heap.size w w'):nN w':=by
 obtain⟨⟨m0,h0⟩,h1,⟨t1,p1,h2⟩,t2,p2,h3⟩:=h
 refine⟨⟨m0,(hb.cell (World.block_lt_of_cell? w _ h0)).trans h0⟩,?_,⟨t1,p1,(hb.cell (World.block_lt_of_cell? w _ h2)).trans h2⟩,t2,p2,(hb.cell (World.block_lt_of_cell? w _ h3)).trans h3⟩
 unfold Lib.TabIs World.var? at *
 cases hg : Tryz.prog.globalNamed "internal/strconv.uint64pow10" with
 |none=>rw[hg] at h1;cases h1
 |some g=>
  rw[hg] at h1
  rw[aj] at h1 ⊢
  cases hh:w.heap[g]? with
  |none=>rw[hh] at h1;cases h1
  |some o=>rw[hb.block g (zF hh)];exact h1
theorem kG {w W:World} (h:ae (nN w)) (hb:Below w.heap.size w W:=by first|(with_reducible exact Below.refl _ _)|(repeat(first|(with_reducible first|exact HB.out|apply gL|apply jX|apply bn|refine kH ?_ (ae.out (by assumption)))|exact HB.out))):nN W:=agx h.out hb
def iQ (n:Int):ByteArray:=⟨(Lib.itoa n).toArray⟩
def iw.f (a0:Int):Option (ByteArray):=if -9223372036854775808<=a0/\a0<=9223372036854775807 then some (iQ a0) else none
theorem iw.calls (a0:Int) (r1:ByteArray) (w:World) (h:iw.f a0=some r1) (HT0:nN w) :
  Calls Tryz.prog 111 #[.int .i64 a0] w fun e w'=>e = .returned (.string r1)/\Below w.heap.size w w':=by
 unfold iw.f at h;by_cases hn:-9223372036854775808<=a0/\a0<=9223372036854775807
 ·rw[if_pos hn] at h;cases h
  refine(Tryz.strconv_Itoa a0 hn.1 hn.2 _ HT0.2.1).mono ?_;rintro e w6 ⟨rfl,k,os,rfl⟩;exact⟨rfl,Lib.below_grow _ _ (Nat.le_refl _) k os⟩
 ·rw[if_neg hn] at h;cases h
@[reducible,instance] def iw.c:=jM.of 0 Tryz.func111 @iw.calls

-- IMPORT Shelf
def stringslite_Index.f (a0:ByteArray) (a1:ByteArray):Option (Int):=match a1.data.toList with
 |[c]=>some (Lib.indexByte a0.data.toList c)
 |[a,b,c]=>if a0.size<4294967281 then some (Lib.index a0.data.toList [a,b,c]) else none
 |_=>none
theorem stringslite_Index.calls (a0 a1:ByteArray) (r:Int) (w:World) (h:stringslite_Index.f a0 a1=some r) (HT0:nN w) :
  Calls Tryz.prog 170 #[.string a0,.string a1] w fun e w'=>e = .returned (.int .i64 r)/\bL w w':=by
 unfold stringslite_Index.f at h;split at h
 ·rename_i c hc
  obtain rfl:=gK h;have e1:a1=⟨#[c]⟩:=by
   have e2:a1.data = #[c]:=by rw[<- Array.toArray_toList (xs:=a1.data),hc]
   rw[<- e2]
  rw[e1];refine(Tryz.stringslite_Index_one a0 c w).mono ?_;rintro e w' ⟨rfl,rfl⟩;exact⟨rfl,bL.refl _⟩
 ·rename_i a b c hc
  by_cases hs:a0.size<4294967281
  ·rw[if_pos hs] at h;obtain rfl:=gK h;obtain⟨m,hm⟩:=HT0.1;refine(Tryz.stringslite_Index a0 a1 m w hs hm).mono ?_;rintro e w' ⟨rfl,rfl⟩;rw[hc];exact⟨rfl,bL.refl _⟩
  ·rw[if_neg hs] at h;cases h
 ·cases h
@[reducible,instance] def stringslite_Index.c:=jM.of 0 Tryz.func170 @stringslite_Index.calls

def strings_Index.f (a0:ByteArray) (a1:ByteArray):Option (Int):=(stringslite_Index.f a0 a1).bind fun aBz=>(some aBz)
theorem strings_Index.calls (a0 a1:ByteArray) (r:Int) (w:World) (h:strings_Index.f a0 a1=some r) (HT0:nN w) :
  Calls Tryz.prog 187 #[.string a0,.string a1] w fun e w'=>e = .returned (.int .i64 r)/\bL w w':=by
 have HT:=ae.mk HT0;clear HT0;unfold strings_Index.f at h;exact uA
@[reducible,instance] def strings_Index.c:=jM.of 0 Tryz.func187 @strings_Index.calls

def strings_Contains.f (a0:ByteArray) (a1:ByteArray):Option (Bool):=(strings_Index.f a0 a1).bind fun aBA=>(some (decide (aBA>=0)))
theorem strings_Contains.calls (a0 a1:ByteArray) (r:Bool) (w:World) (h:strings_Contains.f a0 a1=some r) (HT0:nN w) :
  Calls Tryz.prog 148 #[.string a0,.string a1] w fun e w'=>e = .returned (.bool r)/\bL w w':=by
 have HT:=ae.mk HT0;clear HT0;unfold strings_Contains.f at h;exact uA
@[reducible,instance] def strings_Contains.c:=jM.of 0 Tryz.func148 @strings_Contains.calls

end Go.Proofs.YtfhllanhldbkkaaGreatDoor.P
namespace Go.Proofs.YtfhllanhldbkkaaGreatDoor.P
open Go.RowKit Go.Proofs.YtfhllanhldbkkaaGreatDoorW.aW Go.Proofs.YtfhllanhldbkkaaGreatDoorW.eQ Go.Proofs.YtfhllanhldbkkaaGreatDoorW.fO
attribute [local go_sem] kV kW mE mF jP jQ kX kY   -- for this text's walks alone
set_option linter.unusedVariables false
set_option linter.unusedSimpArgs false

-- IMPORT Shelf Derived.Lib.OthersKept Derived.Lib.MapLaws Derived.Lib.DecodeN Derived.Lib.IndexAny Derived.Laws.RangeAny Derived.WalkMore
def strings_IndexAny.awq : Bool×List (List Nat×List Nat):=(true,[([],[]),([],[]),([0,1],[0,1]),([],[]),([],[]),([3,4],[3,4]),([2,5],[2,5])])
def strings_IndexAny.aBB : List Nat:=[0,0,3,0,0,24,63]
def strings_IndexAny.awr : Bool×List (List Nat×List Nat):=(true,[([],[]),([],[]),([1],[1]),([0,2],[0,2]),([],[]),([],[]),([4,5],[4,5]),([3,6],[3,6]),([7,7,0,1,2,3,4,5,6,7],[7])])
def strings_IndexAny.aBC : List Nat:=[0,0,2,7,0,0,48,127,255]
theorem strings_IndexAny.alD : pX .any (opsOf Tryz.f188 6)=strings_IndexAny.awq:=by kernel_rfl
theorem strings_IndexAny.aiJ : jK strings_IndexAny.awq.2 strings_IndexAny.aBB=true:=by kernel_rfl
theorem strings_IndexAny.alE : pX .any (opsOf Tryz.f188 7)=strings_IndexAny.awr:=by kernel_rfl
theorem strings_IndexAny.aiK : jK strings_IndexAny.awr.2 strings_IndexAny.aBC=true:=by kernel_rfl
theorem strings_IndexAny.Om (w:World) (s:ByteArray) (p:Nat):Below w.heap.size w (w.iter s p):=by
 unfold World.iter
 exact gL (Below.refl _ _) _
theorem strings_IndexAny.agy (r:Int) (w:World) (h0:128<=r) (h1:r<=2147483647) :
  Calls Tryz.prog 188 #[.string ⟨#[13,10]⟩,.int .i32 r] w fun e w'=>e = .returned (.int .i64 (-1))/\Below w.heap.size w w':=by
 have c0:decide (0<=r)=true:=aQ aa
 have c1:decide (r<128)=false:=aT aa
 by_cases hb:r=65533
 ·subst hb
  go_enter Tryz.func188,Tryz.ntmps188
  go_wp2_with fail
  go_loopg [5,6] 2 (fun g _ _ wx=>∃ i:Nat,i+g=2/\wx=w.iter (⟨#[13,10]⟩:af) i)
  case atStart=>exact⟨0,rfl,rfl⟩
  case round=>
   obtain⟨i,hig,rfl⟩:=hrel
   cases gk with
   |zero=>
    obtain rfl:i=2:=by omega
    have hnx:=run_next_end (P:=Tryz.prog) w (⟨#[13,10]⟩:af) 2
    have hz:((⟨#[13,10]⟩:af)).size=2:=rfl
    go_wp2
    go_ret
    exact⟨rfl,strings_IndexAny.Om w _ _⟩
   |succ g=>
    have hi:i<(⟨#[13,10]⟩:af).size:=by show i<2;omega
    have hx:∀ j:Nat,(hj:j<(⟨#[13,10]⟩:af).size)->((⟨#[13,10]⟩:af)[j]'hj).toNat<128:=by decide
    have hnx:=fun ty=>run_next_ascii (P:=Tryz.prog) w (⟨#[13,10]⟩:af) i ty hi (hx i hi)
    have hne:(((((⟨#[13,10]⟩:af)[i]'hi).toNat:Nat):Int)==65533)=false:=beq_eq_false_iff_ne.mpr (by have:=hx i hi;omega)
    generalize((⟨#[13,10]⟩:af)[i]'hi).toNat=xv at hnx hne
    go_wp2
    go_roundg g
    case measure=>omega
    case rel=>exact⟨i+1,by omega,rfl⟩
 ·have c2:(r==65533)=false:=beq_eq_false_iff_ne.mpr hb
  go_enter Tryz.func188,Tryz.ntmps188
  go_wp2_with fail
  refine(Tryz.utf8_ValidRune r w).mono ?_
  rintro e w2 ⟨rfl,rfl⟩
  dsimp only
  by_cases hv:Lib.validRune r=true
  ·rw[hv]
   go_wp2_with fail
   go_step3
   go_wp2
   have hF:=encode_facts r (by unfold Utf8.valid;unfold Lib.validRune at hv;simp at hv ⊢;omega) h0
   generalize Utf8.encode r=E at hF ⊢
   obtain⟨hF1,hF2,hF3⟩:=hF
   have hL:wrap64 ((E.size:Int)-1)=((E.size-1:Nat):Int):=by unfold wrap64;omega
   rw[hL]
   go_loopg [9,10] 1 (fun g v9 v10 wx=>v9 = .int .i64 ((E.size-1:Nat):Int)/\wx=w2)
   case atStart=>exact⟨rfl,rfl⟩
   case round=>
    obtain⟨rfl,rfl⟩:=hrel
    by_cases h2:E.size=2
    ·have e1:E.size-1=1:=by omega
     have hb:∀ h:1<E.size,128<=(E[1]'h).toNat:=by
      intro h
      have:=hF3 aa
      simp only[e1] at this
      exact this
     have hz:((⟨#[13,10]⟩:af)).size=2:=rfl
     have hE:=dZ E 1
     have hb2:128<=bt E 1:=by
      have h9:1<E.size:=by omega
      have:=hE h9
      have h8:=hb h9
      have h7:((1:Int)).toNat=1:=rfl
      simp only[h7] at this
      omega
     have h9:1<E.size:=by omega
     have hne:(((((⟨#[13,10]⟩:af)[1]'(by decide)).toNat:Nat):Int) != (((E[1]'h9).toNat:Nat):Int))=true:=by
      have h8:=hb h9
      have h7:((⟨#[13,10]⟩:af)[1]'(by decide)).toNat=10:=by decide
      rw[h7]
      exact bne_iff_ne.mpr aa
     have hw2:wrap64 2=2:=by unfold wrap64;omega
     have hs2:((⟨#[13,10]⟩:af).extract 2 2).data.toList = []:=by decide
     have q1:((1:Int)<(E.size:Int))=True:=eq_true aa
     have q1n:(1<E.size)=True:=eq_true aa
     go_wp2_with fail
     go_step3
     go_wp2_with fail
     refine Ct (n:=7) (S:=fun w'=>True) (ds:=[]) #[false,false,false,false,false,false,false] eB rfl rfl trivial (fun hHeld=>?_);refine dY strings_IndexAny.alD strings_IndexAny.aiJ (fun HT_ HW_=>?_)
     refine bN 0 (some 27) ?_
     refine bN 1 (some 28) ?_
     refine bN 2 (some 29) ?_
     refine bN 3 (some 30) ?_
     refine bN 4 (some 31) ?_
     refine bN 5 (some 32) ?_
     refine bN 6 (some 33) ?_
     refine lh (gP HT_.out eB) ?_
     clear HT_ HW_
     go_wp2_with fail
     refine Ct (n:=9) (S:=fun w'=>True) (ds:=[]) #[false,false,false,false,false,false,false,false,false] eB rfl rfl trivial (fun hHeld=>?_);refine dY strings_IndexAny.alE strings_IndexAny.aiK (fun HT_ HW_=>?_)
     refine bN 0 (some 34) ?_
     refine bN 1 (some 35) ?_
     refine bN 2 (some 36) ?_
     refine bN 3 (some 37) ?_
     refine bN 4 (some 38) ?_
     refine bN 5 (some 39) ?_
     refine bN 6 (some 40) ?_
     refine Cf (i:=7) (N:=some 41) #[true,true,true,true,true,true,true,true,false] rfl rfl (wD HT_.out eB) av (fun K hK=>?_)
     refine lQ Tryz.func134 eB rfl #[.string ((⟨#[13,10]⟩:af).extract 2 2),.int .u8 (((E[1]'h9).toNat:Nat):Int)] (by rfl) rfl rfl QG ?_
     refine(Tryz.strings_IndexByte _ _ _).mono ?_
     rintro e w5 ⟨rfl,rfl⟩
     refine⟨_,rfl,?_⟩
     rw[hs2]
     refine hK.out _ _ trivial (fun hHeld=>?_)
     clear hK K
     refine tK (some 41) ?_
     refine bN 8 (some 11) ?_
     refine lh (gP HT_.out eB) ?_
     clear HT_ HW_
     have hneg:decide (Lib.indexByte [] (((E[1]'h9).toNat:Nat):Int).toNat.toUInt8<0)=true:=rfl
     go_wp2
     simp only[Exit.noGoto_ret,Exit.noGoto,Exit.inBlock,Exit.then]
     go_ret
     exact⟨rfl,by repeat(first|exact Below.refl _ _|apply bn)⟩
    ·have c3:decide (((E.size-1:Nat):Int)<2)=false:=aT aa
     go_wp2
     rw[Exit.noGoto_ret]
     simp only[Exit.noGoto_ret,Exit.noGoto,Exit.inBlock,Exit.then]
     go_ret
     exact⟨rfl,Below.refl _ _⟩
  ·rw[show Lib.validRune r=false by simpa using hv]
   go_wp2
   go_ret
   exact⟨rfl,Below.refl _ _⟩

theorem strings_IndexAny.PL (s:ByteArray) (j:Nat) (hj:j<s.size):s.data.toList[j]? = some (s.get! j):=by
 rw[Lib.data_getElem? s j hj]
 congr 1
 unfold ByteArray.get!
 exact(getElem!_pos s.data j hj).symm
theorem strings_IndexAny.aiL (s:ByteArray) (i:Nat) (hi:i<s.size) (h:128<=(s.get! i).toNat):i+(Utf8.decode s i).2<=s.size/\1<=(Utf8.decode s i).2/\∀ j,i<=j->j<i+(Utf8.decode s i).2->128<=(s.get! j).toNat:=by
 rw[Lib.decode_at]
 rcases Lib.decodeN_shape (s.size-i) (s.get! i).toNat (s.get! (i+1)).toNat (s.get! (i+2)).toNat (s.get! (i+3)).toNat with⟨a,_⟩|⟨a1,a2,a3,_,e⟩|⟨a1,a2,a3,a4,_,_,e⟩|⟨a1,a2,a3,a4,a5,_,_,e⟩|e
 ·omega
 ·rw[e]
  refine⟨by show i+2<=s.size;omega,by show 1<=2;omega,fun j h1 h2=>?_⟩
  have h2:j<i+2:=h2
  obtain rfl|rfl:j=i∨j=i+1:=by omega
  ·exact h
  ·omega
 ·rw[e]
  refine⟨by show i+3<=s.size;omega,by show 1<=3;omega,fun j h1 h2=>?_⟩
  have h2:j<i+3:=h2
  obtain rfl|rfl|rfl:j=i∨j=i+1∨j=i+2:=by omega
  ·exact h
  ·omega
  ·omega
 ·rw[e]
  refine⟨by show i+4<=s.size;omega,by show 1<=4;omega,fun j h1 h2=>?_⟩
  have h2:j<i+4:=h2
  obtain rfl|rfl|rfl|rfl:j=i∨j=i+1∨j=i+2∨j=i+3:=by omega
  ·exact h
  ·omega
  ·omega
  ·omega
 ·rw[e]
  refine⟨by show i+1<=s.size;omega,by show 1<=1;omega,fun j h1 h2=>?_⟩
  have h2:j<i+1:=h2
  obtain rfl:j=i:=by omega
  exact h
theorem strings_IndexAny.alF {s:ByteArray} {i n:Nat} (hn:Lib.NoAny s.data.toList [13,10] i) (hs:i+n<=s.size) (h:∀ j,i<=j->j<i+n->128<=(s.get! j).toNat):Lib.NoAny s.data.toList [13,10] (i+n):=by
 intro j b hj hb
 by_cases q:j<i
 ·exact hn j b q hb
 ·have h1:=h j aa hj
  rw[strings_IndexAny.PL s j aa] at hb
  obtain rfl:=gK hb
  have e1:(s.get! j)≠13:=fun e=>by rw[e] at h1;exact absurd h1 av
  have e2:(s.get! j)≠10:=fun e=>by rw[e] at h1;exact absurd h1 av
  simp[e1,e2]
theorem strings_IndexAny.agz (s:ByteArray) (w:World) (h8:s.size<=8) :
  Calls Tryz.prog 149 #[.string s,.string ⟨#[13,10]⟩] w fun e w'=>e = .returned (.int .i64 (Lib.indexAny s.data.toList [13,10]))/\Below w.heap.size w w':=by
 have h8z:decide ((8:Int)<(s.size:Int))=false:=aT aa
 have HB:=ae.mk (Below.refl w.heap.size w)
 go_enter Tryz.func149,Tryz.ntmps149
 go_wp2_with fail
 refine(Tryz.strings_shouldUseASCIISet _ _).mono ?_
 rintro e w2 ⟨rfl,hw⟩
 subst hw
 dsimp only
 rw[h8z]
 go_wp2_with fail
 go_loopg [9,10] s.size (fun g _ _ wx=>∃ i:Nat,i+g<=s.size/\i<=s.size/\s.size<=i+g/\wx.heap[w2.heap.size]? = some (.stringIter s i)/\Below w2.heap.size w2 wx/\Lib.NoAny s.data.toList [13,10] i)
 case atStart=>exact⟨0,by omega,by omega,by omega,World.iter_heap _ _ _,strings_IndexAny.Om _ _ _,Lib.NoAny.zero _ _⟩
 case round=>
  obtain⟨i,hig,hle,hge,hk,hbl,hno⟩:=hrel
  have HN:=ae.mk hno
  have HK:=ae.mk hk
  have HW:=ae.mk hbl
  clear hno hbl
  by_cases hi:i<s.size
  case neg=>
   obtain rfl:i=s.size:=by omega
   have hnx:=fun ty=>Lib.run_next_end_at (P:=Tryz.prog) wr w2.heap.size s s.size ty hk hi
   clear hk
   go_wp2
   go_ret
   exact⟨by rw[Lib.indexAny_none (by have:=HN.out;rw[<- Lib.size_eq];exact this)];rfl,HW.out⟩
  case pos=>
   have hnx:=fun ty=>Lib.run_next_any_at (P:=Tryz.prog) wr w2.heap.size s i ty hk hi
   have hxl:=strings_IndexAny.PL s i hi
   have hgb:=s.get! i |>.toNat_lt
   clear hk
   obtain⟨g,rfl⟩:∃ g,gk=g+1:=⟨gk-1,by omega⟩
   have hcon:=Lib.contains_iff_indexByte [13,10] (s.get! i)
   by_cases ha:(s.get! i).toNat<128
   ·have hd:Utf8.decode s i=((s.get! i).toNat,1):=by
     have hh:(s[i]'hi)=s.get! i:=by
      have:=Lib.data_getElem? s i hi
      rw[hxl] at this
      exact(gK this).symm
     rw[decode_ascii s i hi (by rw[hh];exact ha),hh]
    rw[hd] at hnx
    dsimp only at hnx
    have hback:((((s.get! i).toNat:Nat):Int)).toNat.toUInt8=s.get! i:=by simp
    have HXL:=ae.mk hxl
    clear hxl
    cases hin:([13,10]:aM).contains (s.get! i) with
    |false=>
     rw[hin] at hcon
     have hlt:decide ((0:Int)<=Lib.indexByte [13,10] (s.get! i))=false:=hcon.symm
     clear hcon
     go_wp2_with fail
     refine(Tryz.strings_IndexRune_ascii _ _ _ aa aa).mono ?_
     rintro e w5 ⟨rfl,rfl⟩
     dsimp only
     rw[hback]
     go_wp2
     go_roundg g
     case measure=>omega
     case rel=>exact⟨i+1,by omega,by omega,by omega,Lib.iterAt_heap _ _ _ _ _ HK.out,Lib.below_iterAt HW.out (Nat.le_refl _) _ _,HN.out.succ HXL.out hin⟩
    |true=>
     rw[hin] at hcon
     have hlt:decide ((0:Int)<=Lib.indexByte [13,10] (s.get! i))=true:=hcon.symm
     clear hcon
     go_wp2_with fail
     refine(Tryz.strings_IndexRune_ascii _ _ _ aa aa).mono ?_
     rintro e w5 ⟨rfl,rfl⟩
     dsimp only
     rw[hback]
     go_wp2
     go_ret
     exact⟨by rw[Lib.indexAny_hit HN.out HXL.out hin];rfl,Lib.below_iterAt HW.out (Nat.le_refl _) _ _⟩
   ·obtain⟨r1,r2,r3⟩:=strings_IndexAny.aiL s i hi aa
    have hr:=decode_high s i hi (by
     have hh:(s[i]'hi)=s.get! i:=by
      have:=Lib.data_getElem? s i hi
      rw[hxl] at this
      exact(gK this).symm
     rw[hh];omega)
    have hrl:=decode_le s i
    have as5:=strings_IndexAny.alF HN.out r1 r3
    have HN2:=ae.mk as5
    generalize(Utf8.decode s i).1=rv at hnx hr hrl
    generalize(Utf8.decode s i).2=wd at hnx hr r1 r2 r3 as5 HN2
    clear hcon hxl r3 as5
    go_wp2_with fail
    refine(strings_IndexAny.agy _ _ aa aa).mono ?_
    rintro e w5 ⟨rfl,hb5⟩
    dsimp only
    have hk5:=(hb5.block w2.heap.size (by rw[Lib.iterAt_size];exact zF HK.out)).trans (Lib.iterAt_heap wr w2.heap.size s i (i+wd) HK.out)
    have hb6:=TD (Lib.below_iterAt HW.out (Nat.le_refl _) s (i+wd)) (by rw[Lib.iterAt_size];exact HW.out.size) hb5
    clear hb5
    have HK5:=ae.mk hk5
    have HB6:=ae.mk hb6
    clear hk5 hb6
    go_wp2
    go_roundg (s.size-(i+wd))
    case measure=>omega
    case rel=>exact⟨i+wd,by omega,by omega,by omega,HK5.out,HB6.out,HN2.out⟩
theorem strings_IndexAny.alG (s:ByteArray) (c d:UInt8) (w:World) (h8:s.size<=8) (hA:∀ i,i<s.size->(s.get! i).toNat<128) :
  Calls Tryz.prog 149 #[.string s,.string ⟨#[c,d]⟩] w fun e w'=>e = .returned (.int .i64 (Lib.indexAny s.data.toList [c,d]))/\Below w.heap.size w w':=by
 have h8z:decide ((8:Int)<(s.size:Int))=false:=aT aa
 have HB:=ae.mk (Below.refl w.heap.size w)
 have HA:=ae.mk hA
 clear hA
 go_enter Tryz.func149,Tryz.ntmps149
 go_wp2_with fail
 refine(Tryz.strings_shouldUseASCIISet _ _).mono ?_
 rintro e w2 ⟨rfl,hw⟩
 subst hw
 dsimp only
 rw[h8z]
 go_wp2_with fail
 go_loopg [9,10] s.size (fun g _ _ wx=>∃ i:Nat,i+g<=s.size/\i<=s.size/\s.size<=i+g/\wx.heap[w2.heap.size]? = some (.stringIter s i)/\Below w2.heap.size w2 wx/\Lib.NoAny s.data.toList [c,d] i)
 case atStart=>exact⟨0,by omega,by omega,by omega,World.iter_heap _ _ _,strings_IndexAny.Om _ _ _,Lib.NoAny.zero _ _⟩
 case round=>
  obtain⟨i,hig,hle,hge,hk,hbl,hno⟩:=hrel
  have HN:=ae.mk hno
  have HK:=ae.mk hk
  have HW:=ae.mk hbl
  clear hno hbl
  by_cases hi:i<s.size
  case neg=>
   obtain rfl:i=s.size:=by omega
   have hnx:=fun ty=>Lib.run_next_end_at (P:=Tryz.prog) wr w2.heap.size s s.size ty hk hi
   clear hk
   go_wp2
   go_ret
   exact⟨by rw[Lib.indexAny_none (by have:=HN.out;rw[<- Lib.size_eq];exact this)];rfl,HW.out⟩
  case pos=>
   have hnx:=fun ty=>Lib.run_next_any_at (P:=Tryz.prog) wr w2.heap.size s i ty hk hi
   have hxl:=strings_IndexAny.PL s i hi
   have hgb:=s.get! i |>.toNat_lt
   clear hk
   obtain⟨g,rfl⟩:∃ g,gk=g+1:=⟨gk-1,by omega⟩
   have hcon:=Lib.contains_iff_indexByte [c,d] (s.get! i)
   have ha:(s.get! i).toNat<128:=HA.out i hi
   have hd:Utf8.decode s i=((s.get! i).toNat,1):=by
    have hh:(s[i]'hi)=s.get! i:=by
     have:=Lib.data_getElem? s i hi
     rw[hxl] at this
     exact(gK this).symm
    rw[decode_ascii s i hi (by rw[hh];exact ha),hh]
   rw[hd] at hnx
   dsimp only at hnx
   have hback:((((s.get! i).toNat:Nat):Int)).toNat.toUInt8=s.get! i:=by simp
   have HXL:=ae.mk hxl
   clear hxl
   cases hin:([c,d]:aM).contains (s.get! i) with
   |false=>
    rw[hin] at hcon
    have hlt:decide ((0:Int)<=Lib.indexByte [c,d] (s.get! i))=false:=hcon.symm
    clear hcon
    go_wp2_with fail
    refine(Tryz.strings_IndexRune_ascii _ _ _ aa aa).mono ?_
    rintro e w5 ⟨rfl,rfl⟩
    dsimp only
    rw[hback]
    go_wp2
    go_roundg g
    case measure=>omega
    case rel=>exact⟨i+1,by omega,by omega,by omega,Lib.iterAt_heap _ _ _ _ _ HK.out,Lib.below_iterAt HW.out (Nat.le_refl _) _ _,HN.out.succ HXL.out hin⟩
   |true=>
    rw[hin] at hcon
    have hlt:decide ((0:Int)<=Lib.indexByte [c,d] (s.get! i))=true:=hcon.symm
    clear hcon
    go_wp2_with fail
    refine(Tryz.strings_IndexRune_ascii _ _ _ aa aa).mono ?_
    rintro e w5 ⟨rfl,rfl⟩
    dsimp only
    rw[hback]
    go_wp2
    go_ret
    exact⟨by rw[Lib.indexAny_hit HN.out HXL.out hin];rfl,Lib.below_iterAt HW.out (Nat.le_refl _) _ _⟩
def strings_IndexAny.f (a0:ByteArray) (a1:ByteArray):Option (Int):=if a1.data.toList = [13,10]/\a0.size<4294967281 then some (Lib.indexAny a0.data.toList [13,10])
 else if(a1.data.toList = [47,63]∨a1.data.toList = [35,63])/\a0.data.toList.all (fun b=>decide (b.toNat<128))=true/\a0.size<4294967281 then some (Lib.indexAny a0.data.toList a1.data.toList) else none
theorem strings_IndexAny.calls (a0 a1:ByteArray) (r:Int) (w:World) (h:strings_IndexAny.f a0 a1=some r) :
  Calls Tryz.prog 149 #[.string a0,.string a1] w fun e w'=>e = .returned (.int .i64 r)/\Below w.heap.size w w':=by
 unfold strings_IndexAny.f at h;by_cases hc:a1.data.toList = [13,10]/\a0.size<4294967281
 ·rw[if_pos hc] at h;obtain rfl:=gK h;have e1:a1=⟨#[13,10]⟩:=by
   have e2:a1.data = #[13,10]:=by rw[<- Array.toArray_toList (xs:=a1.data),hc.1]
   rw[<- e2]
  rw[e1];by_cases h8:a0.size<=8
  ·exact strings_IndexAny.agz a0 w h8
  ·refine(Tryz.strings_IndexAny_long (fun w=>(zero_of_info (n:=256) eB).1 w) a0 ⟨#[13,10]⟩ w (Nat.le_refl 2) aa hc.2 (by show 2<4294967281;omega) (fun j b hb=>?_)).mono ?_
   ·match j,hb with
    |0,hb=>obtain rfl:=gK hb;decide
    |1,hb=>obtain rfl:=gK hb;decide
    |j+2,hb=>exact absurd hb (by simp)
   ·rintro e w' ⟨rfl,rfl⟩;exact⟨rfl,gL (gL (Below.refl _ _) _) _⟩
 ·rw[if_neg hc] at h;by_cases hd:(a1.data.toList = [47,63]∨a1.data.toList = [35,63])/\a0.data.toList.all (fun b=>decide (b.toNat<128))=true/\a0.size<4294967281
  ·rw[if_pos hd] at h;obtain rfl:=gK h;obtain⟨x,y,hx,hy,e0⟩:∃ x y:UInt8,x.toNat<128/\y.toNat<128/\a1.data.toList = [x,y]:=by
    rcases hd.1 with e|e
    ·exact⟨47,63,by decide,by decide,e⟩
    ·exact⟨35,63,by decide,by decide,e⟩
   have e1:a1=⟨#[x,y]⟩:=by
    have e2:a1.data = #[x,y]:=by rw[<- Array.toArray_toList (xs:=a1.data),e0]
    rw[<- e2]
   have hA:∀ i,i<a0.size->(a0.get! i).toNat<128:=fun i hi=>by
    have h1:=List.all_eq_true.mp hd.2.1 (a0.get! i) (List.mem_of_getElem? (strings_IndexAny.PL a0 i hi));exact aX h1
   rw[e0,e1];by_cases h8:a0.size<=8
   ·exact strings_IndexAny.alG a0 x y w h8 hA
   ·refine(Tryz.strings_IndexAny_long (fun w=>(zero_of_info (n:=256) eB).1 w) a0 ⟨#[x,y]⟩ w (Nat.le_refl 2) aa hd.2.2 (by show 2<4294967281;omega) (fun j b hb=>?_)).mono ?_
    ·match j,hb with
     |0,hb=>obtain rfl:=gK hb;exact hx
     |1,hb=>obtain rfl:=gK hb;exact hy
     |j+2,hb=>exact absurd hb (by simp)
    ·rintro e w' ⟨rfl,rfl⟩;exact⟨rfl,gL (gL (Below.refl _ _) _) _⟩
  ·rw[if_neg hd] at h;cases h
@[reducible,instance] def strings_IndexAny.c:=jM.of 0 Tryz.func149 @strings_IndexAny.calls

end Go.Proofs.YtfhllanhldbkkaaGreatDoor.P
namespace Go.Proofs.YtfhllanhldbkkaaGreatDoor.P
open Go.RowKit Go.Proofs.YtfhllanhldbkkaaGreatDoorW.aW Go.Proofs.YtfhllanhldbkkaaGreatDoorW.eQ Go.Proofs.YtfhllanhldbkkaaGreatDoorW.fO
attribute [local go_sem] kV kW mE mF jP jQ kX kY dZ E8 E9 Fa Fb oU oV
set_option linter.unusedVariables false
set_option linter.unusedSimpArgs false

def stringslite_Cut.f (a0:ByteArray) (a1:ByteArray):Option (ByteArray×ByteArray×Bool):=(stringslite_Index.f a0 a1).bind fun Rj=>(if Rj>=0 then(if 0<=Rj then(if Rj<=(a0.size:Int) then(if 0<=(wrap64 (Rj+(a1.size:Int))) then(if(wrap64 (Rj+(a1.size:Int)))<=(a0.size:Int) then(some (a0.extract 0 (Rj:Int).toNat,a0.extract ((wrap64 (Rj+(a1.size:Int))):Int).toNat a0.size,true)) else(none)) else(none)) else(none)) else(none)) else(some (a0,(⟨#[]⟩:af),false)))
theorem stringslite_Cut.e0 {p:Prop} (h:p:=by
  go_enter Tryz.func128,Tryz.ntmps128
  go_wp2_with((go_at_call 170;(with_reducible refine(stringslite_Index.calls a0 a1 Rj _ A3.out ?hT).mono ?_);(case hT=>exact kG HT);rintro e w' ⟨rfl,⟨nd,rfl⟩⟩;(try first|exact⟨rfl,_,World.drewN_drewN _ _ _⟩|exact⟨rfl,_,Eq.trans (World.drewN_drewN _ _ _) (congrArg (World.drewN _) (Nat.add_assoc _ _ _))⟩)))
  repeat(first|go_quiet (first|(go_at_call 170;(with_reducible refine(stringslite_Index.calls a0 a1 Rj _ A3.out ?hT).mono ?_);(case hT=>exact kG HT);rintro e w' ⟨rfl,⟨nd,rfl⟩⟩;(try first|exact⟨rfl,_,World.drewN_drewN _ _ _⟩|exact⟨rfl,_,Eq.trans (World.drewN_drewN _ _ _) (congrArg (World.drewN _) (Nat.add_assoc _ _ _))⟩)));try go_wp2_with(first|(go_at_call 170;(with_reducible refine(stringslite_Index.calls a0 a1 Rj _ A3.out ?hT).mono ?_);(case hT=>exact kG HT);rintro e w' ⟨rfl,⟨nd,rfl⟩⟩;(try first|exact⟨rfl,_,World.drewN_drewN _ _ _⟩|exact⟨rfl,_,Eq.trans (World.drewN_drewN _ _ _) (congrArg (World.drewN _) (Nat.add_assoc _ _ _))⟩))))
  go_ret3
  first|exact⟨by first|rfl|(simp;done)|(simp only[<- WX] <;> (first|rfl|simp))|(simp[*];done),TP⟩|exact⟨kD,TP⟩):p:=h
theorem stringslite_Cut.calls (a0 a1:ByteArray) (r1 r2:ByteArray) (r3:Bool) (w:World) (h:stringslite_Cut.f a0 a1=some (r1,r2,r3)) (HT0:nN w) :
  Calls Tryz.prog 128 #[.string a0,.string a1] w fun e w'=>e = .returned (.tuple #[.string r1,.string r2,.bool r3])/\bL w w':=by
 have HT:=ae.mk HT0;clear HT0;have H:=ae.mk h;clear h;unfold stringslite_Cut.f at H;obtain⟨Rj,A3,H⟩:=xE H;rcases GM H with⟨-,yE,-,H⟩|⟨-,yE,-,H⟩
 ·obtain⟨-,LW,xW,H⟩:=Ci H;obtain⟨-,M8,xV,H⟩:=Ci H;obtain⟨ji7,WX⟩:∃ j_:Int,(wrap64 (Rj+(a1.size:Int)))=j_:=⟨_,rfl⟩;(first|rw[WX] at H|simp only[WX] at H ⊢)
  (try rw[WX] at A3)
  have awn:(IntKind.i64.wrap (Rj+(a1.size:Int)))=ji7:=(jJ _).trans WX;obtain⟨-,Zy,zS,H⟩:=Ci H;obtain⟨-,aiM,LH,H⟩:=Ci H;simp only[Option.some.injEq,Prod.mk.injEq] at H;obtain⟨rfl,rfl,rfl⟩:=H;exact stringslite_Cut.e0
 ·simp only[Option.some.injEq,Prod.mk.injEq] at H;obtain⟨rfl,rfl,rfl⟩:=H;exact stringslite_Cut.e0
@[reducible,instance] def stringslite_Cut.c:=jM.of 0 Tryz.func128 @stringslite_Cut.calls

def strings_Cut.f (a0:ByteArray) (a1:ByteArray):Option (ByteArray×ByteArray×Bool):=(stringslite_Cut.f a0 a1).bind fun aiN=>(some (aiN.1,aiN.2.1,aiN.2.2))
theorem strings_Cut.calls (a0 a1:ByteArray) (r1 r2:ByteArray) (r3:Bool) (w:World) (h:strings_Cut.f a0 a1=some (r1,r2,r3)) (HT0:nN w) :
  Calls Tryz.prog 86 #[.string a0,.string a1] w fun e w'=>e = .returned (.tuple #[.string r1,.string r2,.bool r3])/\bL w w':=by
 have HT:=ae.mk HT0;clear HT0;unfold strings_Cut.f at h;exact uA
@[reducible,instance] def strings_Cut.c:=jM.of 0 Tryz.func86 @strings_Cut.calls

def stringslite_HasPrefix.f (a0:ByteArray) (a1:ByteArray):Option (Bool):=if(a0.size:Int)>=(a1.size:Int) then(if 0<=(a1.size:Int) then(if(a1.size:Int)<=(a0.size:Int) then(some ((a0.extract 0 ((a1.size:Int):Int).toNat).toList==a1.toList)) else(none)) else(none)) else(some false)
theorem stringslite_HasPrefix.calls (a0 a1:ByteArray) (r:Bool) (w:World) (h:stringslite_HasPrefix.f a0 a1=some r) :
  Calls Tryz.prog 217 #[.string a0,.string a1] w fun e w'=>e = .returned (.bool r)/\bL w w':=by
 unfold stringslite_HasPrefix.f at h;exact uA
@[reducible,instance] def stringslite_HasPrefix.c:=jM.of 0 Tryz.func217 @stringslite_HasPrefix.calls

def strings_HasPrefix.f (a0:ByteArray) (a1:ByteArray):Option (Bool):=(stringslite_HasPrefix.f a0 a1).bind fun aBD=>(some aBD)
theorem strings_HasPrefix.calls (a0 a1:ByteArray) (r:Bool) (w:World) (h:strings_HasPrefix.f a0 a1=some r) :
  Calls Tryz.prog 194 #[.string a0,.string a1] w fun e w'=>e = .returned (.bool r)/\bL w w':=by
 unfold strings_HasPrefix.f at h;exact uA
@[reducible,instance] def strings_HasPrefix.c:=jM.of 0 Tryz.func194 @strings_HasPrefix.calls

def strings_ContainsAny.f (a0:ByteArray) (a1:ByteArray):Option (Bool):=(strings_IndexAny.f a0 a1).bind fun aBE=>(some (decide (aBE>=0)))
theorem strings_ContainsAny.calls (a0 a1:ByteArray) (r:Bool) (w:World) (h:strings_ContainsAny.f a0 a1=some r) :
  Calls Tryz.prog 195 #[.string a0,.string a1] w fun e w'=>e = .returned (.bool r)/\Below w.heap.size w w':=by
 unfold strings_ContainsAny.f at h;exact uA
@[reducible,instance] def strings_ContainsAny.c:=jM.of 0 Tryz.func195 @strings_ContainsAny.calls

-- IMPORT Shelf Derived.Lib.SplitLaws Derived.WalkMore
theorem strings_Split.adT (s:ByteArray) (c:UInt8) (w:World) (hs:s.size<4294967281) :
  Calls Tryz.prog 218 #[.string s,.string ⟨#[c]⟩,.int .i64 0,.int .i64 (-1)] w fun e w'=>e = .returned (.slice (some ⟨w.heap.size,0,none⟩) (Lib.countB s ⟨#[c]⟩+1) (Lib.countB s ⟨#[c]⟩+1))/\w'=w.alloc (.cells ((Lib.splitB ⟨#[c]⟩ 0 (Lib.countB s ⟨#[c]⟩) s).map Value.string).toArray 9):=by
 have hz:((⟨#[c]⟩:af)).size=1:=rfl
 have hle:=Lib.countB_le ⟨#[c]⟩ (by rw[hz];decide) s.size s (Nat.le_refl _)
 have hlen:=Lib.splitB_all ⟨#[c]⟩ (by rw[hz];decide) 0 _ s rfl
 have ct:=Any.strings_genSplit_core ({ Tryz.aeW with }:Lays.n221 Tryz.prog _) eB s ⟨#[c]⟩ 0 (-1) (Lib.countB s ⟨#[c]⟩+1) w hs (by rw[hz];decide) (Nat.zero_le _)
  (fun x cc hx=>(Tryz.strings_Index_one x c _).mono fun e w' ⟨he,hw⟩=>⟨by
   rw[he]
   show _=Ending.returned (Value.int .i64 (Lib.index x.data.toList [c]))
   rw[Lib.index_one],hw⟩)
  ((Tryz.strings_Count_one s c w).mono fun e w' ⟨he,hw⟩=>⟨by
   rw[he]
   show _=Ending.returned (Value.int .i64 ((Lib.count s.data.toList [c]:Nat):Int))
   rw[Lib.count_one];rfl,hw⟩) av av (by rw[if_pos av];omega)
 rw[Nat.add_sub_cancel,hlen] at ct
 have e2:Lib.cellsOf (Lib.splitB ⟨#[c]⟩ 0 (Lib.countB s ⟨#[c]⟩) s) (Lib.countB s ⟨#[c]⟩+1)=((Lib.splitB ⟨#[c]⟩ 0 (Lib.countB s ⟨#[c]⟩) s).map Value.string).toArray:=by
  have:=Lib.cellsOf_full (Lib.splitB ⟨#[c]⟩ 0 (Lib.countB s ⟨#[c]⟩) s)
  rw[hlen] at this
  exact this
 rw[e2] at ct
 exact ct
theorem strings_Split.adU (s:ByteArray) (c:UInt8) (w:World) (hs:s.size<4294967281) :
  Calls Tryz.prog 196 #[.string s,.string ⟨#[c]⟩] w fun e w'=>e = .returned (.slice (some ⟨w.heap.size,0,none⟩) (Lib.countB s ⟨#[c]⟩+1) (Lib.countB s ⟨#[c]⟩+1))/\w'=w.alloc (.cells ((Lib.splitB ⟨#[c]⟩ 0 (Lib.countB s ⟨#[c]⟩) s).map Value.string).toArray 9):=by
 have ct:=strings_Split.adT s c w hs
 go_enter Tryz.func196,Tryz.ntmps196
 go_wp2_with(refine ct.mono ?_;rintro e w' ⟨rfl,hw⟩;rw[hw])
 go_ret
 exact⟨rfl,rfl⟩
def strings_Split.f (a0:ByteArray) (a1:ByteArray):Option (List ByteArray):=match a1.data.toList with
 |[_]=>if a0.size<4294967281 then some (Lib.splitB a1 0 (Lib.countB a0 a1) a0) else none
 |_=>none
theorem strings_Split.calls (a0 a1:ByteArray) (r:List ByteArray) (w:World) (h:strings_Split.f a0 a1=some r) :
  Calls Tryz.prog 196 #[.string a0,.string a1] w fun e w'=>∃ KW:Value,e = .returned (KW)/\Kd.R Kd.string 9 w' w.heap.size (fun _=>True) KW r/\Below w.heap.size w w':=by
 unfold strings_Split.f at h;split at h
 ·rename_i c hc
  have e1:a1=⟨#[c]⟩:=by
   have e2:a1.data = #[c]:=by rw[<- Array.toArray_toList (xs:=a1.data),hc]
   rw[<- e2]
  by_cases hs:a0.size<4294967281
  ·rw[if_pos hs] at h;obtain rfl:=gK h;rw[e1];refine(strings_Split.adU a0 c w hs).mono ?_;rintro e w' ⟨rfl,rfl⟩;have hlen:=Lib.splitB_all ⟨#[c]⟩ (Nat.le_refl 1) 0 _ a0 rfl;refine⟨_,rfl,?_,gL (Below.refl _ _) _⟩;have hle:=Lib.countB_le ⟨#[c]⟩ (Nat.le_refl 1) a0.size a0 (Nat.le_refl _);rw[<- hlen];refine Kd.ag1 ?_ (fun _ _=>trivial);refine⟨by simp[encs],Or.inr ⟨w.heap.size,_,_,rfl,Nat.le_refl _,Jw _ _,Nat.le_refl _,?_,by simp,by rw[Nat.mul_one];simp only[encs];exact List.take_of_length_le (by simp)⟩⟩;have:maxLen=140737488355328∨True:=Or.inr trivial;rw[hlen];unfold maxLen;omega
  ·rw[if_neg hs] at h;cases h
 ·cases h
@[reducible,instance] def strings_Split.c:=jM.of 0 Tryz.func196 @strings_Split.calls

-- IMPORT Shelf
def Cn (l:List ByteArray) (s:ByteArray):ByteArray:=⟨(Go.Lib.join (l.map fun x=>x.data.toList) s.data.toList).toArray⟩
theorem aeX {e:Nat} {w:World} {base:Nat} {ok:Nat->Prop} {A:Option Addr} {n c:Nat} {xs:List ByteArray} (h:Kd.R Kd.string e w base ok (.slice A n c) xs):∀ a,A=some a->a.spot=none:=by
 obtain⟨inner,ho⟩:=Kd.Z9 h
 rcases ho.2 with⟨h1,_⟩|⟨g,cap,cur,h1,_⟩
 ·intro a ha;cases h1;cases ha
 ·intro a ha;cases h1;cases ha;rfl
def strings_Join.f (l0:List ByteArray) (a1:ByteArray):Option ByteArray:=if l0.length<=140737488355328/\(Cn l0 a1).size<=140737488355328 then some (Cn l0 a1) else none
theorem strings_Join.calls (A0:Option Addr) (c0:Nat) (l0:List ByteArray) (a1 r:ByteArray) (w:World) (hr0:Kd.C Kd.string w A0 l0.length l0) (hc0:l0.length<=c0) (h:strings_Join.f l0 a1=some r) (hsp:∀ a,A0=some a->a.spot=none:=by first|exact aeX (ae.out (by assumption))|exact aeX (by assumption)) :
  Calls Tryz.prog 169 #[.slice A0 l0.length c0,.string a1] w fun e w'=>e = .returned (.string r)/\Below w.heap.size w w':=by
 unfold strings_Join.f at h;by_cases hq:l0.length<=140737488355328/\(Cn l0 a1).size<=140737488355328
 case neg=>rw[if_neg hq] at h;cases h
 rw[if_pos hq] at h;obtain rfl:=gK h;cases l0 with
 |nil=>
  refine(Tryz.strings_Join_none A0 c0 a1 w).mono ?_;rintro e w' ⟨rfl,rfl⟩;exact⟨rfl,Below.refl _ _⟩
 |cons x l=>
  obtain⟨ad,hA,hcs⟩:=hr0.2.2 (Nat.succ_pos _);obtain⟨g,o,sp⟩:=ad;obtain rfl:sp=none:=hsp _ hA;subst hA;have hcell:∀(j:Nat) y,(x::l)[j]? = some y->w.cell? ⟨g,o+j,none⟩=some (.string y):=by
   intro j y hj;obtain⟨c,hl,hk,hu⟩:=hcs j y hj;have hk':c = [.string y]:=hk;have h1:=hu 0 (.string y) (by rw[hk'];rfl);have e1:(Addr.add ⟨g,o,none⟩ (j*Kd.string.sz+0))=⟨g,o+j,none⟩:=by
    show Addr.add ⟨g,o,none⟩ (j*1+0)=_
    unfold Addr.add;by_cases h0:j*1+0=0
    ·rw[if_pos h0];congr 1;omega
    ·rw[if_neg h0];congr 1;show o+(j*1+0)=_;omega
   rw[e1] at h1;exact h1
  refine(Tryz.strings_Join g o c0 (x::l) a1 w hcell (World.block_lt_of_cell? w _ (hcell 0 x rfl)) hq.1 hc0 ?_).mono ?_
  ·have:=hq.2
   unfold Cn at this;simpa [ByteArray.size] using this
  ·rintro e w' ⟨rfl,hb⟩;exact⟨rfl,hb⟩
@[reducible,instance] def strings_Join.c:=jM.of 0 Tryz.func169 @strings_Join.calls

def bT.l0 : Nat->List ByteArray->ByteArray->Int->Int->Option (Int)
 |0,_,_,_,_=>none
 |k+1,x0,x1,x7,x8=>if x8<x7 then(if 0<=x8 then(if x8<(x0.length:Int) then(if x1.toList=(ed ByteArray.empty x0 x8).toList then(some x8) else(bT.l0 k x0 x1 x7 (wrap64 (x8+1)))) else(none)) else(none)) else(some (-1))
def bT.f (k:Nat) (l0:List ByteArray) (a1:ByteArray):Option (Int):=bT.l0 k l0 a1 (l0.length:Int) 0
theorem bT.calls (k:Nat) (A0:Option Addr) (c0:Nat) (l0:List ByteArray) (a1:ByteArray) (r:Int) (w:World) (hr0:Kd.C Kd.string w A0 l0.length l0) (hc0:l0.length<=c0) (h:bT.f k l0 a1=some r) :
  Calls Tryz.prog 237 #[.slice A0 l0.length c0,.string a1] w fun e w'=>e = .returned (.int .i64 r)/\bL w w':=by
 have GL:=ae.mk hr0;have GG:=ae.mk hc0;clear hr0 hc0;have H:=ae.mk h;clear h;unfold bT.f at H;go_enter Tryz.func237,Tryz.ntmps237;go_wp2;go_loopg [8] k (fun kq v8 w'=>∃(Vi:Int),v8 = .int .i64 Vi/\ae (bT.l0 kq l0 a1 (l0.length:Int) Vi=some r)/\ae (kq<=k)/\bL w w')
 case atStart=>exact⟨(0),kD,H,⟨Nat.le_refl _⟩,TP⟩
 case round=>
  clear H;obtain⟨Vi,rfl,HA,mh,⟨m1,rfl⟩⟩:=hrel;cases gk with
  |zero=>exact absurd HA.out (by simp[bT.l0])
  |succ k1=>
   have H:=HA;clear HA;simp only[bT.l0] at H;exact uW
@[reducible,instance] def bT.c:=jM.of 0 Tryz.func237 @bT.calls


def fI.f (k:Nat) (l0:List ByteArray) (a1:ByteArray):Option (Bool):=(bT.f k l0 a1).bind fun aBF=>(some (decide (aBF>=0)))
theorem fI.calls (k:Nat) (A0:Option Addr) (c0:Nat) (l0:List ByteArray) (a1:ByteArray) (r:Bool) (w:World) (hr0:Kd.C Kd.string w A0 l0.length l0) (hc0:l0.length<=c0) (h:fI.f k l0 a1=some r) :
  Calls Tryz.prog 222 #[.slice A0 l0.length c0,.string a1] w fun e w'=>e = .returned (.bool r)/\bL w w':=by
 have GL:=ae.mk hr0;have GG:=ae.mk hc0;clear hr0 hc0;unfold fI.f at h;exact uA
@[reducible,instance] def fI.c:=jM.of 0 Tryz.func222 @fI.calls

def stringslite_IndexByte.f (a0:ByteArray) (a1:Int):Option (Int):=some (Lib.indexByte a0.data.toList a1.toNat.toUInt8)
theorem stringslite_IndexByte.calls (a0:ByteArray) (a1 r:Int) (w:World) (h:stringslite_IndexByte.f a0 a1=some r) :
  Calls Tryz.prog 172 #[.string a0,.int .u8 a1] w fun e w'=>e = .returned (.int .i64 r)/\bL w w':=by
 unfold stringslite_IndexByte.f at h;obtain rfl:=gK h;clear h;go_enter Tryz.func172,Tryz.ntmps172;go_wp2;rw[run_callFunc_extern Tryz.func210 eB eB eB (e:=Extern.BytealgIndexByte.indexByte) eB,Lib.run_indexByteString];simp only[Result.andThen];rw[Oper.upon_value];go_wp2;go_ret;exact⟨rfl,bL.refl _⟩
@[reducible,instance] def stringslite_IndexByte.c:=jM.of 0 Tryz.func172 @stringslite_IndexByte.calls

def strings_IndexByte.f (a0:ByteArray) (a1:Int):Option (Int):=(stringslite_IndexByte.f a0 a1).bind fun aBG=>(some aBG)
theorem strings_IndexByte.calls (a0:ByteArray) (a1 r:Int) (w:World) (h:strings_IndexByte.f a0 a1=some r) :
  Calls Tryz.prog 134 #[.string a0,.int .u8 a1] w fun e w'=>e = .returned (.int .i64 r)/\bL w w':=by
 unfold strings_IndexByte.f at h;exact uA
@[reducible,instance] def strings_IndexByte.c:=jM.of 0 Tryz.func134 @strings_IndexByte.calls

def dC.l0 : Nat->List Int->Int->Int->Int->Option (Int)
 |0,_,_,_,_=>none
 |k+1,x0,x1,x7,x8=>if x8<x7 then(if 0<=x8 then(if x8<(x0.length:Int) then(if x1=(rd x0 x8) then(some x8) else(dC.l0 k x0 x1 x7 (wrap64 (x8+1)))) else(none)) else(none)) else(some (-1))
def dC.f (k:Nat) (l0:List Int) (a1:Int):Option (Int):=dC.l0 k l0 a1 (l0.length:Int) 0
theorem dC.calls (k:Nat) (A0:Option Addr) (c0:Nat) (l0:List Int) (a1 r:Int) (w:World) (hr0:Kd.C (Kd.int .i64) w A0 l0.length l0) (hc0:l0.length<=c0) (h:dC.f k l0 a1=some r) :
  Calls Tryz.prog 139 #[.slice A0 l0.length c0,.int .i64 a1] w fun e w'=>e = .returned (.int .i64 r)/\bL w w':=by
 have GL:=ae.mk hr0;have GG:=ae.mk hc0;clear hr0 hc0;have H:=ae.mk h;clear h;unfold dC.f at H;go_enter Tryz.func139,Tryz.ntmps139;go_wp2;go_loopg [8] k (fun kq v8 w'=>∃(Vi:Int),v8 = .int .i64 Vi/\ae (dC.l0 kq l0 a1 (l0.length:Int) Vi=some r)/\ae (kq<=k)/\bL w w')
 case atStart=>exact⟨(0),kD,H,⟨Nat.le_refl _⟩,TP⟩
 case round=>
  clear H;obtain⟨Vi,rfl,HA,mh,⟨m1,rfl⟩⟩:=hrel;cases gk with
  |zero=>exact absurd HA.out (by simp[dC.l0])
  |succ k1=>
   have H:=HA;clear HA;simp only[dC.l0] at H;exact uW
@[reducible,instance] def dC.c:=jM.of 0 Tryz.func139 @dC.calls

def jc.f (k:Nat) (l0:List Int) (a1:Int):Option (Bool):=(dC.f k l0 a1).bind fun aws=>(some (decide (aws>=0)))
theorem jc.calls (k:Nat) (A0:Option Addr) (c0:Nat) (l0:List Int) (a1:Int) (r:Bool) (w:World) (hr0:Kd.C (Kd.int .i64) w A0 l0.length l0) (hc0:l0.length<=c0) (h:jc.f k l0 a1=some r) :
  Calls Tryz.prog 92 #[.slice A0 l0.length c0,.int .i64 a1] w fun e w'=>e = .returned (.bool r)/\bL w w':=by
 have GL:=ae.mk hr0;have GG:=ae.mk hc0;clear hr0 hc0;unfold jc.f at h;exact uA
@[reducible,instance] def jc.c:=jM.of 0 Tryz.func92 @jc.calls

end Go.Proofs.YtfhllanhldbkkaaGreatDoor.P
