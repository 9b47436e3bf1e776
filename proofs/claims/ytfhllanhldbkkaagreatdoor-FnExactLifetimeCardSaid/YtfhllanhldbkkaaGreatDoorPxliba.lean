import Derived.Lib.AppendIntMem
import Derived.Lib.ItoaNum
import Derived.Lib.LaidTab
import Derived.Test.YtfhllanhldbkkaaGreatDoorShelf
import Derived.Test.YtfhllanhldbkkaaGreatDoorPx0
import Derived.Laws.RangeAny
import Derived.Lib.DecodeN
import Derived.Lib.IndexAny
import Derived.Lib.MapLaws
import Derived.Lib.OthersKept
import Derived.WalkMore
import Derived.Lib.SplitLaws
namespace Go.Proofs.YtfhllanhldbkkaaGreatDoor.P
set_option maxHeartbeats 8000000
set_option maxRecDepth 100000
open Go.RowKit Go.Proofs.YtfhllanhldbkkaaGreatDoorW.bf Go.Proofs.YtfhllanhldbkkaaGreatDoorW.iK Go.Proofs.YtfhllanhldbkkaaGreatDoorW.kG
attribute [local go_sem] rE rF uF uG pE pF rG rH   -- for this text's walks alone
set_option linter.unusedVariables false
set_option linter.unusedSimpArgs false

-- IMPORT Shelf Derived.Lib.LaidTab Derived.Lib.ItoaNum Derived.Lib.AppendIntMem
def mX (w : World) : Prop := (∃ m : Int, w.cell? ⟨0, 0, none⟩ = some (.int .i64 m)) /\ Lib.TabIs Tryz.prog w "internal/strconv.uint64pow10" .u64 Lib.pow10Tab /\ (∃ te pe, w.cell? ⟨2, 0, none⟩ = some (.iface te pe)) /\ ∃ te pe, w.cell? ⟨3, 0, none⟩ = some (.iface te pe)
theorem aee {w w':World} (h:mX w) (hb:Below w.heap.size w w'):mX w':=by
 obtain⟨⟨m0,h0⟩,h1,⟨t1,p1,h2⟩,t2,p2,h3⟩:=h
 refine⟨⟨m0,(hb.cell (World.block_lt_of_cell? w _ h0)).trans h0⟩,?_,⟨t1,p1,(hb.cell (World.block_lt_of_cell? w _ h2)).trans h2⟩,t2,p2,(hb.cell (World.block_lt_of_cell? w _ h3)).trans h3⟩
 unfold Lib.TabIs World.var? at *
 cases hg : Tryz.prog.globalNamed "internal/strconv.uint64pow10" with
 |none=>rw[hg] at h1;cases h1
 |some g=>
  rw[hg] at h1
  rw[ax] at h1 ⊢
  cases hh:w.heap[g]? with
  |none=>rw[hh] at h1;cases h1
  |some o=>rw[hb.block g (vG hh)];exact h1
theorem dV {w W:World} (h:aa (mX w)) (hb:Below w.heap.size w W:=by first|(with_reducible exact Below.refl _ _)|(repeat(first|(with_reducible first|exact HB.out|apply jA|apply sI|apply bE|refine mQ ?_ (aa.out (by assumption)))|exact HB.out))):mX W:=aee h.out hb
def jg (n:Int):ByteArray:=⟨(Lib.itoa n).toArray⟩
def fT.f (a0:Int):Option (ByteArray):=if -9223372036854775808<=a0/\a0<=9223372036854775807 then some (jg a0) else none
theorem fT.calls (a0:Int) (r1:ByteArray) (w:World) (h:fT.f a0=some r1) (HT0:mX w) :
  Calls Tryz.prog 111 #[.int .i64 a0] w fun e w'=>e = .returned (.string r1)/\Below w.heap.size w w':=by
 unfold fT.f at h;by_cases hn:-9223372036854775808<=a0/\a0<=9223372036854775807
 ·rw[if_pos hn] at h;cases h
  refine(Tryz.strconv_Itoa a0 hn.1 hn.2 _ HT0.2.1).mono ?_;rintro e w6 ⟨rfl,k,os,rfl⟩;exact⟨rfl,Lib.below_grow _ _ (Nat.le_refl _) k os⟩
 ·rw[if_neg hn] at h;cases h

-- IMPORT Shelf
def stringslite_Index.f (a0:ByteArray) (a1:ByteArray):Option (Int):=match a1.data.toList with
 |[c]=>some (Lib.indexByte a0.data.toList c)
 |[a,b,c]=>if a0.size<4294967281 then some (Lib.index a0.data.toList [a,b,c]) else none
 |_=>none
theorem stringslite_Index.calls (a0 a1:ByteArray) (r:Int) (w:World) (h:stringslite_Index.f a0 a1=some r) (HT0:mX w) :
  Calls Tryz.prog 170 #[.string a0,.string a1] w fun e w'=>e = .returned (.int .i64 r)/\bH w w':=by
 unfold stringslite_Index.f at h;split at h
 ·rename_i c hc
  obtain rfl:=aI h;have e1:a1=⟨#[c]⟩:=by
   have e2:a1.data = #[c]:=by rw[<- Array.toArray_toList (xs:=a1.data),hc]
   rw[<- e2]
  rw[e1];refine(Tryz.stringslite_Index_one a0 c w).mono ?_;rintro e w' ⟨rfl,rfl⟩;exact⟨rfl,bH.refl _⟩
 ·rename_i a b c hc
  by_cases hs:a0.size<4294967281
  ·rw[if_pos hs] at h;obtain rfl:=aI h;obtain⟨m,hm⟩:=HT0.1;refine(Tryz.stringslite_Index a0 a1 m w hs hm).mono ?_;rintro e w' ⟨rfl,rfl⟩;rw[hc];exact⟨rfl,bH.refl _⟩
  ·rw[if_neg hs] at h;cases h
 ·cases h

def strings_Index.f (a0:ByteArray) (a1:ByteArray):Option (Int):=(stringslite_Index.f a0 a1).bind fun aqW=>(some aqW)
theorem strings_Index.calls (a0 a1:ByteArray) (r:Int) (w:World) (h:strings_Index.f a0 a1=some r) (HT0:mX w) :
  Calls Tryz.prog 187 #[.string a0,.string a1] w fun e w'=>e = .returned (.int .i64 r)/\bH w w':=by
 have HT:=aa.mk HT0;clear HT0;have H:=aa.mk h;clear h;unfold strings_Index.f at H;obtain⟨aqW,A3,H⟩:=nP H;obtain rfl:=aI H.out;go_enter Tryz.func187,Tryz.ntmps187;go_wp2_with(((with_reducible refine cZ 170 rfl ?_);refine mM 7 rfl Tryz.func170 (stringslite_Index.calls a0 a1 aqW _ A3.out (dV HT)) fun nd=>?_));go_ret;exact⟨bR,iL⟩

def strings_Contains.f (a0:ByteArray) (a1:ByteArray):Option (Bool):=(strings_Index.f a0 a1).bind fun aqX=>(some (decide (aqX>=0)))
theorem strings_Contains.calls (a0 a1:ByteArray) (r:Bool) (w:World) (h:strings_Contains.f a0 a1=some r) (HT0:mX w) :
  Calls Tryz.prog 148 #[.string a0,.string a1] w fun e w'=>e = .returned (.bool r)/\bH w w':=by
 have HT:=aa.mk HT0;clear HT0;have H:=aa.mk h;clear h;unfold strings_Contains.f at H;obtain⟨aqX,A3,H⟩:=nP H;obtain rfl:=aI H.out;go_enter Tryz.func148,Tryz.ntmps148;go_wp2_with(((with_reducible refine cZ 187 rfl ?_);refine mM 7 rfl Tryz.func187 (strings_Index.calls a0 a1 aqX _ A3.out (dV HT)) fun nd=>?_));go_ret;exact⟨bR,iL⟩


-- IMPORT Shelf Derived.Lib.OthersKept Derived.Lib.MapLaws Derived.Lib.DecodeN Derived.Lib.IndexAny Derived.Laws.RangeAny Derived.WalkMore
def strings_IndexAny.auW : Bool×List (List Nat×List Nat):=(true,[([],[]),([],[]),([0,1],[0,1]),([],[]),([],[]),([3,4],[3,4]),([2,5],[2,5])])
def strings_IndexAny.azN : List Nat:=[0,0,3,0,0,24,63]
def strings_IndexAny.auX : Bool×List (List Nat×List Nat):=(true,[([],[]),([],[]),([1],[1]),([0,2],[0,2]),([],[]),([],[]),([4,5],[4,5]),([3,6],[3,6]),([7,7,0,1,2,3,4,5,6,7],[7])])
def strings_IndexAny.azO : List Nat:=[0,0,2,7,0,0,48,127,255]
theorem strings_IndexAny.akB : nL .any (opsOf Tryz.f188 6)=strings_IndexAny.auW:=by kernel_rfl
theorem strings_IndexAny.ag6 : jf strings_IndexAny.auW.2 strings_IndexAny.azN=true:=by kernel_rfl
theorem strings_IndexAny.akC : nL .any (opsOf Tryz.f188 7)=strings_IndexAny.auX:=by kernel_rfl
theorem strings_IndexAny.ag7 : jf strings_IndexAny.auX.2 strings_IndexAny.azO=true:=by kernel_rfl
theorem strings_IndexAny.GR (w:World) (s:ByteArray) (p:Nat):Below w.heap.size w (w.iter s p):=by
 unfold World.iter
 exact jA (Below.refl _ _) _
theorem strings_IndexAny.aef (r:Int) (w:World) (h0:128<=r) (h1:r<=2147483647) :
  Calls Tryz.prog 188 #[.string ⟨#[13,10]⟩,.int .i32 r] w fun e w'=>e = .returned (.int .i64 (-1))/\Below w.heap.size w w':=by
 have c0:decide (0<=r)=true:=bK ae
 have c1:decide (r<128)=false:=bQ ae
 by_cases hb:r=65533
 ·subst hb
  go_enter Tryz.func188,Tryz.ntmps188
  go_wp2_with fail
  go_loopg [5,6] 2 (fun g _ _ wx=>∃ i:Nat,i+g=2/\wx=w.iter (⟨#[13,10]⟩:af) i)
  case atStart=>exact⟨0,rfl,rfl⟩
  case round=>
   obtain⟨i,hig,rfl⟩:=hrel
   cases gk with
   |zero=>
    obtain rfl:i=2:=by omega
    have hnx:=run_next_end (P:=Tryz.prog) w (⟨#[13,10]⟩:af) 2
    have hz:((⟨#[13,10]⟩:af)).size=2:=rfl
    go_wp2
    go_ret
    exact⟨rfl,strings_IndexAny.GR w _ _⟩
   |succ g=>
    have hi:i<(⟨#[13,10]⟩:af).size:=by show i<2;omega
    have hx:∀ j:Nat,(hj:j<(⟨#[13,10]⟩:af).size)->((⟨#[13,10]⟩:af)[j]'hj).toNat<128:=by decide
    have hnx:=fun ty=>run_next_ascii (P:=Tryz.prog) w (⟨#[13,10]⟩:af) i ty hi (hx i hi)
    have hne:(((((⟨#[13,10]⟩:af)[i]'hi).toNat:Nat):Int)==65533)=false:=beq_eq_false_iff_ne.mpr (by have:=hx i hi;omega)
    generalize((⟨#[13,10]⟩:af)[i]'hi).toNat=xv at hnx hne
    go_wp2
    go_roundg g
    case measure=>omega
    case rel=>exact⟨i+1,by omega,rfl⟩
 ·have c2:(r==65533)=false:=beq_eq_false_iff_ne.mpr hb
  go_enter Tryz.func188,Tryz.ntmps188
  go_wp2_with fail
  refine(Tryz.utf8_ValidRune r w).mono ?_
  rintro e w2 ⟨rfl,rfl⟩
  dsimp only
  by_cases hv:Lib.validRune r=true
  ·rw[hv]
   go_wp2_with fail
   go_step3
   go_wp2
   have hF:=encode_facts r (by unfold Utf8.valid;unfold Lib.validRune at hv;simp at hv ⊢;omega) h0
   generalize Utf8.encode r=E at hF ⊢
   obtain⟨hF1,hF2,hF3⟩:=hF
   have hL:wrap64 ((E.size:Int)-1)=((E.size-1:Nat):Int):=by unfold wrap64;omega
   rw[hL]
   go_loopg [9,10] 1 (fun g v9 v10 wx=>v9 = .int .i64 ((E.size-1:Nat):Int)/\wx=w2)
   case atStart=>exact⟨rfl,rfl⟩
   case round=>
    obtain⟨rfl,rfl⟩:=hrel
    by_cases h2:E.size=2
    ·have e1:E.size-1=1:=by omega
     have hb:∀ h:1<E.size,128<=(E[1]'h).toNat:=by
      intro h
      have:=hF3 ae
      simp only[e1] at this
      exact this
     have hz:((⟨#[13,10]⟩:af)).size=2:=rfl
     have hE:=bO E 1
     have hb2:128<=bt E 1:=by
      have h9:1<E.size:=by omega
      have:=hE h9
      have h8:=hb h9
      have h7:((1:Int)).toNat=1:=rfl
      simp only[h7] at this
      omega
     have h9:1<E.size:=by omega
     have hne:(((((⟨#[13,10]⟩:af)[1]'(by decide)).toNat:Nat):Int) != (((E[1]'h9).toNat:Nat):Int))=true:=by
      have h8:=hb h9
      have h7:((⟨#[13,10]⟩:af)[1]'(by decide)).toNat=10:=by decide
      rw[h7]
      exact bne_iff_ne.mpr ae
     have hw2:wrap64 2=2:=by unfold wrap64;omega
     have hs2:((⟨#[13,10]⟩:af).extract 2 2).data.toList = []:=by decide
     have q1:((1:Int)<(E.size:Int))=True:=eq_true ae
     have q1n:(1<E.size)=True:=eq_true ae
     go_wp2_with fail
     go_step3
     go_wp2_with fail
     refine Ce (n:=7) (S:=fun w'=>True) (ds:=[]) #[false,false,false,false,false,false,false] dK rfl rfl trivial (fun hHeld=>?_);refine dw strings_IndexAny.akB strings_IndexAny.ag6 (fun HT_ HW_=>?_)
     refine bq 0 (some 27) ?_
     refine bq 1 (some 28) ?_
     refine bq 2 (some 29) ?_
     refine bq 3 (some 30) ?_
     refine bq 4 (some 31) ?_
     refine bq 5 (some 32) ?_
     refine bq 6 (some 33) ?_
     refine kI (fP HT_.out dK) ?_
     clear HT_ HW_
     go_wp2_with fail
     refine Ce (n:=9) (S:=fun w'=>True) (ds:=[]) #[false,false,false,false,false,false,false,false,false] dK rfl rfl trivial (fun hHeld=>?_);refine dw strings_IndexAny.akC strings_IndexAny.ag7 (fun HT_ HW_=>?_)
     refine bq 0 (some 34) ?_
     refine bq 1 (some 35) ?_
     refine bq 2 (some 36) ?_
     refine bq 3 (some 37) ?_
     refine bq 4 (some 38) ?_
     refine bq 5 (some 39) ?_
     refine bq 6 (some 40) ?_
     refine Fh (i:=7) (N:=some 41) #[true,true,true,true,true,true,true,true,false] rfl rfl (vJ HT_.out dK) aA (fun K hK=>?_)
     refine jZ Tryz.func134 dK rfl #[.string ((⟨#[13,10]⟩:af).extract 2 2),.int .u8 (((E[1]'h9).toNat:Nat):Int)] (by rfl) rfl rfl JX ?_
     refine(Tryz.strings_IndexByte _ _ _).mono ?_
     rintro e w5 ⟨rfl,rfl⟩
     refine⟨_,rfl,?_⟩
     rw[hs2]
     refine hK.out _ _ trivial (fun hHeld=>?_)
     clear hK K
     refine zk (some 41) ?_
     refine bq 8 (some 11) ?_
     refine kI (fP HT_.out dK) ?_
     clear HT_ HW_
     have hneg:decide (Lib.indexByte [] (((E[1]'h9).toNat:Nat):Int).toNat.toUInt8<0)=true:=rfl
     go_wp2
     simp only[Exit.noGoto_ret,Exit.noGoto,Exit.inBlock,Exit.then]
     go_ret
     exact⟨rfl,by repeat(first|exact Below.refl _ _|apply bE)⟩
    ·have c3:decide (((E.size-1:Nat):Int)<2)=false:=bQ ae
     go_wp2
     rw[Exit.noGoto_ret]
     simp only[Exit.noGoto_ret,Exit.noGoto,Exit.inBlock,Exit.then]
     go_ret
     exact⟨rfl,Below.refl _ _⟩
  ·rw[show Lib.validRune r=false by simpa using hv]
   go_wp2
   go_ret
   exact⟨rfl,Below.refl _ _⟩

theorem strings_IndexAny.Ja (s:ByteArray) (j:Nat) (hj:j<s.size):s.data.toList[j]? = some (s.get! j):=by
 rw[Lib.data_getElem? s j hj]
 congr 1
 unfold ByteArray.get!
 exact(getElem!_pos s.data j hj).symm
theorem strings_IndexAny.ag8 (s:ByteArray) (i:Nat) (hi:i<s.size) (h:128<=(s.get! i).toNat):i+(Utf8.decode s i).2<=s.size/\1<=(Utf8.decode s i).2/\∀ j,i<=j->j<i+(Utf8.decode s i).2->128<=(s.get! j).toNat:=by
 rw[Lib.decode_at]
 rcases Lib.decodeN_shape (s.size-i) (s.get! i).toNat (s.get! (i+1)).toNat (s.get! (i+2)).toNat (s.get! (i+3)).toNat with⟨a,_⟩|⟨a1,a2,a3,_,e⟩|⟨a1,a2,a3,a4,_,_,e⟩|⟨a1,a2,a3,a4,a5,_,_,e⟩|e
 ·omega
 ·rw[e]
  refine⟨by show i+2<=s.size;omega,by show 1<=2;omega,fun j h1 h2=>?_⟩
  have h2:j<i+2:=h2
  obtain rfl|rfl:j=i∨j=i+1:=by omega
  ·exact h
  ·omega
 ·rw[e]
  refine⟨by show i+3<=s.size;omega,by show 1<=3;omega,fun j h1 h2=>?_⟩
  have h2:j<i+3:=h2
  obtain rfl|rfl|rfl:j=i∨j=i+1∨j=i+2:=by omega
  ·exact h
  ·omega
  ·omega
 ·rw[e]
  refine⟨by show i+4<=s.size;omega,by show 1<=4;omega,fun j h1 h2=>?_⟩
  have h2:j<i+4:=h2
  obtain rfl|rfl|rfl|rfl:j=i∨j=i+1∨j=i+2∨j=i+3:=by omega
  ·exact h
  ·omega
  ·omega
  ·omega
 ·rw[e]
  refine⟨by show i+1<=s.size;omega,by show 1<=1;omega,fun j h1 h2=>?_⟩
  have h2:j<i+1:=h2
  obtain rfl:j=i:=by omega
  exact h
theorem strings_IndexAny.akD {s:ByteArray} {i n:Nat} (hn:Lib.NoAny s.data.toList [13,10] i) (hs:i+n<=s.size) (h:∀ j,i<=j->j<i+n->128<=(s.get! j).toNat):Lib.NoAny s.data.toList [13,10] (i+n):=by
 intro j b hj hb
 by_cases q:j<i
 ·exact hn j b q hb
 ·have h1:=h j ae hj
  rw[strings_IndexAny.Ja s j ae] at hb
  obtain rfl:=aI hb
  have e1:(s.get! j)≠13:=fun e=>by rw[e] at h1;exact absurd h1 aA
  have e2:(s.get! j)≠10:=fun e=>by rw[e] at h1;exact absurd h1 aA
  simp[e1,e2]
theorem strings_IndexAny.aeg (s:ByteArray) (w:World) (h8:s.size<=8) :
  Calls Tryz.prog 149 #[.string s,.string ⟨#[13,10]⟩] w fun e w'=>e = .returned (.int .i64 (Lib.indexAny s.data.toList [13,10]))/\Below w.heap.size w w':=by
 have h8z:decide ((8:Int)<(s.size:Int))=false:=bQ ae
 have HB:=aa.mk (Below.refl w.heap.size w)
 go_enter Tryz.func149,Tryz.ntmps149
 go_wp2_with fail
 refine(Tryz.strings_shouldUseASCIISet _ _).mono ?_
 rintro e w2 ⟨rfl,hw⟩
 subst hw
 dsimp only
 rw[h8z]
 go_wp2_with fail
 go_loopg [9,10] s.size (fun g _ _ wx=>∃ i:Nat,i+g<=s.size/\i<=s.size/\s.size<=i+g/\wx.heap[w2.heap.size]? = some (.stringIter s i)/\Below w2.heap.size w2 wx/\Lib.NoAny s.data.toList [13,10] i)
 case atStart=>exact⟨0,by omega,by omega,by omega,World.iter_heap _ _ _,strings_IndexAny.GR _ _ _,Lib.NoAny.zero _ _⟩
 case round=>
  obtain⟨i,hig,hle,hge,hk,hbl,hno⟩:=hrel
  have HN:=aa.mk hno
  have HK:=aa.mk hk
  have HW:=aa.mk hbl
  clear hno hbl
  by_cases hi:i<s.size
  case neg=>
   obtain rfl:i=s.size:=by omega
   have hnx:=fun ty=>Lib.run_next_end_at (P:=Tryz.prog) wr w2.heap.size s s.size ty hk hi
   clear hk
   go_wp2
   go_ret
   exact⟨by rw[Lib.indexAny_none (by have:=HN.out;rw[<- Lib.size_eq];exact this)];rfl,HW.out⟩
  case pos=>
   have hnx:=fun ty=>Lib.run_next_any_at (P:=Tryz.prog) wr w2.heap.size s i ty hk hi
   have hxl:=strings_IndexAny.Ja s i hi
   have hgb:=s.get! i |>.toNat_lt
   clear hk
   obtain⟨g,rfl⟩:∃ g,gk=g+1:=⟨gk-1,by omega⟩
   have hcon:=Lib.contains_iff_indexByte [13,10] (s.get! i)
   by_cases ha:(s.get! i).toNat<128
   ·have hd:Utf8.decode s i=((s.get! i).toNat,1):=by
     have hh:(s[i]'hi)=s.get! i:=by
      have:=Lib.data_getElem? s i hi
      rw[hxl] at this
      exact(aI this).symm
     rw[decode_ascii s i hi (by rw[hh];exact ha),hh]
    rw[hd] at hnx
    dsimp only at hnx
    have hback:((((s.get! i).toNat:Nat):Int)).toNat.toUInt8=s.get! i:=by simp
    have HXL:=aa.mk hxl
    clear hxl
    cases hin:([13,10]:aQ).contains (s.get! i) with
    |false=>
     rw[hin] at hcon
     have hlt:decide ((0:Int)<=Lib.indexByte [13,10] (s.get! i))=false:=hcon.symm
     clear hcon
     go_wp2_with fail
     refine(Tryz.strings_IndexRune_ascii _ _ _ ae ae).mono ?_
     rintro e w5 ⟨rfl,rfl⟩
     dsimp only
     rw[hback]
     go_wp2
     go_roundg g
     case measure=>omega
     case rel=>exact⟨i+1,by omega,by omega,by omega,Lib.iterAt_heap _ _ _ _ _ HK.out,Lib.below_iterAt HW.out (Nat.le_refl _) _ _,HN.out.succ HXL.out hin⟩
    |true=>
     rw[hin] at hcon
     have hlt:decide ((0:Int)<=Lib.indexByte [13,10] (s.get! i))=true:=hcon.symm
     clear hcon
     go_wp2_with fail
     refine(Tryz.strings_IndexRune_ascii _ _ _ ae ae).mono ?_
     rintro e w5 ⟨rfl,rfl⟩
     dsimp only
     rw[hback]
     go_wp2
     go_ret
     exact⟨by rw[Lib.indexAny_hit HN.out HXL.out hin];rfl,Lib.below_iterAt HW.out (Nat.le_refl _) _ _⟩
   ·obtain⟨r1,r2,r3⟩:=strings_IndexAny.ag8 s i hi ae
    have hr:=decode_high s i hi (by
     have hh:(s[i]'hi)=s.get! i:=by
      have:=Lib.data_getElem? s i hi
      rw[hxl] at this
      exact(aI this).symm
     rw[hh];omega)
    have hrl:=decode_le s i
    have aqY:=strings_IndexAny.akD HN.out r1 r3
    have HN2:=aa.mk aqY
    generalize(Utf8.decode s i).1=rv at hnx hr hrl
    generalize(Utf8.decode s i).2=wd at hnx hr r1 r2 r3 aqY HN2
    clear hcon hxl r3 aqY
    go_wp2_with fail
    refine(strings_IndexAny.aef _ _ ae ae).mono ?_
    rintro e w5 ⟨rfl,hb5⟩
    dsimp only
    have hk5:=(hb5.block w2.heap.size (by rw[Lib.iterAt_size];exact vG HK.out)).trans (Lib.iterAt_heap wr w2.heap.size s i (i+wd) HK.out)
    have hb6:=NA (Lib.below_iterAt HW.out (Nat.le_refl _) s (i+wd)) (by rw[Lib.iterAt_size];exact HW.out.size) hb5
    clear hb5
    have HK5:=aa.mk hk5
    have HB6:=aa.mk hb6
    clear hk5 hb6
    go_wp2
    go_roundg (s.size-(i+wd))
    case measure=>omega
    case rel=>exact⟨i+wd,by omega,by omega,by omega,HK5.out,HB6.out,HN2.out⟩
theorem strings_IndexAny.akE (s:ByteArray) (c d:UInt8) (w:World) (h8:s.size<=8) (hA:∀ i,i<s.size->(s.get! i).toNat<128) :
  Calls Tryz.prog 149 #[.string s,.string ⟨#[c,d]⟩] w fun e w'=>e = .returned (.int .i64 (Lib.indexAny s.data.toList [c,d]))/\Below w.heap.size w w':=by
 have h8z:decide ((8:Int)<(s.size:Int))=false:=bQ ae
 have HB:=aa.mk (Below.refl w.heap.size w)
 have HA:=aa.mk hA
 clear hA
 go_enter Tryz.func149,Tryz.ntmps149
 go_wp2_with fail
 refine(Tryz.strings_shouldUseASCIISet _ _).mono ?_
 rintro e w2 ⟨rfl,hw⟩
 subst hw
 dsimp only
 rw[h8z]
 go_wp2_with fail
 go_loopg [9,10] s.size (fun g _ _ wx=>∃ i:Nat,i+g<=s.size/\i<=s.size/\s.size<=i+g/\wx.heap[w2.heap.size]? = some (.stringIter s i)/\Below w2.heap.size w2 wx/\Lib.NoAny s.data.toList [c,d] i)
 case atStart=>exact⟨0,by omega,by omega,by omega,World.iter_heap _ _ _,strings_IndexAny.GR _ _ _,Lib.NoAny.zero _ _⟩
 case round=>
  obtain⟨i,hig,hle,hge,hk,hbl,hno⟩:=hrel
  have HN:=aa.mk hno
  have HK:=aa.mk hk
  have HW:=aa.mk hbl
  clear hno hbl
  by_cases hi:i<s.size
  case neg=>
   obtain rfl:i=s.size:=by omega
   have hnx:=fun ty=>Lib.run_next_end_at (P:=Tryz.prog) wr w2.heap.size s s.size ty hk hi
   clear hk
   go_wp2
   go_ret
   exact⟨by rw[Lib.indexAny_none (by have:=HN.out;rw[<- Lib.size_eq];exact this)];rfl,HW.out⟩
  case pos=>
   have hnx:=fun ty=>Lib.run_next_any_at (P:=Tryz.prog) wr w2.heap.size s i ty hk hi
   have hxl:=strings_IndexAny.Ja s i hi
   have hgb:=s.get! i |>.toNat_lt
   clear hk
   obtain⟨g,rfl⟩:∃ g,gk=g+1:=⟨gk-1,by omega⟩
   have hcon:=Lib.contains_iff_indexByte [c,d] (s.get! i)
   have ha:(s.get! i).toNat<128:=HA.out i hi
   have hd:Utf8.decode s i=((s.get! i).toNat,1):=by
    have hh:(s[i]'hi)=s.get! i:=by
     have:=Lib.data_getElem? s i hi
     rw[hxl] at this
     exact(aI this).symm
    rw[decode_ascii s i hi (by rw[hh];exact ha),hh]
   rw[hd] at hnx
   dsimp only at hnx
   have hback:((((s.get! i).toNat:Nat):Int)).toNat.toUInt8=s.get! i:=by simp
   have HXL:=aa.mk hxl
   clear hxl
   cases hin:([c,d]:aQ).contains (s.get! i) with
   |false=>
    rw[hin] at hcon
    have hlt:decide ((0:Int)<=Lib.indexByte [c,d] (s.get! i))=false:=hcon.symm
    clear hcon
    go_wp2_with fail
    refine(Tryz.strings_IndexRune_ascii _ _ _ ae ae).mono ?_
    rintro e w5 ⟨rfl,rfl⟩
    dsimp only
    rw[hback]
    go_wp2
    go_roundg g
    case measure=>omega
    case rel=>exact⟨i+1,by omega,by omega,by omega,Lib.iterAt_heap _ _ _ _ _ HK.out,Lib.below_iterAt HW.out (Nat.le_refl _) _ _,HN.out.succ HXL.out hin⟩
   |true=>
    rw[hin] at hcon
    have hlt:decide ((0:Int)<=Lib.indexByte [c,d] (s.get! i))=true:=hcon.symm
    clear hcon
    go_wp2_with fail
    refine(Tryz.strings_IndexRune_ascii _ _ _ ae ae).mono ?_
    rintro e w5 ⟨rfl,rfl⟩
    dsimp only
    rw[hback]
    go_wp2
    go_ret
    exact⟨by rw[Lib.indexAny_hit HN.out HXL.out hin];rfl,Lib.below_iterAt HW.out (Nat.le_refl _) _ _⟩
def strings_IndexAny.f (a0:ByteArray) (a1:ByteArray):Option (Int):=if a1.data.toList = [13,10]/\a0.size<4294967281 then some (Lib.indexAny a0.data.toList [13,10])
 else if(a1.data.toList = [47,63]∨a1.data.toList = [35,63])/\a0.data.toList.all (fun b=>decide (b.toNat<128))=true/\a0.size<4294967281 then some (Lib.indexAny a0.data.toList a1.data.toList) else none
theorem strings_IndexAny.calls (a0 a1:ByteArray) (r:Int) (w:World) (h:strings_IndexAny.f a0 a1=some r) :
  Calls Tryz.prog 149 #[.string a0,.string a1] w fun e w'=>e = .returned (.int .i64 r)/\Below w.heap.size w w':=by
 unfold strings_IndexAny.f at h;by_cases hc:a1.data.toList = [13,10]/\a0.size<4294967281
 ·rw[if_pos hc] at h;obtain rfl:=aI h;have e1:a1=⟨#[13,10]⟩:=by
   have e2:a1.data = #[13,10]:=by rw[<- Array.toArray_toList (xs:=a1.data),hc.1]
   rw[<- e2]
  rw[e1];by_cases h8:a0.size<=8
  ·exact strings_IndexAny.aeg a0 w h8
  ·refine(Tryz.strings_IndexAny_long (fun w=>(zero_of_info (n:=256) dK).1 w) a0 ⟨#[13,10]⟩ w (Nat.le_refl 2) ae hc.2 (by show 2<4294967281;omega) (fun j b hb=>?_)).mono ?_
   ·match j,hb with
    |0,hb=>obtain rfl:=aI hb;decide
    |1,hb=>obtain rfl:=aI hb;decide
    |j+2,hb=>exact absurd hb (by simp)
   ·rintro e w' ⟨rfl,rfl⟩;exact⟨rfl,jA (jA (Below.refl _ _) _) _⟩
 ·rw[if_neg hc] at h;by_cases hd:(a1.data.toList = [47,63]∨a1.data.toList = [35,63])/\a0.data.toList.all (fun b=>decide (b.toNat<128))=true/\a0.size<4294967281
  ·rw[if_pos hd] at h;obtain rfl:=aI h;obtain⟨x,y,hx,hy,e0⟩:∃ x y:UInt8,x.toNat<128/\y.toNat<128/\a1.data.toList = [x,y]:=by
    rcases hd.1 with e|e
    ·exact⟨47,63,by decide,by decide,e⟩
    ·exact⟨35,63,by decide,by decide,e⟩
   have e1:a1=⟨#[x,y]⟩:=by
    have e2:a1.data = #[x,y]:=by rw[<- Array.toArray_toList (xs:=a1.data),e0]
    rw[<- e2]
   have hA:∀ i,i<a0.size->(a0.get! i).toNat<128:=fun i hi=>by
    have h1:=List.all_eq_true.mp hd.2.1 (a0.get! i) (List.mem_of_getElem? (strings_IndexAny.Ja a0 i hi));exact ay h1
   rw[e0,e1];by_cases h8:a0.size<=8
   ·exact strings_IndexAny.akE a0 x y w h8 hA
   ·refine(Tryz.strings_IndexAny_long (fun w=>(zero_of_info (n:=256) dK).1 w) a0 ⟨#[x,y]⟩ w (Nat.le_refl 2) ae hd.2.2 (by show 2<4294967281;omega) (fun j b hb=>?_)).mono ?_
    ·match j,hb with
     |0,hb=>obtain rfl:=aI hb;exact hx
     |1,hb=>obtain rfl:=aI hb;exact hy
     |j+2,hb=>exact absurd hb (by simp)
    ·rintro e w' ⟨rfl,rfl⟩;exact⟨rfl,jA (jA (Below.refl _ _) _) _⟩
  ·rw[if_neg hd] at h;cases h


def stringslite_Cut.f (a0:ByteArray) (a1:ByteArray):Option (ByteArray×ByteArray×Bool):=(stringslite_Index.f a0 a1).bind fun Kl=>(if Kl>=0 then(if 0<=Kl then(if Kl<=(a0.size:Int) then(if 0<=(wrap64 (Kl+(a1.size:Int))) then(if(wrap64 (Kl+(a1.size:Int)))<=(a0.size:Int) then(some (a0.extract 0 (Kl:Int).toNat,a0.extract ((wrap64 (Kl+(a1.size:Int))):Int).toNat a0.size,true)) else(none)) else(none)) else(none)) else(none)) else(some (a0,(⟨#[]⟩:af),false)))
theorem stringslite_Cut.e0 {p:Prop} (h:p:=by
  go_enter Tryz.func128,Tryz.ntmps128
  go_wp2_with((go_at_call 170;(with_reducible refine(stringslite_Index.calls a0 a1 Kl _ A3.out ?hT).mono ?_);(case hT=>exact dV HT);rintro e w' ⟨rfl,⟨nd,rfl⟩⟩;(try first|exact⟨rfl,_,World.drewN_drewN _ _ _⟩|exact⟨rfl,_,Eq.trans (World.drewN_drewN _ _ _) (congrArg (World.drewN _) (Nat.add_assoc _ _ _))⟩)))
  repeat(first|go_quiet (first|(go_at_call 170;(with_reducible refine(stringslite_Index.calls a0 a1 Kl _ A3.out ?hT).mono ?_);(case hT=>exact dV HT);rintro e w' ⟨rfl,⟨nd,rfl⟩⟩;(try first|exact⟨rfl,_,World.drewN_drewN _ _ _⟩|exact⟨rfl,_,Eq.trans (World.drewN_drewN _ _ _) (congrArg (World.drewN _) (Nat.add_assoc _ _ _))⟩)));try go_wp2_with(first|(go_at_call 170;(with_reducible refine(stringslite_Index.calls a0 a1 Kl _ A3.out ?hT).mono ?_);(case hT=>exact dV HT);rintro e w' ⟨rfl,⟨nd,rfl⟩⟩;(try first|exact⟨rfl,_,World.drewN_drewN _ _ _⟩|exact⟨rfl,_,Eq.trans (World.drewN_drewN _ _ _) (congrArg (World.drewN _) (Nat.add_assoc _ _ _))⟩))))
  go_ret3
  first|exact⟨by first|rfl|(simp;done)|(simp only[<- Eg] <;> (first|rfl|simp))|(simp[*];done),iL⟩|exact⟨bR,iL⟩):p:=h
theorem stringslite_Cut.calls (a0 a1:ByteArray) (r1 r2:ByteArray) (r3:Bool) (w:World) (h:stringslite_Cut.f a0 a1=some (r1,r2,r3)) (HT0:mX w) :
  Calls Tryz.prog 128 #[.string a0,.string a1] w fun e w'=>e = .returned (.tuple #[.string r1,.string r2,.bool r3])/\bH w w':=by
 have HT:=aa.mk HT0;clear HT0;have H:=aa.mk h;clear h;unfold stringslite_Cut.f at H;obtain⟨Kl,A3,H⟩:=nP H;rcases jw H with⟨-,jr,-,H⟩|⟨-,jr,-,H⟩
 ·obtain⟨-,rO,jV,H⟩:=nZ H;obtain⟨-,pq,jy,H⟩:=nZ H;obtain⟨ji7,Eg⟩:∃ j_:Int,(wrap64 (Kl+(a1.size:Int)))=j_:=⟨_,rfl⟩;(first|rw[Eg] at H|simp only[Eg] at H ⊢)
  (try rw[Eg] at A3)
  have aow:(IntKind.i64.wrap (Kl+(a1.size:Int)))=ji7:=(dU _).trans Eg;obtain⟨-,za,mU,H⟩:=nZ H;obtain⟨-,xy,pg,H⟩:=nZ H;simp only[Option.some.injEq,Prod.mk.injEq] at H;obtain⟨rfl,rfl,rfl⟩:=H;exact stringslite_Cut.e0
 ·simp only[Option.some.injEq,Prod.mk.injEq] at H;obtain⟨rfl,rfl,rfl⟩:=H;exact stringslite_Cut.e0

def strings_Cut.f (a0:ByteArray) (a1:ByteArray):Option (ByteArray×ByteArray×Bool):=(stringslite_Cut.f a0 a1).bind fun ag9=>(some (ag9.1,ag9.2.1,ag9.2.2))
theorem strings_Cut.calls (a0 a1:ByteArray) (r1 r2:ByteArray) (r3:Bool) (w:World) (h:strings_Cut.f a0 a1=some (r1,r2,r3)) (HT0:mX w) :
  Calls Tryz.prog 86 #[.string a0,.string a1] w fun e w'=>e = .returned (.tuple #[.string r1,.string r2,.bool r3])/\bH w w':=by
 have HT:=aa.mk HT0;clear HT0;have H:=aa.mk h;clear h;unfold strings_Cut.f at H;obtain⟨⟨azP,azQ,azR⟩,A3,H⟩:=nP H;dsimp only at H;simp only[Option.some.injEq,Prod.mk.injEq] at H;obtain⟨rfl,rfl,rfl⟩:=H;go_enter Tryz.func86,Tryz.ntmps86;go_wp2_with(((with_reducible refine cZ 128 rfl ?_);refine mM 9 rfl Tryz.func128 (stringslite_Cut.calls a0 a1 azP azQ azR _ A3.out (dV HT)) fun nd=>?_));go_ret3;exact⟨bR,iL⟩

def stringslite_HasPrefix.f (a0:ByteArray) (a1:ByteArray):Option (Bool):=if(a0.size:Int)>=(a1.size:Int) then(if 0<=(a1.size:Int) then(if(a1.size:Int)<=(a0.size:Int) then(some ((a0.extract 0 ((a1.size:Int):Int).toNat).toList==a1.toList)) else(none)) else(none)) else(some false)
theorem stringslite_HasPrefix.calls (a0 a1:ByteArray) (r:Bool) (w:World) (h:stringslite_HasPrefix.f a0 a1=some r) :
  Calls Tryz.prog 217 #[.string a0,.string a1] w fun e w'=>e = .returned (.bool r)/\bH w w':=by
 have H:=aa.mk h;clear h;unfold stringslite_HasPrefix.f at H;rcases jw H with⟨c3,-,-,H⟩|⟨c3,-,-,H⟩
 ·have cB:decide ((a1.size:Int)<=(a0.size:Int))=true:=bK c3;have nE:decide (a1.size<=a0.size)=true:=bK (Int.ofNat_le.mp c3);clear c3;obtain⟨-,qy,jr,H⟩:=nZ H;obtain⟨-,rO,jV,H⟩:=nZ H;obtain rfl:=aI H.out;go_enter Tryz.func217,Tryz.ntmps217;go_wp2;go_ret;exact⟨bR,iL⟩
 ·have cB:decide ((a1.size:Int)<=(a0.size:Int))=false:=bQ c3;have nE:decide (a1.size<=a0.size)=false:=bQ (fun h=>c3 (Int.ofNat_le.mpr h));clear c3;obtain rfl:=aI H.out;go_enter Tryz.func217,Tryz.ntmps217;go_wp2;go_ret;exact⟨bR,iL⟩

def strings_HasPrefix.f (a0:ByteArray) (a1:ByteArray):Option (Bool):=(stringslite_HasPrefix.f a0 a1).bind fun aqZ=>(some aqZ)
theorem strings_HasPrefix.calls (a0 a1:ByteArray) (r:Bool) (w:World) (h:strings_HasPrefix.f a0 a1=some r) :
  Calls Tryz.prog 194 #[.string a0,.string a1] w fun e w'=>e = .returned (.bool r)/\bH w w':=by
 have H:=aa.mk h;clear h;unfold strings_HasPrefix.f at H;obtain⟨aqZ,A3,H⟩:=nP H;obtain rfl:=aI H.out;go_enter Tryz.func194,Tryz.ntmps194;go_wp2_with(((with_reducible refine cZ 217 rfl ?_);refine mM 7 rfl Tryz.func217 (stringslite_HasPrefix.calls a0 a1 aqZ _ A3.out) fun nd=>?_));go_ret;exact⟨bR,iL⟩

def strings_ContainsAny.f (a0:ByteArray) (a1:ByteArray):Option (Bool):=(strings_IndexAny.f a0 a1).bind fun aq0=>(some (decide (aq0>=0)))
theorem strings_ContainsAny.calls (a0 a1:ByteArray) (r:Bool) (w:World) (h:strings_ContainsAny.f a0 a1=some r) :
  Calls Tryz.prog 195 #[.string a0,.string a1] w fun e w'=>e = .returned (.bool r)/\Below w.heap.size w w':=by
 have HB:=aa.mk (Below.refl w.heap.size w);have H:=aa.mk h;clear h;unfold strings_ContainsAny.f at H;obtain⟨aq0,A3,H⟩:=nP H;obtain rfl:=aI H.out;go_enter Tryz.func195,Tryz.ntmps195;go_wp2_with(((with_reducible refine cZ 149 rfl ?_);refine iW 7 rfl Tryz.func149 (strings_IndexAny.calls a0 a1 aq0 _ A3.out) fun gG hb HB=>?_;clear hb));go_ret;exact⟨jv,aX⟩

-- IMPORT Shelf Derived.Lib.SplitLaws Derived.WalkMore
theorem strings_Split.aav (s:ByteArray) (c:UInt8) (w:World) (hs:s.size<4294967281) :
  Calls Tryz.prog 218 #[.string s,.string ⟨#[c]⟩,.int .i64 0,.int .i64 (-1)] w fun e w'=>e = .returned (.slice (some ⟨w.heap.size,0,none⟩) (Lib.countB s ⟨#[c]⟩+1) (Lib.countB s ⟨#[c]⟩+1))/\w'=w.alloc (.cells ((Lib.splitB ⟨#[c]⟩ 0 (Lib.countB s ⟨#[c]⟩) s).map Value.string).toArray 9):=by
 have hz:((⟨#[c]⟩:af)).size=1:=rfl
 have hle:=Lib.countB_le ⟨#[c]⟩ (by rw[hz];decide) s.size s (Nat.le_refl _)
 have hlen:=Lib.splitB_all ⟨#[c]⟩ (by rw[hz];decide) 0 _ s rfl
 have ct:=Any.strings_genSplit_core ({ Tryz.abH with }:Lays.n221 Tryz.prog _) dK s ⟨#[c]⟩ 0 (-1) (Lib.countB s ⟨#[c]⟩+1) w hs (by rw[hz];decide) (Nat.zero_le _)
  (fun x cc hx=>(Tryz.strings_Index_one x c _).mono fun e w' ⟨he,hw⟩=>⟨by
   rw[he]
   show _=Ending.returned (Value.int .i64 (Lib.index x.data.toList [c]))
   rw[Lib.index_one],hw⟩)
  ((Tryz.strings_Count_one s c w).mono fun e w' ⟨he,hw⟩=>⟨by
   rw[he]
   show _=Ending.returned (Value.int .i64 ((Lib.count s.data.toList [c]:Nat):Int))
   rw[Lib.count_one];rfl,hw⟩) aA aA (by rw[if_pos aA];omega)
 rw[Nat.add_sub_cancel,hlen] at ct
 have e2:Lib.cellsOf (Lib.splitB ⟨#[c]⟩ 0 (Lib.countB s ⟨#[c]⟩) s) (Lib.countB s ⟨#[c]⟩+1)=((Lib.splitB ⟨#[c]⟩ 0 (Lib.countB s ⟨#[c]⟩) s).map Value.string).toArray:=by
  have:=Lib.cellsOf_full (Lib.splitB ⟨#[c]⟩ 0 (Lib.countB s ⟨#[c]⟩) s)
  rw[hlen] at this
  exact this
 rw[e2] at ct
 exact ct
theorem strings_Split.aaw (s:ByteArray) (c:UInt8) (w:World) (hs:s.size<4294967281) :
  Calls Tryz.prog 196 #[.string s,.string ⟨#[c]⟩] w fun e w'=>e = .returned (.slice (some ⟨w.heap.size,0,none⟩) (Lib.countB s ⟨#[c]⟩+1) (Lib.countB s ⟨#[c]⟩+1))/\w'=w.alloc (.cells ((Lib.splitB ⟨#[c]⟩ 0 (Lib.countB s ⟨#[c]⟩) s).map Value.string).toArray 9):=by
 have ct:=strings_Split.aav s c w hs
 go_enter Tryz.func196,Tryz.ntmps196
 go_wp2_with(refine ct.mono ?_;rintro e w' ⟨rfl,hw⟩;rw[hw])
 go_ret
 exact⟨rfl,rfl⟩
def strings_Split.f (a0:ByteArray) (a1:ByteArray):Option (List ByteArray):=match a1.data.toList with
 |[_]=>if a0.size<4294967281 then some (Lib.splitB a1 0 (Lib.countB a0 a1) a0) else none
 |_=>none
theorem strings_Split.calls (a0 a1:ByteArray) (r:List ByteArray) (w:World) (h:strings_Split.f a0 a1=some r) :
  Calls Tryz.prog 196 #[.string a0,.string a1] w fun e w'=>∃ Df:Value,e = .returned (Df)/\Kd.R Kd.string 9 w' w.heap.size (fun _=>True) Df r/\Below w.heap.size w w':=by
 unfold strings_Split.f at h;split at h
 ·rename_i c hc
  have e1:a1=⟨#[c]⟩:=by
   have e2:a1.data = #[c]:=by rw[<- Array.toArray_toList (xs:=a1.data),hc]
   rw[<- e2]
  by_cases hs:a0.size<4294967281
  ·rw[if_pos hs] at h;obtain rfl:=aI h;rw[e1];refine(strings_Split.aaw a0 c w hs).mono ?_;rintro e w' ⟨rfl,rfl⟩;have hlen:=Lib.splitB_all ⟨#[c]⟩ (Nat.le_refl 1) 0 _ a0 rfl;refine⟨_,rfl,?_,jA (Below.refl _ _) _⟩;have hle:=Lib.countB_le ⟨#[c]⟩ (Nat.le_refl 1) a0.size a0 (Nat.le_refl _);rw[<- hlen];refine Kd.aeN ?_ (fun _ _=>trivial);refine⟨by simp[encs],Or.inr ⟨w.heap.size,_,_,rfl,Nat.le_refl _,ET _ _,Nat.le_refl _,?_,by simp,by rw[Nat.mul_one];simp only[encs];exact List.take_of_length_le (by simp)⟩⟩;have:maxLen=140737488355328∨True:=Or.inr trivial;rw[hlen];unfold maxLen;omega
  ·rw[if_neg hs] at h;cases h
 ·cases h

-- IMPORT Shelf
def En (l:List ByteArray) (s:ByteArray):ByteArray:=⟨(Go.Lib.join (l.map fun x=>x.data.toList) s.data.toList).toArray⟩
theorem ab0 {e:Nat} {w:World} {base:Nat} {ok:Nat->Prop} {A:Option Addr} {n c:Nat} {xs:List ByteArray} (h:Kd.R Kd.string e w base ok (.slice A n c) xs):∀ a,A=some a->a.spot=none:=by
 obtain⟨inner,ho⟩:=Kd.Vm h
 rcases ho.2 with⟨h1,_⟩|⟨g,cap,cur,h1,_⟩
 ·intro a ha;cases h1;cases ha
 ·intro a ha;cases h1;cases ha;rfl
def strings_Join.f (l0:List ByteArray) (a1:ByteArray):Option ByteArray:=if l0.length<=140737488355328/\(En l0 a1).size<=140737488355328 then some (En l0 a1) else none
theorem strings_Join.calls (A0:Option Addr) (c0:Nat) (l0:List ByteArray) (a1 r:ByteArray) (w:World) (hr0:Kd.C Kd.string w A0 l0.length l0) (hc0:l0.length<=c0) (h:strings_Join.f l0 a1=some r) (hsp:∀ a,A0=some a->a.spot=none:=by first|exact ab0 (aa.out (by assumption))|exact ab0 (by assumption)) :
  Calls Tryz.prog 169 #[.slice A0 l0.length c0,.string a1] w fun e w'=>e = .returned (.string r)/\Below w.heap.size w w':=by
 unfold strings_Join.f at h;by_cases hq:l0.length<=140737488355328/\(En l0 a1).size<=140737488355328
 case neg=>rw[if_neg hq] at h;cases h
 rw[if_pos hq] at h;obtain rfl:=aI h;cases l0 with
 |nil=>
  refine(Tryz.strings_Join_none A0 c0 a1 w).mono ?_;rintro e w' ⟨rfl,rfl⟩;exact⟨rfl,Below.refl _ _⟩
 |cons x l=>
  obtain⟨ad,hA,hcs⟩:=hr0.2.2 (Nat.succ_pos _);obtain⟨g,o,sp⟩:=ad;obtain rfl:sp=none:=hsp _ hA;subst hA;have hcell:∀(j:Nat) y,(x::l)[j]? = some y->w.cell? ⟨g,o+j,none⟩=some (.string y):=by
   intro j y hj;obtain⟨c,hl,hk,hu⟩:=hcs j y hj;have hk':c = [.string y]:=hk;have h1:=hu 0 (.string y) (by rw[hk'];rfl);have e1:(Addr.add ⟨g,o,none⟩ (j*Kd.string.sz+0))=⟨g,o+j,none⟩:=by
    show Addr.add ⟨g,o,none⟩ (j*1+0)=_
    unfold Addr.add;by_cases h0:j*1+0=0
    ·rw[if_pos h0];congr 1;omega
    ·rw[if_neg h0];congr 1;show o+(j*1+0)=_;omega
   rw[e1] at h1;exact h1
  refine(Tryz.strings_Join g o c0 (x::l) a1 w hcell (World.block_lt_of_cell? w _ (hcell 0 x rfl)) hq.1 hc0 ?_).mono ?_
  ·have:=hq.2
   unfold En at this;simpa [ByteArray.size] using this
  ·rintro e w' ⟨rfl,hb⟩;exact⟨rfl,hb⟩

def bU.l0 : Nat->List ByteArray->ByteArray->Int->Int->Option (Int)
 |0,_,_,_,_=>none
 |k+1,x0,x1,x7,x8=>if x8<x7 then(if 0<=x8 then(if x8<(x0.length:Int) then(if x1.toList=(dh ByteArray.empty x0 x8).toList then(some x8) else(bU.l0 k x0 x1 x7 (wrap64 (x8+1)))) else(none)) else(none)) else(some (-1))
def bU.f (k:Nat) (l0:List ByteArray) (a1:ByteArray):Option (Int):=bU.l0 k l0 a1 (l0.length:Int) 0
theorem bU.calls (k:Nat) (A0:Option Addr) (c0:Nat) (l0:List ByteArray) (a1:ByteArray) (r:Int) (w:World) (hr0:Kd.C Kd.string w A0 l0.length l0) (hc0:l0.length<=c0) (h:bU.f k l0 a1=some r) :
  Calls Tryz.prog 237 #[.slice A0 l0.length c0,.string a1] w fun e w'=>e = .returned (.int .i64 r)/\bH w w':=by
 have wR:=aa.mk hr0;have xw:=aa.mk hc0;clear hr0 hc0;have H:=aa.mk h;clear h;unfold bU.f at H;go_enter Tryz.func237,Tryz.ntmps237;go_wp2;go_loopg [8] k (fun kq v8 w'=>∃(yu:Int),v8 = .int .i64 yu/\aa (bU.l0 kq l0 a1 (l0.length:Int) yu=some r)/\aa (kq<=k)/\bH w w')
 case atStart=>exact⟨(0),bR,H,⟨Nat.le_refl _⟩,iL⟩
 case round=>
  clear H;obtain⟨yu,rfl,HA,ig,⟨m1,rfl⟩⟩:=hrel;cases gk with
  |zero=>exact absurd HA.out (by simp[bU.l0])
  |succ k1=>
   have H:=HA;clear HA;simp only[bU.l0] at H;rcases jw H with⟨-,cB,-,H⟩|⟨-,cB,-,H⟩
   ·obtain⟨-,jr,-,H⟩:=nZ H;obtain⟨-,jV,-,H⟩:=nZ H;rcases jw H with⟨c6,-,-,H⟩|⟨c6,-,-,H⟩
    ·obtain⟨jy,pq⟩:=kT c6;clear c6;obtain rfl:=aI H.out;have aax:0<=(yu:Int):=ay bM;have aay:yu<(l0.length:Int):=ay bM;obtain⟨auY,aq1,akF⟩:=Kd.eG wR.out yu aax aay;cases aq1
     replace aax:=eq_true aax;replace aay:=eq_true aay;go_wp2;go_ret;exact⟨bR,iL⟩
    ·obtain⟨jy,pq⟩:=kU c6;have aax:0<=(yu:Int):=ay bM;have aay:yu<(l0.length:Int):=ay bM;obtain⟨auY,aq1,akF⟩:=Kd.eG wR.out yu aax aay;cases aq1
     replace aax:=eq_true aax;replace aay:=eq_true aay;go_wp2;go_roundg k1
     case measure=>have:=ig.out;omega
     case rel=>exact⟨(wrap64 (yu+1)),bR,H,⟨by have:=ig.out;omega⟩,iL⟩
   ·obtain rfl:=aI H.out;go_wp2;go_ret;exact⟨bR,iL⟩


def gZ.f (k:Nat) (l0:List ByteArray) (a1:ByteArray):Option (Bool):=(bU.f k l0 a1).bind fun aq2=>(some (decide (aq2>=0)))
theorem gZ.calls (k:Nat) (A0:Option Addr) (c0:Nat) (l0:List ByteArray) (a1:ByteArray) (r:Bool) (w:World) (hr0:Kd.C Kd.string w A0 l0.length l0) (hc0:l0.length<=c0) (h:gZ.f k l0 a1=some r) :
  Calls Tryz.prog 222 #[.slice A0 l0.length c0,.string a1] w fun e w'=>e = .returned (.bool r)/\bH w w':=by
 have wR:=aa.mk hr0;have xw:=aa.mk hc0;clear hr0 hc0;have H:=aa.mk h;clear h;unfold gZ.f at H;obtain⟨aq2,A3,H⟩:=nP H;obtain rfl:=aI H.out;go_enter Tryz.func222,Tryz.ntmps222;go_wp2_with(((with_reducible refine cZ 237 rfl ?_);refine mM 7 rfl Tryz.func237 (bU.calls k _ _ l0 a1 aq2 _ Rk xw.out A3.out) fun nd=>?_));go_ret;exact⟨bR,iL⟩

def stringslite_IndexByte.f (a0:ByteArray) (a1:Int):Option (Int):=some (Lib.indexByte a0.data.toList a1.toNat.toUInt8)
theorem stringslite_IndexByte.calls (a0:ByteArray) (a1 r:Int) (w:World) (h:stringslite_IndexByte.f a0 a1=some r) :
  Calls Tryz.prog 172 #[.string a0,.int .u8 a1] w fun e w'=>e = .returned (.int .i64 r)/\bH w w':=by
 unfold stringslite_IndexByte.f at h;obtain rfl:=aI h;clear h;go_enter Tryz.func172,Tryz.ntmps172;go_wp2;rw[run_callFunc_extern Tryz.func210 dK dK dK (e:=Extern.BytealgIndexByte.indexByte) dK,Lib.run_indexByteString];simp only[Result.andThen];rw[Oper.upon_value];go_wp2;go_ret;exact⟨rfl,bH.refl _⟩

def strings_IndexByte.f (a0:ByteArray) (a1:Int):Option (Int):=(stringslite_IndexByte.f a0 a1).bind fun aq3=>(some aq3)
theorem strings_IndexByte.calls (a0:ByteArray) (a1 r:Int) (w:World) (h:strings_IndexByte.f a0 a1=some r) :
  Calls Tryz.prog 134 #[.string a0,.int .u8 a1] w fun e w'=>e = .returned (.int .i64 r)/\bH w w':=by
 have H:=aa.mk h;clear h;unfold strings_IndexByte.f at H;obtain⟨aq3,A3,H⟩:=nP H;obtain rfl:=aI H.out;go_enter Tryz.func134,Tryz.ntmps134;go_wp2_with(((with_reducible refine cZ 172 rfl ?_);refine mM 7 rfl Tryz.func172 (stringslite_IndexByte.calls a0 a1 aq3 _ A3.out) fun nd=>?_));go_ret;exact⟨bR,iL⟩

def eB.l0 : Nat->List Int->Int->Int->Int->Option (Int)
 |0,_,_,_,_=>none
 |k+1,x0,x1,x7,x8=>if x8<x7 then(if 0<=x8 then(if x8<(x0.length:Int) then(if x1=(rd x0 x8) then(some x8) else(eB.l0 k x0 x1 x7 (wrap64 (x8+1)))) else(none)) else(none)) else(some (-1))
def eB.f (k:Nat) (l0:List Int) (a1:Int):Option (Int):=eB.l0 k l0 a1 (l0.length:Int) 0
theorem eB.calls (k:Nat) (A0:Option Addr) (c0:Nat) (l0:List Int) (a1 r:Int) (w:World) (hr0:Kd.C (Kd.int .i64) w A0 l0.length l0) (hc0:l0.length<=c0) (h:eB.f k l0 a1=some r) :
  Calls Tryz.prog 139 #[.slice A0 l0.length c0,.int .i64 a1] w fun e w'=>e = .returned (.int .i64 r)/\bH w w':=by
 have wR:=aa.mk hr0;have xw:=aa.mk hc0;clear hr0 hc0;have H:=aa.mk h;clear h;unfold eB.f at H;go_enter Tryz.func139,Tryz.ntmps139;go_wp2;go_loopg [8] k (fun kq v8 w'=>∃(yu:Int),v8 = .int .i64 yu/\aa (eB.l0 kq l0 a1 (l0.length:Int) yu=some r)/\aa (kq<=k)/\bH w w')
 case atStart=>exact⟨(0),bR,H,⟨Nat.le_refl _⟩,iL⟩
 case round=>
  clear H;obtain⟨yu,rfl,HA,ig,⟨m1,rfl⟩⟩:=hrel;cases gk with
  |zero=>exact absurd HA.out (by simp[eB.l0])
  |succ k1=>
   have H:=HA;clear HA;simp only[eB.l0] at H;rcases jw H with⟨-,cB,-,H⟩|⟨-,cB,-,H⟩
   ·obtain⟨-,jr,-,H⟩:=nZ H;obtain⟨-,jV,-,H⟩:=nZ H;rcases jw H with⟨c6,-,-,H⟩|⟨c6,-,-,H⟩
    ·obtain⟨jy,pq⟩:=kT c6;clear c6;obtain rfl:=aI H.out;have O3:0<=(yu:Int):=ay bM;have O4:yu<(l0.length:Int):=ay bM;obtain⟨aq4,aha,ahb⟩:=Kd.o5 wR.out yu O3 O4;cases aha
     replace O3:=eq_true O3;replace O4:=eq_true O4;go_wp2;go_ret;exact⟨bR,iL⟩
    ·obtain⟨jy,pq⟩:=kU c6;have O3:0<=(yu:Int):=ay bM;have O4:yu<(l0.length:Int):=ay bM;obtain⟨aq4,aha,ahb⟩:=Kd.o5 wR.out yu O3 O4;cases aha
     replace O3:=eq_true O3;replace O4:=eq_true O4;go_wp2;go_roundg k1
     case measure=>have:=ig.out;omega
     case rel=>exact⟨(wrap64 (yu+1)),bR,H,⟨by have:=ig.out;omega⟩,iL⟩
   ·obtain rfl:=aI H.out;go_wp2;go_ret;exact⟨bR,iL⟩

def jG.f (k:Nat) (l0:List Int) (a1:Int):Option (Bool):=(eB.f k l0 a1).bind fun ahc=>(some (decide (ahc>=0)))
theorem jG.calls (k:Nat) (A0:Option Addr) (c0:Nat) (l0:List Int) (a1:Int) (r:Bool) (w:World) (hr0:Kd.C (Kd.int .i64) w A0 l0.length l0) (hc0:l0.length<=c0) (h:jG.f k l0 a1=some r) :
  Calls Tryz.prog 92 #[.slice A0 l0.length c0,.int .i64 a1] w fun e w'=>e = .returned (.bool r)/\bH w w':=by
 have wR:=aa.mk hr0;have xw:=aa.mk hc0;clear hr0 hc0;have H:=aa.mk h;clear h;unfold jG.f at H;obtain⟨ahc,A3,H⟩:=nP H;obtain rfl:=aI H.out;go_enter Tryz.func92,Tryz.ntmps92;go_wp2_with(((with_reducible refine cZ 139 rfl ?_);refine mM 7 rfl Tryz.func139 (eB.calls k _ _ l0 a1 ahc _ Rk xw.out A3.out) fun nd=>?_));go_ret;exact⟨bR,iL⟩

end Go.Proofs.YtfhllanhldbkkaaGreatDoor.P
