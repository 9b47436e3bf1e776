import Derived.Lib.AppendStr
import Derived.Lib.ItoaLen
import Derived.Lib.ItoaNum
import Derived.Shelf.Strings.Builder1
import Derived.Test.YtonmpnghlopnoaaGreatDoorShelf
import Derived.Test.YtonmpnghlopnoaaGreatDoorPx0
import Derived.Test.YtonmpnghlopnoaaGreatDoorPximpl01g
import Derived.Test.YtonmpnghlopnoaaGreatDoorPxliba
import Derived.Test.YtonmpnghlopnoaaGreatDoorWC
import Derived.Test.YtonmpnghlopnoaaGreatDoorPximpl06a
import Derived.Test.YtonmpnghlopnoaaGreatDoorPximpl06c
import Derived.Test.YtonmpnghlopnoaaGreatDoorPximpl06f
namespace Go.Proofs.YtonmpnghlopnoaaGreatDoor.P
open Go.RowKit Go.Proofs.YtonmpnghlopnoaaGreatDoorW.PrintWords Go.Proofs.YtonmpnghlopnoaaGreatDoorW.PrintLast Go.Proofs.YtonmpnghlopnoaaGreatDoorW.PrintMore
attribute [local go_sem] max2_int min2_int max_two min_two max_three min_three max_four min_four   -- for this text's walks alone
set_option linter.unusedVariables false
set_option linter.unusedSimpArgs false

-- IMPORT Shelf Derived.Lib.AppendStr Derived.Lib.ItoaNum Derived.Lib.ItoaLen Derived.Shelf.Strings.Builder1
def BU (w:World) (b:Nat) (t:ByteArray):Prop:=Lib.IsBuilder 118 5 b b (Lib.strCells t) w
theorem strCells_app (s t:ByteArray):Lib.strCells (s++t)=Lib.strCells s++Lib.strCells t:=by
 unfold Lib.strCells
 rw[← List.map_append]
 congr 1
theorem bu_lt {w:World} {b:Nat} {t:ByteArray} (h:BU w b t):b<w.heap.size:=by
 rcases h with⟨_,v,h2,_⟩|⟨_,v,h2,_⟩ <;> exact blk_lt h2
theorem bu_below {w w':World} {b:Nat} {t:ByteArray} (h:Aside0 (BU w b t)) (hb:Below w.heap.size w w'):Aside0 (BU w' b t):=by
 have key:∀ p,Lib.BuilderAt 118 5 b b p (Lib.strCells t) w→Lib.BuilderAt 118 5 b b p (Lib.strCells t) w':=by
  rintro p ⟨h1,v,h2,h3,h4⟩
  refine⟨h1,v,(hb.block b (blk_lt h2)).trans h2,⟨h3.1,?_⟩,h4⟩
  rcases h3.2 with h5|⟨g,cap,cur,e1,e2,e3,e4⟩
  ·exact .inl h5
  ·exact .inr ⟨g,cap,cur,e1,e2,(hb.block g (blk_lt e3)).trans e3,e4⟩
 exact⟨h.out.elim (fun x=>.inl (key _ x)) (fun x=>.inr (key _ x))⟩
theorem bu_new {w:World} {b:Nat} (h:w.heap[b]? = some (.cells #[.pointer none,.slice none 0 0] 118 (0,0))):Aside0 (BU w b ⟨#[]⟩):=
 ⟨.inl ⟨Nat.le_refl _,.slice none 0 0,h,⟨rfl,.inl ⟨rfl,rfl⟩⟩,by simp[Value.ownBlock]⟩⟩
theorem bu_write {w:World} {b:Nat} {t:ByteArray} (s:ByteArray) (h:Aside0 (BU w b t)) (hl:t.size+s.size≤140737488355328) :
  Calls Tryz.prog 132 #[.pointer (some ⟨b,0,none⟩),.string s] w fun e w'=>e = .returned (.tuple #[.int .i64 s.size,.nilIface])∧Aside0 (BU w' b (t++s))∧Below b w w':=by
 refine(Any.Builder_WriteString ({ Tryz.lays156 with }:Lays.n166 Tryz.prog Tryz.lays156_ren) Tryz.Builder_Extra_156 b b (Lib.strCells t) s w h.out (by rw[Lib.strCells_length];exact hl) (Nat.le_of_lt (bu_lt h.out))).mono ?_
 rintro e w' ⟨rfl,h1,h2⟩
 exact⟨rfl,⟨.inr (by rw[strCells_app];exact h1)⟩,h2⟩
theorem bu_string {w:World} {b:Nat} {t:ByteArray} (h:Aside0 (BU w b t)) :
  Calls Tryz.prog 135 #[.pointer (some ⟨b,0,none⟩)] w fun e w'=>e = .returned (.string t)∧Below b w w':=by
 refine(Any.Builder_String_any ({ Tryz.lays156 with }:Lays.n169 Tryz.prog Tryz.lays156_ren) Tryz.Builder_Extra_156 b b t.data.toList w h.out (Nat.le_of_lt (bu_lt h.out))).mono ?_
 rintro e w' ⟨rfl,h2⟩
 exact⟨rfl,h2⟩
theorem app_size (s t:ByteArray):(s++t).size=s.size+t.size:=ByteArray.size_append
def lineT (f:S41):ByteArray:=(((f.f0++(⟨#[58,32]⟩:ByteArray))++f.f1)++(⟨#[13,10]⟩:ByteArray))
def linesT (t:ByteArray) (l:List S41):ByteArray:=l.foldl (fun t f=>t++lineT f) t
def firstT (m0 m1:ByteArray) (m2:Int) (m3:ByteArray):ByteArray:=
 if m0.toList=([]:List UInt8) then(((((⟨#[72,84,84,80,47,49,46,49,32]⟩:ByteArray)++itoaT m2)++(⟨#[32]⟩:ByteArray))++m3)++(⟨#[13,10]⟩:ByteArray))
 else((((m0++(⟨#[32]⟩:ByteArray))++m1)++(⟨#[32,72,84,84,80,47,49,46,49]⟩:ByteArray))++(⟨#[13,10]⟩:ByteArray))
def lengthT (m6:ByteArray):ByteArray:=(((⟨#[67,111,110,116,101,110,116,45,76,101,110,103,116,104,58,32]⟩:ByteArray)++itoaT (m6.size:Int))++(⟨#[13,10]⟩:ByteArray))
def tellsB (m0:ByteArray) (m4:Bool) (m6:ByteArray):Bool:=if m0.toList=([]:List UInt8) then !m4 else m6.toList != ([]:List UInt8)
def headT (m0 m1:ByteArray) (m2:Int) (m3:ByteArray) (m4:Bool) (l:List S41) (m6:ByteArray):ByteArray:=
 let t:=linesT ((⟨#[]⟩:ByteArray)++firstT m0 m1 m2 m3) l
 (if tellsB m0 m4 m6=true then t++lengthT m6 else t)++(⟨#[13,10]⟩:ByteArray)
def HeadFits (m0 m1:ByteArray) (m2:Int) (m3:ByteArray) (l:List S41) (m6:ByteArray):Prop:=
 m0.size≤100000∧m1.size≤100000∧(0≤m2∧m2≤999999999999999)∧m3.size≤100000∧m6.size≤100000∧l.length≤1000∧∀ f∈l,f.f0.size≤100000∧f.f1.size≤100000
instance headFits_dec (m0 m1:ByteArray) (m2:Int) (m3:ByteArray) (l:List S41) (m6:ByteArray):Decidable (HeadFits m0 m1 m2 m3 l m6):=by unfold HeadFits;exact inferInstance
def impl_writeHead.f (m0 m1:ByteArray) (m2:Int) (m3:ByteArray) (m4:Bool) (l:List S41) (m6:ByteArray):Option (ByteArray):=
 if HeadFits m0 m1 m2 m3 l m6 then some (headT m0 m1 m2 m3 m4 l m6) else none
theorem itoaT_size (n:Int) (h0:0≤n) (h1:n≤999999999999999):(itoaT n).size≤21:=by
 have:=Lib.itoa_length_le n (by omega) (by omega)
 unfold itoaT
 simpa [ByteArray.size] using this
theorem firstT_size (m0 m1:ByteArray) (m2:Int) (m3:ByteArray) (h0:m0.size≤100000) (h1:m1.size≤100000) (h2:0≤m2∧m2≤999999999999999) (h3:m3.size≤100000):(firstT m0 m1 m2 m3).size≤300000:=by
 have hi:=itoaT_size m2 h2.1 h2.2
 unfold firstT
 split
 ·simp only[app_size]
  show 9+(itoaT m2).size+1+m3.size+2≤300000
  omega
 ·simp only[app_size]
  show m0.size+1+m1.size+9+2≤300000
  omega
theorem lineT_size (f:S41) (h0:f.f0.size≤100000) (h1:f.f1.size≤100000):(lineT f).size≤300000:=by
 unfold lineT
 simp only[app_size]
 show f.f0.size+2+f.f1.size+2≤300000
 omega
theorem linesT_size : ∀(l:List S41) (t:ByteArray),(∀ f∈l,f.f0.size≤100000∧f.f1.size≤100000)→(linesT t l).size≤t.size+300000*l.length
 |[],t,_=>Nat.le_refl _
 |f::l,t,h=>by
  have h1:=linesT_size l (t++lineT f) (fun g hg=>h g (List.mem_cons_of_mem _ hg))
  have h2:=lineT_size f (h f (List.mem_cons_self ..)).1 (h f (List.mem_cons_self ..)).2
  rw[app_size] at h1
  show(linesT (t++lineT f) l).size≤t.size+300000*(l.length+1)
  omega
theorem linesT_take (l:List S41) (t:ByteArray) (n:Nat) (h:n<l.length):linesT t (l.take (n+1))=linesT t (l.take n)++lineT (rd_T41 l (n:Int)):=by
 have e:rd_T41 l (n:Int)=l[n]:=by
  unfold rd_T41
  rw[Int.toNat_natCast,List.getD_eq_getElem?_getD,List.getElem?_eq_getElem h]
  rfl
 unfold linesT
 rw[List.take_succ_eq_append_getElem h,List.foldl_append,e]
 rfl
theorem bm_keep {w w':World} {g b:Nat} {o:Obj} (h:Aside0 (w.heap[g]? = some o)) (hl:Aside0 (g<b)) (hb:Below b w w'):Aside0 (w'.heap[g]? = some o):=⟨(hb.block g hl.out).trans h.out⟩
theorem bb_keep {w w':World} {b:Nat} {W:World} (h:Aside0 (Below W.heap.size W w)) (hg:Aside0 (W.heap.size≤b)) (hb:Below b w w'):Aside0 (Below W.heap.size W w'):=⟨h.out.trans (hb.mono hg.out)⟩
def w101T : Bool×List (List Nat×List Nat):=(true,[([],[]),([0],[0]),([1],[1]),([2],[2]),([3],[3]),([],[]),([5],[5]),([4,6],[4,6]),([7],[7]),([8,2],[8])])
def w101B : List Nat:=[0,1,3,7,15,0,32,127,255,511]
theorem w101tab : rtab .any (opsOf Tryz.f101 4)=w101T:=by kernel_rfl
theorem w101bits : waitsOk w101T.2 w101B=true:=by kernel_rfl
set_option maxHeartbeats 8000000 in
set_option maxRecDepth 100000 in
theorem impl_writeHead.calls (a0_0 a0_1:ByteArray) (a0_2:Int) (a0_3:ByteArray) (a0_4:Bool) (A0_5:Option Addr) (c0_5:Nat) (l0_5:List S41) (a0_6 r:ByteArray) (w:World) (hr0_5:Kd.C k41 w A0_5 l0_5.length l0_5) (hc0_5:l0_5.length≤c0_5) (h:impl_writeHead.f a0_0 a0_1 a0_2 a0_3 a0_4 l0_5 a0_6=some r) (HT0:Tab10 w) :
  Calls Tryz.prog 101 #[.agg #[.string a0_0,.string a0_1,.int .i64 a0_2,.string a0_3,.bool a0_4,.slice A0_5 l0_5.length c0_5,.string a0_6]] w fun e w'=>e = .returned (.string r)∧Below w.heap.size w w':=by
 have huM:=Tryz.underlying24;have huF:=Tryz.underlying41;have HR0:=Aside0.mk hr0_5;have HC0:=Aside0.mk hc0_5;have HT:=Aside0.mk HT0;clear hr0_5 hc0_5 HT0;unfold impl_writeHead.f at h;by_cases hF:HeadFits a0_0 a0_1 a0_2 a0_3 l0_5 a0_6
 case neg=>rw[if_neg hF] at h;cases h
 rw[if_pos hF] at h;obtain rfl:=Option.some.inj h;clear h;have HF:=Aside0.mk hF;clear hF;have HB:=Aside0.mk (Below.refl w.heap.size w);go_enter Tryz.func101,Tryz.ntmps101;go_upto_if 8 with(first|((with_reducible refine gate_dst (N:=1) rfl ?_);refine boxA #[.string a0_0,.string a0_1,.int .i64 a0_2,.string a0_3,.bool a0_4,.slice A0_5 l0_5.length c0_5,.string a0_6] 24 ?_;intro gm hg w1 hbox hb;have BKm:=Aside0.mk hbox;have GEm:=geA hg;replace HB:=beA hb;clear hb hbox hg;obtain⟨_,_,_,_,_,_,_⟩:=czA7 BKm)|((with_reducible refine gate_dst (N:=3) rfl ?_);refine boxA #[.pointer none,.slice none 0 0] 118 ?_;intro gb hg w2 hbox hb;have GEb:=geA hg;have LTm:=neA (g:=gm) hg;have BU0:=bu_new hbox;have LM:=Aside0.mk (by rw[hg];exact(blk_lt BKm.out):gm<gb);replace BKm:=blA (g:=gm) hb;replace HB:=beA hb;clear hb hbox hg;obtain⟨_,_,_,_,_,_,_⟩:=czA7 BKm));(try simp only[Act.put,List.setIfInBounds_toArray,List.set_cons_zero,List.set_cons_succ])
 go_cut [1] (fun v1 wc=>v1 = .pointer (some ⟨gm,0,none⟩)∧Aside0 (wc.heap[gm]? = some (.cells #[.string a0_0,.string a0_1,.int .i64 a0_2,.string a0_3,.bool a0_4,.slice A0_5 l0_5.length c0_5,.string a0_6] 24 (0,0)))∧Aside0 (BU wc gb ((⟨#[]⟩:ByteArray)++firstT a0_0 a0_1 a0_2 a0_3))∧Aside0 (Below w.heap.size w wc))
 case first=>
  by_cases e0:a0_0.toList=([]:List UInt8)
  ·have hfirst:firstT a0_0 a0_1 a0_2 a0_3=(((((⟨#[72,84,84,80,47,49,46,49,32]⟩:ByteArray)++itoaT a0_2)++(⟨#[32]⟩:ByteArray))++a0_3)++(⟨#[13,10]⟩:ByteArray)):=if_pos e0;have hne:a0_0.toList.isEmpty=true:=List.isEmpty_iff.mpr e0;have HFI:=Aside0.mk hfirst;clear hfirst e0;have hi:=itoaT_size a0_2 HF.out.2.2.1.1 HF.out.2.2.1.2;have y3:=HF.out.2.2.2.1;have q1:(9223372036854775807<9+(itoaT a0_2).size)=False:=eq_false (by omega);have q2:(9223372036854775807<9+(itoaT a0_2).size+1)=False:=eq_false (by omega);have q3:(9223372036854775807<9+(itoaT a0_2).size+1+a0_3.size)=False:=eq_false (by omega);have q4:(9223372036854775807<9+(itoaT a0_2).size+1+a0_3.size+2)=False:=eq_false (by omega);have ql:(⟨#[]⟩:ByteArray).size+(((((⟨#[72,84,84,80,47,49,46,49,32]⟩:ByteArray)++itoaT a0_2)++(⟨#[32]⟩:ByteArray))++a0_3)++(⟨#[13,10]⟩:ByteArray)).size≤140737488355328:=by
    simp only[app_size];show 0+(9+(itoaT a0_2).size+1+a0_3.size+2)≤140737488355328
    omega
   have A9:strconv_Itoa_133.f a0_2=some (itoaT a0_2):=if_pos ⟨by have:=HF.out.2.2.1;omega,by have:=HF.out.2.2.1;omega⟩;have hA9:=Aside0.mk A9;have hql:=Aside0.mk ql;clear hi y3 A9 ql;(first|rw[hne]|skip)
   go_wp2;replace BKm:=Aside0.mk (blk_drew BKm.out);replace HB:=Aside0.mk (below_drew1 HB.out);replace BU0:=bu_below BU0 (below_drew1 (Below.refl _ _));refine start_ (n:=10) (S:=fun w'=>w'.cell? ⟨gm,2,none⟩=some (.int .i64 a0_2)∧w'.cell? ⟨gm,3,none⟩=some (.string a0_3)) (ds:=[]) #[false,false,false,false,false,false,false,false,false,false] (by kernel_rfl) rfl rfl ⟨(blk_cell BKm.out 2).trans rfl,(blk_cell BKm.out 3).trans rfl⟩ (fun hHeld=>?_);refine with_tabW w101tab w101bits (fun HT_ HW_=>?_);generalize w2.drew=w14 at BKm HB BU0 hHeld ⊢;refine pureT 0 (some 18) ?_;refine pureT 5 (some 23) ?_;refine takeT_ 1 (some 19) (hy:=Or.inl ⟨by rfl,gq10⟩) ?_;refine takeT_ 6 (some 24) (hy:=Or.inl ⟨by rfl,gq10⟩) ?_;refine one_ (i:=2) (N:=some 20) #[true,true,true,false,false,true,true,false,false,false] rfl rfl (one_of HT_.out (by kernel_rfl)) (by decide) (fun K hK=>?_);refine goes_ Tryz.func133 (by kernel_rfl) rfl #[.int .i64 a0_2] (by rfl) rfl rfl gq12 ?_;refine(strconv_Itoa_133.calls a0_2 (itoaT a0_2) _ hA9.out (tab_go HT)).mono ?_;rintro e w15 ⟨rfl,hb⟩;refine⟨_,rfl,?_⟩;replace BKm:=blA (g:=gm) hb;replace HB:=beA hb;replace BU0:=bu_below BU0 hb;(try clear hb)
   refine hK.out _ _ ⟨(blk_cell BKm.out 2).trans rfl,(blk_cell BKm.out 3).trans rfl⟩ (fun hHeld=>?_);clear hK K;refine normA (some 20) ?_;refine pureT 3 (some 21) ?_;refine pureT 4 (some 22) ?_;refine pureT 7 (some 25) ?_;refine pureT 8 (some 26) ?_;refine one_ (i:=9) (N:=some 27) #[true,true,true,true,true,true,true,true,true,true] rfl rfl (one_of HT_.out (by kernel_rfl)) (by decide) (fun K hK=>?_);refine goes_ Tryz.func132 (by kernel_rfl) rfl #[.pointer (some ⟨gb,0,none⟩),.string (((((⟨#[72,84,84,80,47,49,46,49,32]⟩:ByteArray)++itoaT a0_2)++(⟨#[32]⟩:ByteArray))++a0_3)++(⟨#[13,10]⟩:ByteArray))] (by rfl) rfl rfl gq12 ?_;refine(bu_write (((((⟨#[72,84,84,80,47,49,46,49,32]⟩:ByteArray)++itoaT a0_2)++(⟨#[32]⟩:ByteArray))++a0_3)++(⟨#[13,10]⟩:ByteArray)) BU0 hql.out).mono ?_;rintro e w16 ⟨rfl,hu,hb⟩;refine⟨_,rfl,?_⟩;replace BKm:=bm_keep BKm LM hb;replace HB:=bb_keep HB GEb hb;replace BU0:=hu;clear hu hb;refine hK.out _ _ ⟨(blk_cell BKm.out 2).trans rfl,(blk_cell BKm.out 3).trans rfl⟩ (fun hHeld=>?_);clear hK K;refine normA (some 27) ?_;refine done_ (done_of HT_.out (by kernel_rfl)) ?_;try go_wp2
   go_meet
   case rel=>exact⟨rfl,BKm,⟨by rw[HFI.out];exact BU0.out⟩,HB⟩
  ·have hfirst:firstT a0_0 a0_1 a0_2 a0_3=((((a0_0++(⟨#[32]⟩:ByteArray))++a0_1)++(⟨#[32,72,84,84,80,47,49,46,49]⟩:ByteArray))++(⟨#[13,10]⟩:ByteArray)):=if_neg e0;have hne:a0_0.toList.isEmpty=false:=Bool.eq_false_iff.mpr (fun h_=>e0 (List.isEmpty_iff.mp h_));have HFI:=Aside0.mk hfirst;clear hfirst e0;have y0:=HF.out.1;have y1:=HF.out.2.1;have q1:(9223372036854775807<a0_0.size+1)=False:=eq_false (by omega);have q2:(9223372036854775807<a0_0.size+1+a0_1.size)=False:=eq_false (by omega);have q3:(9223372036854775807<a0_0.size+1+a0_1.size+9)=False:=eq_false (by omega);have q4:(9223372036854775807<a0_0.size+1+a0_1.size+9+2)=False:=eq_false (by omega);have ql:(⟨#[]⟩:ByteArray).size+((((a0_0++(⟨#[32]⟩:ByteArray))++a0_1)++(⟨#[32,72,84,84,80,47,49,46,49]⟩:ByteArray))++(⟨#[13,10]⟩:ByteArray)).size≤140737488355328:=by
    simp only[app_size];show 0+(a0_0.size+1+a0_1.size+9+2)≤140737488355328
    omega
   have hql:=Aside0.mk ql;clear y0 y1 ql;(first|rw[hne]|skip)
   go_wp2_with(first|((with_reducible refine gate_callee (f:=132) rfl ?_);refine goesL_ (some 17) rfl rfl Tryz.func132 (by kernel_rfl) rfl #[.pointer (some ⟨gb,0,none⟩),.string ((((a0_0++(⟨#[32]⟩:ByteArray))++a0_1)++(⟨#[32,72,84,84,80,47,49,46,49]⟩:ByteArray))++(⟨#[13,10]⟩:ByteArray))] rfl gq12 ?_;refine(bu_write ((((a0_0++(⟨#[32]⟩:ByteArray))++a0_1)++(⟨#[32,72,84,84,80,47,49,46,49]⟩:ByteArray))++(⟨#[13,10]⟩:ByteArray)) BU0 hql.out).mono ?_;rintro e w3 ⟨rfl,hu,hb⟩;refine⟨_,rfl,?_⟩;replace BKm:=bm_keep BKm LM hb;replace HB:=bb_keep HB GEb hb;replace BU0:=hu;(try clear hu);(try clear hb);obtain⟨_,_,_,_,_,_,_⟩:=czA7 BKm));go_meet
   case rel=>exact⟨rfl,BKm,⟨by rw[HFI.out];exact BU0.out⟩,HB⟩
 case rest=>
  clear BKm HB BU0;obtain⟨rfl,BKm,BU0,HB⟩:=hcut;have hb0:linesT ((⟨#[]⟩:ByteArray)++firstT a0_0 a0_1 a0_2 a0_3) (l0_5.take 0)=(⟨#[]⟩:ByteArray)++firstT a0_0 a0_1 a0_2 a0_3:=by rw[List.take_zero];rfl
  rw[← hb0] at BU0;clear hb0;obtain⟨_,_,_,_,_,_,_⟩:=czA7 BKm;go_wp2;go_loopg [31] l0_5.length (fun kq v31 w'=>∃ n:Nat,v31 = .int .i64 (n:Int)∧Aside0 (n+kq=l0_5.length)∧Aside0 (w'.heap[gm]? = some (.cells #[.string a0_0,.string a0_1,.int .i64 a0_2,.string a0_3,.bool a0_4,.slice A0_5 l0_5.length c0_5,.string a0_6] 24 (0,0)))∧Aside0 (BU w' gb (linesT ((⟨#[]⟩:ByteArray)++firstT a0_0 a0_1 a0_2 a0_3) (l0_5.take n)))∧Aside0 (Below w.heap.size w w'))
  case atStart=>exact⟨0,rfl,⟨by omega⟩,BKm,BU0,HB⟩
  case round=>
   clear BKm BU0 HB;obtain⟨n,rfl,HN,BKm,BU0,HB⟩:=hrel;obtain⟨_,_,_,_,_,_,_⟩:=czA7 BKm;cases gk with
   |zero=>
    have hlt:decide ((n:Int)<(l0_5.length:Int))=false:=decide_eq_false (by have:=HN.out;omega);have hltN:decide (n<l0_5.length)=false:=decide_eq_false (by have:=HN.out;omega);have hn:l0_5.take n=l0_5:=List.take_of_length_le (by have:=HN.out;omega);rw[hn] at BU0;have lz:=linesT_size l0_5 ((⟨#[]⟩:ByteArray)++firstT a0_0 a0_1 a0_2 a0_3) HF.out.2.2.2.2.2.2;have fz:=firstT_size a0_0 a0_1 a0_2 a0_3 HF.out.1 HF.out.2.1 HF.out.2.2.1 HF.out.2.2.2.1;have n1:=HF.out.2.2.2.2.2.1;have y6:=HF.out.2.2.2.2.1;rw[app_size] at lz;obtain⟨tt,htt0⟩:∃ tt,linesT ((⟨#[]⟩:ByteArray)++firstT a0_0 a0_1 a0_2 a0_3) l0_5=tt:=⟨_,rfl⟩;rw[htt0] at BU0 lz;have htt:=Aside0.mk htt0;have hzt:Aside0 (tt.size≤400000000):=⟨by have e0:(⟨#[]⟩:ByteArray).size=0:=rfl;omega⟩;have hi:Aside0 ((itoaT (a0_6.size:Int)).size≤21):=⟨itoaT_size _ (by omega) (by omega)⟩;have hA9:Aside0 (strconv_Itoa_133.f (a0_6.size:Int)=some (itoaT (a0_6.size:Int))):=⟨if_pos ⟨by omega,by omega⟩⟩
    have hql:Aside0 (tt.size+(((⟨#[67,111,110,116,101,110,116,45,76,101,110,103,116,104,58,32]⟩:ByteArray)++itoaT (a0_6.size:Int))++(⟨#[13,10]⟩:ByteArray)).size≤140737488355328):=⟨by
     simp only[app_size];show tt.size+(16+(itoaT (a0_6.size:Int)).size+2)≤140737488355328
     have:=hzt.out;have:=hi.out
     omega⟩
    have q1:(9223372036854775807<16+(itoaT (a0_6.size:Int)).size)=False:=eq_false (by have:=hi.out;omega);have q2:(9223372036854775807<16+(itoaT (a0_6.size:Int)).size+2)=False:=eq_false (by have:=hi.out;omega);clear hn lz fz n1 y6 htt0;by_cases e0:a0_0.toList=([]:List UInt8)
    ·have hne:a0_0.toList.isEmpty=true:=List.isEmpty_iff.mpr e0;have E0:=Aside0.mk e0;clear e0;cases a0_4 with
     |true=>
      have hh:Aside0 (headT a0_0 a0_1 a0_2 a0_3 true l0_5 a0_6=tt++(⟨#[13,10]⟩:ByteArray)):=⟨by unfold headT;rw[htt.out];simp only;rw[if_neg (show ¬ tellsB _ _ _=true from(by unfold tellsB;rw[if_pos E0.out];decide))]⟩;have q5:(9223372036854775807<tt.size+2)=False:=eq_false (by have:=hzt.out;omega);go_wp2_with(first|((with_reducible refine gate_callee (f:=135) rfl ?_);refine goesL_ (some 65) rfl rfl Tryz.func135 (by kernel_rfl) rfl #[.pointer (some ⟨gb,0,none⟩)] rfl gq12 ?_;refine(bu_string BU0).mono ?_;rintro e w13 ⟨rfl,hb⟩;refine⟨_,rfl,?_⟩;replace HB:=bb_keep HB GEb hb;clear hb)|fail);go_ret;exact⟨by rw[hh.out];rfl,HB.out⟩
     |false=>
      have hh:Aside0 (headT a0_0 a0_1 a0_2 a0_3 false l0_5 a0_6=(tt++(((⟨#[67,111,110,116,101,110,116,45,76,101,110,103,116,104,58,32]⟩:ByteArray)++itoaT (a0_6.size:Int))++(⟨#[13,10]⟩:ByteArray)))++(⟨#[13,10]⟩:ByteArray)):=⟨by unfold headT;rw[htt.out];simp only;rw[if_pos (show tellsB _ _ _=true from(by unfold tellsB;rw[if_pos E0.out];rfl))];rfl⟩;have q5:(9223372036854775807<tt.size+(16+(itoaT (a0_6.size:Int)).size+2)+2)=False:=eq_false (by have:=hzt.out;have:=hi.out;omega);go_wp2_with(first|((with_reducible refine gate_callee (f:=133) rfl ?_);refine goesL_ (some 61) rfl rfl Tryz.func133 (by kernel_rfl) rfl #[.int .i64 (a0_6.size:Int)] rfl gq12 ?_;refine(strconv_Itoa_133.calls (a0_6.size:Int) (itoaT (a0_6.size:Int)) _ hA9.out (tab_go HT)).mono ?_;rintro e w12 ⟨rfl,hb⟩;refine⟨_,rfl,?_⟩;replace BKm:=blA (g:=gm) hb;replace BU0:=bu_below BU0 hb;replace HB:=beA hb;clear hb;obtain⟨_,_,_,_,_,_,_⟩:=czA7 BKm)|((with_reducible refine gate_callee (f:=132) rfl ?_);refine goesL_ (some 64) rfl rfl Tryz.func132 (by kernel_rfl) rfl #[.pointer (some ⟨gb,0,none⟩),.string (((⟨#[67,111,110,116,101,110,116,45,76,101,110,103,116,104,58,32]⟩:ByteArray)++itoaT (a0_6.size:Int))++(⟨#[13,10]⟩:ByteArray))] rfl gq12 ?_;refine(bu_write (((⟨#[67,111,110,116,101,110,116,45,76,101,110,103,116,104,58,32]⟩:ByteArray)++itoaT (a0_6.size:Int))++(⟨#[13,10]⟩:ByteArray)) BU0 hql.out).mono ?_;rintro e w11 ⟨rfl,hu,hb⟩;refine⟨_,rfl,?_⟩;replace BKm:=bm_keep BKm LM hb;replace HB:=bb_keep HB GEb hb;replace BU0:=hu;clear hu hb)|((with_reducible refine gate_callee (f:=135) rfl ?_);refine goesL_ (some 65) rfl rfl Tryz.func135 (by kernel_rfl) rfl #[.pointer (some ⟨gb,0,none⟩)] rfl gq12 ?_;refine(bu_string BU0).mono ?_;rintro e w13 ⟨rfl,hb⟩;refine⟨_,rfl,?_⟩;replace HB:=bb_keep HB GEb hb;clear hb));go_ret;exact⟨by rw[hh.out];rfl,HB.out⟩
    ·have hne:a0_0.toList.isEmpty=false:=Bool.eq_false_iff.mpr (fun h_=>e0 (List.isEmpty_iff.mp h_));have E0:=Aside0.mk e0;clear e0;by_cases e6:a0_6.toList=([]:List UInt8)
     ·have hn6:a0_6.toList.isEmpty=true:=List.isEmpty_iff.mpr e6;have E6:=Aside0.mk e6;clear e6;have hh:Aside0 (headT a0_0 a0_1 a0_2 a0_3 a0_4 l0_5 a0_6=tt++(⟨#[13,10]⟩:ByteArray)):=⟨by unfold headT;rw[htt.out];simp only;rw[if_neg (show ¬ tellsB _ _ _=true from(by unfold tellsB;rw[if_neg E0.out,E6.out];decide))]⟩;have q5:(9223372036854775807<tt.size+2)=False:=eq_false (by have:=hzt.out;omega);go_wp2_with(first|((with_reducible refine gate_callee (f:=135) rfl ?_);refine goesL_ (some 65) rfl rfl Tryz.func135 (by kernel_rfl) rfl #[.pointer (some ⟨gb,0,none⟩)] rfl gq12 ?_;refine(bu_string BU0).mono ?_;rintro e w13 ⟨rfl,hb⟩;refine⟨_,rfl,?_⟩;replace HB:=bb_keep HB GEb hb;clear hb)|fail);go_ret;exact⟨by rw[hh.out];rfl,HB.out⟩
     ·have hn6:a0_6.toList.isEmpty=false:=Bool.eq_false_iff.mpr (fun h_=>e6 (List.isEmpty_iff.mp h_));have E6:=Aside0.mk e6;clear e6;have hh:Aside0 (headT a0_0 a0_1 a0_2 a0_3 a0_4 l0_5 a0_6=(tt++(((⟨#[67,111,110,116,101,110,116,45,76,101,110,103,116,104,58,32]⟩:ByteArray)++itoaT (a0_6.size:Int))++(⟨#[13,10]⟩:ByteArray)))++(⟨#[13,10]⟩:ByteArray)):=⟨by unfold headT;rw[htt.out];simp only;rw[if_pos (show tellsB _ _ _=true from(by unfold tellsB;rw[if_neg E0.out];exact bne_iff_ne.mpr E6.out))];rfl⟩;have q5:(9223372036854775807<tt.size+(16+(itoaT (a0_6.size:Int)).size+2)+2)=False:=eq_false (by have:=hzt.out;have:=hi.out;omega);go_wp2_with(first|((with_reducible refine gate_callee (f:=133) rfl ?_);refine goesL_ (some 61) rfl rfl Tryz.func133 (by kernel_rfl) rfl #[.int .i64 (a0_6.size:Int)] rfl gq12 ?_;refine(strconv_Itoa_133.calls (a0_6.size:Int) (itoaT (a0_6.size:Int)) _ hA9.out (tab_go HT)).mono ?_;rintro e w12 ⟨rfl,hb⟩;refine⟨_,rfl,?_⟩;replace BKm:=blA (g:=gm) hb;replace BU0:=bu_below BU0 hb;replace HB:=beA hb;clear hb;obtain⟨_,_,_,_,_,_,_⟩:=czA7 BKm)|((with_reducible refine gate_callee (f:=132) rfl ?_);refine goesL_ (some 64) rfl rfl Tryz.func132 (by kernel_rfl) rfl #[.pointer (some ⟨gb,0,none⟩),.string (((⟨#[67,111,110,116,101,110,116,45,76,101,110,103,116,104,58,32]⟩:ByteArray)++itoaT (a0_6.size:Int))++(⟨#[13,10]⟩:ByteArray))] rfl gq12 ?_;refine(bu_write (((⟨#[67,111,110,116,101,110,116,45,76,101,110,103,116,104,58,32]⟩:ByteArray)++itoaT (a0_6.size:Int))++(⟨#[13,10]⟩:ByteArray)) BU0 hql.out).mono ?_;rintro e w11 ⟨rfl,hu,hb⟩;refine⟨_,rfl,?_⟩;replace BKm:=bm_keep BKm LM hb;replace HB:=bb_keep HB GEb hb;replace BU0:=hu;clear hu hb)|((with_reducible refine gate_callee (f:=135) rfl ?_);refine goesL_ (some 65) rfl rfl Tryz.func135 (by kernel_rfl) rfl #[.pointer (some ⟨gb,0,none⟩)] rfl gq12 ?_;refine(bu_string BU0).mono ?_;rintro e w13 ⟨rfl,hb⟩;refine⟨_,rfl,?_⟩;replace HB:=bb_keep HB GEb hb;clear hb));go_ret;exact⟨by rw[hh.out];rfl,HB.out⟩
   |succ k1=>
    have hn:n<l0_5.length:=by have:=HN.out;omega
    have hlt:decide ((n:Int)<(l0_5.length:Int))=true:=decide_eq_true (by omega);have ll:=linesT_take l0_5 ((⟨#[]⟩:ByteArray)++firstT a0_0 a0_1 a0_2 a0_3) n hn;have lz:=linesT_size (l0_5.take n) ((⟨#[]⟩:ByteArray)++firstT a0_0 a0_1 a0_2 a0_3) (fun f hf=>HF.out.2.2.2.2.2.2 f (List.mem_of_mem_take hf));have fz:=firstT_size a0_0 a0_1 a0_2 a0_3 HF.out.1 HF.out.2.1 HF.out.2.2.1 HF.out.2.2.2.1;have mem:rd_T41 l0_5 (n:Int)∈l0_5:=by
     have e:rd_T41 l0_5 (n:Int)=l0_5[n]:=by
      unfold rd_T41;rw[Int.toNat_natCast,List.getD_eq_getElem?_getD,List.getElem?_eq_getElem hn];rfl
     rw[e];exact List.getElem_mem hn
    have gz:=HF.out.2.2.2.2.2.2 _ mem;have gl:=lineT_size _ gz.1 gz.2;have n1:=HF.out.2.2.2.2.2.1;rw[app_size,List.length_take] at lz
    have hql:Aside0 ((linesT ((⟨#[]⟩:ByteArray)++firstT a0_0 a0_1 a0_2 a0_3) (l0_5.take n)).size+(((((rd_T41 l0_5 (n:Int)).f0++(⟨#[58,32]⟩:ByteArray))++(rd_T41 l0_5 (n:Int)).f1))++(⟨#[13,10]⟩:ByteArray)).size≤140737488355328):=⟨by
     show _+(lineT (rd_T41 l0_5 (n:Int))).size≤_
     have e0:(⟨#[]⟩:ByteArray).size=0:=rfl
     omega⟩
    have q1:(9223372036854775807<(rd_T41 l0_5 (n:Int)).f0.size+2+(rd_T41 l0_5 (n:Int)).f1.size+2)=False:=eq_false (by omega);have q2:(9223372036854775807<((((rd_T41 l0_5 (n:Int)).f0++(⟨#[58,32]⟩:ByteArray))++(rd_T41 l0_5 (n:Int)).f1)).size+2)=False:=eq_false (by simp only[app_size];show ¬ (9223372036854775807<(rd_T41 l0_5 (n:Int)).f0.size+2+(rd_T41 l0_5 (n:Int)).f1.size+2);omega)
    have A6:Aside0 (impl_fieldText.f (rd_T41 l0_5 (n:Int)).f0 (rd_T41 l0_5 (n:Int)).f1=some ((((rd_T41 l0_5 (n:Int)).f0++(⟨#[58,32]⟩:ByteArray))++(rd_T41 l0_5 (n:Int)).f1))):=⟨by
     unfold impl_fieldText.f
     rw[if_pos (by omega),if_pos (by rw[app_size];show(rd_T41 l0_5 (n:Int)).f0.size+2+(rd_T41 l0_5 (n:Int)).f1.size≤_;omega)]⟩
    have LL:=Aside0.mk ll;have hw:Aside0 (wrap64 ((n:Int)+1)=((n+1:Nat):Int)):=⟨by have:=HN.out;unfold wrap64;omega⟩;clear ll lz fz mem gz gl n1;have p943:0≤(n:Int):=by omega
    have q943:(n:Int)<(l0_5.length:Int):=by omega
    obtain⟨ad943,e943,hx943_0,hx943_1⟩:=at_T41 HR0.out (n:Int) p943 q943;cases e943
    replace hx943_0:=(HB.out.cell (World.block_lt_of_cell? w _ hx943_0)).trans hx943_0;replace hx943_1:=(HB.out.cell (World.block_lt_of_cell? w _ hx943_1)).trans hx943_1;simp only[Int.toNat_natCast] at hx943_0 hx943_1;replace p943:=eq_true p943;replace q943:=eq_true q943;clear hn;go_wp2_with(first|((with_reducible refine gate_dst (N:=5) rfl ?_);refine boxA #[.string (⟨#[]⟩:ByteArray),.string (⟨#[]⟩:ByteArray)] 41 ?_;intro gf hg w8 hbox hb;have BKf:=Aside0.mk (hbox);have LTf:=neA (g:=gm) hg;replace BKm:=blA (g:=gm) hb;have HBf:=Aside0.mk hb;have GEr:=Aside0.mk (Nat.le_of_eq hg.symm);have GEf:=geA hg;replace HB:=beA hb;clear hb hbox hg;obtain⟨_,_⟩:=czA2 BKf;obtain⟨_,_⟩:=cfA2 BKf)|((with_reducible refine gate_callee (f:=134) rfl ?_);refine goesL_ (some 36) rfl rfl Tryz.func134 (by kernel_rfl) rfl #[.agg #[.string (rd_T41 l0_5 (n:Int)).f0,.string (rd_T41 l0_5 (n:Int)).f1]] rfl gq12 ?_;(with_reducible refine(impl_fieldText.calls (rd_T41 l0_5 (n:Int)).f0 (rd_T41 l0_5 (n:Int)).f1 (((rd_T41 l0_5 (n:Int)).f0++(⟨#[58,32]⟩:ByteArray))++(rd_T41 l0_5 (n:Int)).f1) _ A6.out).mono ?_);rintro e w10 ⟨rfl,hb⟩;refine⟨_,rfl,?_⟩;replace BKm:=blA (g:=gm) hb;replace HBf:=Aside0.mk (below_step (by repeat(first|exact HBf.out|refine below_set ?_ GEr.out)) hb);replace HB:=beA hb;clear hb)|((with_reducible refine gate_callee (f:=132) rfl ?_);refine goesL_ (some 38) rfl rfl Tryz.func132 (by kernel_rfl) rfl #[.pointer (some ⟨gb,0,none⟩),.string ((((rd_T41 l0_5 (n:Int)).f0++(⟨#[58,32]⟩:ByteArray))++(rd_T41 l0_5 (n:Int)).f1)++(⟨#[13,10]⟩:ByteArray))] rfl gq12 ?_;refine(bu_write ((((rd_T41 l0_5 (n:Int)).f0++(⟨#[58,32]⟩:ByteArray))++(rd_T41 l0_5 (n:Int)).f1)++(⟨#[13,10]⟩:ByteArray)) (bu_below BU0 HBf.out) hql.out).mono ?_;rintro e w11 ⟨rfl,hu,hb⟩;refine⟨_,rfl,?_⟩;replace BKm:=bm_keep BKm LM hb;replace HB:=bb_keep HB GEb hb;have BU1:=hu;clear hu hb));go_roundg k1
    case measure=>omega
    case rel=>exact⟨n+1,by first|rfl|(rw[hw.out]),⟨by have:=HN.out;omega⟩,BKm,⟨by rw[LL.out];exact BU1.out⟩,HB⟩


mutual
def impl_MsgOk.j0 : Nat→Bool→ByteArray→ByteArray→Int→ByteArray→Bool→List (S41)→ByteArray→Option (Bool)
 |0,_,_,_,_,_,_,_,_=>none
 |k+1,x20,x1163000,x1163001,x1163002,x1163003,x1163004,x1163005,x1163006=>if x20=true then(some false) else((impl_framed.f).bind fun t1164=>(impl_MsgOk.l0 k t1164 (t1164.length:Int) 0 x1163000 x1163001 x1163002 x1163003 x1163004 x1163005 x1163006))
def impl_MsgOk.l0 : Nat→List ByteArray→Int→Int→ByteArray→ByteArray→Int→ByteArray→Bool→List (S41)→ByteArray→Option (Bool)
 |0,_,_,_,_,_,_,_,_,_,_=>none
 |k+1,x21,x22,x23,x1163000,x1163001,x1163002,x1163003,x1163004,x1163005,x1163006=>if x23<x22 then(if 0≤x23 then(if x23<(x21.length:Int) then((impl_hasField.f k x1163005 (rdOf ByteArray.empty x21 x23)).bind fun t1168=>(if t1168=true then(some false) else(impl_MsgOk.l0 k x21 x22 (wrap64 (x23+1)) x1163000 x1163001 x1163002 x1163003 x1163004 x1163005 x1163006))) else(none)) else(none)) else(if x1163000.toList=([]:List UInt8) then(if x1163001.toList=([]:List UInt8) then((impl_isStatus.f x1163002).bind fun t1169=>(if t1169=true then((impl_isReason.f k x1163003).bind fun t1170=>(if t1170=true then(if x1163004=true then(if x1163006.toList=([]:List UInt8) then((impl_isBareStatus.f x1163002).bind fun t1171=>(if t1171=true then((impl_writeHead.f x1163000 x1163001 x1163002 x1163003 x1163004 x1163005 x1163006).bind fun t1172=>(some (decide ((t1172.size:Int)≤1500)))) else((impl_writeHead.f x1163000 x1163001 x1163002 x1163003 x1163004 x1163005 x1163006).bind fun t1173=>(some (decide ((t1173.size:Int)≤1500)))))) else(some false)) else((impl_isBareStatus.f x1163002).bind fun t1174=>(if t1174=true then(some false) else((impl_writeHead.f x1163000 x1163001 x1163002 x1163003 x1163004 x1163005 x1163006).bind fun t1175=>(some (decide ((t1175.size:Int)≤1500))))))) else(some false))) else(some false))) else(some false)) else((impl_isMethod.f k x1163000).bind fun t1176=>(if t1176=true then((impl_isTarget.f k x1163001).bind fun t1177=>(if t1177=true then(if x1163002=0 then(if x1163003.toList=([]:List UInt8) then(if x1163004=true then(some false) else((impl_writeHead.f x1163000 x1163001 x1163002 x1163003 x1163004 x1163005 x1163006).bind fun t1178=>(some (decide ((t1178.size:Int)≤1500))))) else(some false)) else(some false)) else(some false))) else(some false))))
end
def impl_MsgOk.f (k:Nat) (a0_0:ByteArray) (a0_1:ByteArray) (a0_2:Int) (a0_3:ByteArray) (a0_4:Bool) (l0_5:List (S41)) (a0_6:ByteArray):Option (Bool):=(impl_FieldsOk.f k l0_5).bind fun t1163=>(if t1163=true then(if(l0_5.length:Int)≥20 then(impl_MsgOk.j0 k true a0_0 a0_1 a0_2 a0_3 a0_4 l0_5 a0_6) else(impl_MsgOk.j0 k (decide ((a0_6.size:Int)>600)) a0_0 a0_1 a0_2 a0_3 a0_4 l0_5 a0_6)) else(impl_MsgOk.j0 k true a0_0 a0_1 a0_2 a0_3 a0_4 l0_5 a0_6))
theorem impl_MsgOk.mono_l : ∀ k,(∀ y0 y1 y2 y3 y4 y5 y6 y7,LeO (impl_MsgOk.j0 k y0 y1 y2 y3 y4 y5 y6 y7) (impl_MsgOk.j0 (k+1) y0 y1 y2 y3 y4 y5 y6 y7))∧(∀ y0 y1 y2 y3 y4 y5 y6 y7 y8 y9,LeO (impl_MsgOk.l0 k y0 y1 y2 y3 y4 y5 y6 y7 y8 y9) (impl_MsgOk.l0 (k+1) y0 y1 y2 y3 y4 y5 y6 y7 y8 y9))
 |0=>⟨fun _ _ _ _ _ _ _ _ r h=>by simp[impl_MsgOk.j0] at h,fun _ _ _ _ _ _ _ _ _ _ r h=>by simp[impl_MsgOk.l0] at h⟩
 |k+1=>by
  obtain⟨ih0,ih1⟩:=impl_MsgOk.mono_l k
  refine⟨?_,?_⟩
  ·intro y0 y1 y2 y3 y4 y5 y6 y7
   unfold impl_MsgOk.j0
   repeat' first|(with_reducible first|exact ih0 ..|exact ih1 ..|exact impl_FieldsOk.mono ..|exact impl_hasField.mono ..|exact impl_isMethod.mono ..|exact impl_isReason.mono ..|exact impl_isTarget.mono ..|exact LeO.refl ..|exact LeO.none ..|refine LeO.ite ?_ ?_|refine LeO.bind ?_ (fun _=>?_))|exact ih0 ..|exact ih1 ..
  ·intro y0 y1 y2 y3 y4 y5 y6 y7 y8 y9
   unfold impl_MsgOk.l0
   repeat' first|(with_reducible first|exact ih0 ..|exact ih1 ..|exact impl_FieldsOk.mono ..|exact impl_hasField.mono ..|exact impl_isMethod.mono ..|exact impl_isReason.mono ..|exact impl_isTarget.mono ..|exact LeO.refl ..|exact LeO.none ..|refine LeO.ite ?_ ?_|refine LeO.bind ?_ (fun _=>?_))|exact ih0 ..|exact ih1 ..
theorem impl_MsgOk.mono : ∀ a0 a1 a2 a3 a4 a5 a6 k,LeO (impl_MsgOk.f k a0 a1 a2 a3 a4 a5 a6) (impl_MsgOk.f (k+1) a0 a1 a2 a3 a4 a5 a6):=by
 intro a0 a1 a2 a3 a4 a5 a6 k
 obtain⟨ih0,ih1⟩:=impl_MsgOk.mono_l k
 unfold impl_MsgOk.f
 repeat' first|(with_reducible first|exact ih0 ..|exact ih1 ..|exact impl_FieldsOk.mono ..|exact impl_hasField.mono ..|exact impl_isMethod.mono ..|exact impl_isReason.mono ..|exact impl_isTarget.mono ..|exact LeO.refl ..|exact LeO.none ..|refine LeO.ite ?_ ?_|refine LeO.bind ?_ (fun _=>?_))|exact ih0 ..|exact ih1 ..
set_option maxHeartbeats 8000000 in
set_option maxRecDepth 100000 in
theorem impl_MsgOk.calls (k:Nat) (a0_0 a0_1:ByteArray) (a0_2:Int) (a0_3:ByteArray) (a0_4:Bool) (A0_5:Option Addr) (c0_5:Nat) (l0_5:List (S41)) (a0_6:ByteArray) (r:Bool) (w:World) (hr0_5:Kd.C k41 w A0_5 l0_5.length l0_5) (hc0_5:l0_5.length≤c0_5) (h:impl_MsgOk.f k a0_0 a0_1 a0_2 a0_3 a0_4 l0_5 a0_6=some r) (HT0:Tab10 w) :
  Calls Tryz.prog 62 #[.agg #[.string a0_0,.string a0_1,.int .i64 a0_2,.string a0_3,.bool a0_4,.slice A0_5 l0_5.length c0_5,.string a0_6]] w fun e w'=>e = .returned (.bool r)∧Below w.heap.size w w':=by
 have HT:=Aside0.mk HT0;clear HT0;have hu24:=Tryz.underlying24;have HR0_5:=Aside0.mk hr0_5;have HC0_5:=Aside0.mk hc0_5;clear hr0_5 hc0_5;have HB:=Aside0.mk (Below.refl w.heap.size w);have H:=h;clear h;unfold impl_MsgOk.f at H;have HC2:=Aside0.mk H;clear H;go_enter Tryz.func62,Tryz.ntmps62;go_upto_region 1 with(first|((with_reducible refine gate_dst (N:=1) rfl ?_);refine boxG #[.string a0_0,.string a0_1,.int .i64 a0_2,.string a0_3,.bool a0_4,.slice A0_5 l0_5.length c0_5,.string a0_6] 24 ?_;intro gb1162 hg w3 hbox hb;have BK1162:=Aside0.mk (hbox);have GE1162:=geA hg;replace HB:=beA hb;clear hb hbox hg));(try simp only[Act.put,List.setIfInBounds_toArray,List.set_cons_zero,List.set_cons_succ])
 go_cut [20] (fun v20 wc=>∃(kq:Nat) (x20_1:Bool),v20 = .bool x20_1∧Aside0 (impl_MsgOk.j0 kq x20_1 a0_0 a0_1 a0_2 a0_3 a0_4 l0_5 a0_6=some r)∧Aside0 (kq≤k)∧Aside0 (wc.heap[gb1162]? = some (.cells #[.string a0_0,.string a0_1,.int .i64 a0_2,.string a0_3,.bool a0_4,(.slice A0_5 l0_5.length c0_5),.string a0_6] 24 (0,0)))∧Aside0 (Below w.heap.size w wc))
 case first=>
  have H:=HC2.out;clear HC2;replace H:=gD H;obtain⟨t1163,A4,H⟩:=H;replace H:=gB H;rcases H with⟨rfl,H⟩|⟨rfl,H⟩
  ·replace H:=gI H;rcases H with⟨c6,-,-,H⟩|⟨c6,-,-,H⟩
   ·have c6b0:decide (20≤(l0_5.length:Int))=true:=decide_eq_true c6;have c6b1:decide (20≤l0_5.length)=true:=decide_eq_true (by omega);clear c6;(first|rw[c6b0]|(simp only[i64_w,i32_w];rw[c6b0])|skip)
    have H':=Aside0.mk H;clear H;obtain⟨_,_,_,_,_,_,_⟩:=czA7 BK1162;obtain⟨_,_,_,_,_,_,_⟩:=cfA7 BK1162;go_wp2_with(first|((with_reducible refine gate_callee (f:=92) rfl ?_);refine goesL_ (some 7) rfl rfl Tryz.func92 (by kernel_rfl) rfl #[.slice A0_5 l0_5.length c0_5] rfl gq0 ?_;(with_reducible refine(impl_FieldsOk.calls k _ _ l0_5 true _ ?side1 ?side2 A4.out).mono ?_);(case side1=>repeat(first|exact(Kd.C_below HR0_5.out HB.out)|(with_reducible refine Kd.C_alloc ?_ _)|(with_reducible refine Kd.C_drewN ?_ _)|(with_reducible refine Kd.C_drew ?_)));(case side2=>exact HC0_5.out);rintro e w8 ⟨rfl,hb⟩;refine⟨_,rfl,?_⟩;replace BK1162:=blA (g:=gb1162) hb;replace HB:=beA hb;(try clear hb);obtain⟨_,_,_,_,_,_,_⟩:=czA7 BK1162;obtain⟨_,_,_,_,_,_,_⟩:=cfA7 BK1162));go_meet
    case rel=>exact⟨_,(true),gq3,H',⟨gq9⟩,⟨gBk⟩,⟨gBe⟩⟩
   ·have c6b0:decide (20≤(l0_5.length:Int))=false:=decide_eq_false c6;have c6b1:decide (20≤l0_5.length)=false:=decide_eq_false (by omega);clear c6;(first|rw[c6b0]|(simp only[i64_w,i32_w];rw[c6b0])|skip)
    have H':=Aside0.mk H;clear H;obtain⟨_,_,_,_,_,_,_⟩:=czA7 BK1162;obtain⟨_,_,_,_,_,_,_⟩:=cfA7 BK1162;go_wp2_with(first|((with_reducible refine gate_callee (f:=92) rfl ?_);refine goesL_ (some 7) rfl rfl Tryz.func92 (by kernel_rfl) rfl #[.slice A0_5 l0_5.length c0_5] rfl gq0 ?_;(with_reducible refine(impl_FieldsOk.calls k _ _ l0_5 true _ ?side1 ?side2 A4.out).mono ?_);(case side1=>repeat(first|exact(Kd.C_below HR0_5.out HB.out)|(with_reducible refine Kd.C_alloc ?_ _)|(with_reducible refine Kd.C_drewN ?_ _)|(with_reducible refine Kd.C_drew ?_)));(case side2=>exact HC0_5.out);rintro e w11 ⟨rfl,hb⟩;refine⟨_,rfl,?_⟩;replace BK1162:=blA (g:=gb1162) hb;replace HB:=beA hb;(try clear hb);obtain⟨_,_,_,_,_,_,_⟩:=czA7 BK1162;obtain⟨_,_,_,_,_,_,_⟩:=cfA7 BK1162));go_meet
    case rel=>exact⟨_,(decide ((a0_6.size:Int)>600)),gq3,H',⟨gq9⟩,⟨gBk⟩,⟨gBe⟩⟩
  ·have H':=Aside0.mk H;clear H;obtain⟨_,_,_,_,_,_,_⟩:=czA7 BK1162;obtain⟨_,_,_,_,_,_,_⟩:=cfA7 BK1162;go_wp2_with(first|((with_reducible refine gate_callee (f:=92) rfl ?_);refine goesL_ (some 7) rfl rfl Tryz.func92 (by kernel_rfl) rfl #[.slice A0_5 l0_5.length c0_5] rfl gq0 ?_;(with_reducible refine(impl_FieldsOk.calls k _ _ l0_5 false _ ?side1 ?side2 A4.out).mono ?_);(case side1=>repeat(first|exact(Kd.C_below HR0_5.out HB.out)|(with_reducible refine Kd.C_alloc ?_ _)|(with_reducible refine Kd.C_drewN ?_ _)|(with_reducible refine Kd.C_drew ?_)));(case side2=>exact HC0_5.out);rintro e w14 ⟨rfl,hb⟩;refine⟨_,rfl,?_⟩;replace BK1162:=blA (g:=gb1162) hb;replace HB:=beA hb;(try clear hb)));go_meet
   case rel=>exact⟨_,(true),gq3,H',⟨gq9⟩,⟨gBk⟩,⟨gBe⟩⟩
 case rest=>
  clear HC2;obtain⟨kq,x20_1,rfl,HA,HJ1,BK1162,HB⟩:=hcut;cases kq with
  |zero=>exact absurd HA.out (by simp[impl_MsgOk.j0])
  |succ kj1=>
   have H:=HA.out;clear HA;simp only[impl_MsgOk.j0] at H;replace H:=gB H;rcases H with⟨rfl,H⟩|⟨rfl,H⟩
   ·obtain rfl:=Option.some.inj H;go_wp2;go_ret;exact⟨gq1,gBe⟩
   ·replace H:=gD H;obtain⟨t1164,A16,H⟩:=H;have H':=Aside0.mk H;clear H;go_wp2_with(first|((with_reducible refine gate_callee (f:=60) rfl ?_);refine goesL_ (some 21) rfl rfl Tryz.func60 (by kernel_rfl) rfl #[] rfl gq0 ?_;(with_reducible refine(impl_framed.calls  t1164 _ A16.out).mono ?_);rintro e w17 ⟨v1165,rfl,ho0,hb⟩;refine⟨_,rfl,?_⟩;have HO1166:=Aside0.mk (Kd.R_lower ho0 (below_size gBe));replace BK1162:=blA (g:=gb1162) hb;replace HB:=beA hb;(try clear hb);(try clear ho0);obtain⟨Ao18,co18,eo18⟩:=Kd.R_slice HO1166.out;subst eo18));go_loopg [23] kj1 (fun kq v23 w'=>∃(x23_2:Int),v23 = .int .i64 x23_2∧Aside0 (impl_MsgOk.l0 kq t1164 (t1164.length:Int) x23_2 a0_0 a0_1 a0_2 a0_3 a0_4 l0_5 a0_6=some r)∧Aside0 (kq≤kj1)∧Aside0 (Kd.R Kd.string 9 w' w.heap.size (fun _=>True) (.slice Ao18 t1164.length co18) t1164)∧Aside0 (w'.heap[gb1162]? = some (.cells #[.string a0_0,.string a0_1,.int .i64 a0_2,.string a0_3,.bool a0_4,(.slice A0_5 l0_5.length c0_5),.string a0_6] 24 (0,0)))∧Aside0 (Below w.heap.size w w'))
    case atStart=>exact⟨(0),gq3,H',⟨Nat.le_refl _⟩,⟨gRo⟩,⟨gBk⟩,⟨gBe⟩⟩
    case round=>
     clear H';obtain⟨x23_2,rfl,HA,HK2,HO_21,BK1162,HB⟩:=hrel;cases gk with
     |zero=>exact absurd HA.out (by simp[impl_MsgOk.l0])
     |succ k2=>
      have H:=HA.out;clear HA;simp only[impl_MsgOk.l0] at H;replace H:=gI H;rcases H with⟨-,c19b0,-,H⟩|⟨-,c19b0,-,H⟩
      ·replace H:=gN H;obtain⟨-,c20b0,-,H⟩:=H;replace H:=gN H;obtain⟨-,c21b0,-,H⟩:=H;replace H:=gD H;obtain⟨t1168,A22,H⟩:=H;replace H:=gB H;rcases H with⟨rfl,H⟩|⟨rfl,H⟩
       ·obtain rfl:=Option.some.inj H;have p1167:0≤(x23_2:Int):=of_decide_eq_true gq4;have q1167:x23_2<(t1164.length:Int):=of_decide_eq_true gq4;obtain⟨ad1167,e1167,hx1167_0⟩:=Kd.at_string (Kd.R_reads' HO_21.out).2.2 x23_2 p1167 q1167;cases e1167
        replace p1167:=eq_true p1167;replace q1167:=eq_true q1167;obtain⟨_,_,_,_,_,_,_⟩:=czA7 BK1162;obtain⟨_,_,_,_,_,_,_⟩:=cfA7 BK1162;go_wp2_with(first|((with_reducible refine gate_callee (f:=93) rfl ?_);refine goesL_ (some 30) rfl rfl Tryz.func93 (by kernel_rfl) rfl #[.slice A0_5 l0_5.length c0_5,.string (rdOf ByteArray.empty t1164 x23_2)] rfl gq0 ?_;(with_reducible refine(impl_hasField.calls k2 _ _ l0_5 (rdOf ByteArray.empty t1164 x23_2) true _ ?side1 ?side2 A22.out).mono ?_);(case side1=>repeat(first|exact(Kd.C_below HR0_5.out HB.out)|(with_reducible refine Kd.C_alloc ?_ _)|(with_reducible refine Kd.C_drewN ?_ _)|(with_reducible refine Kd.C_drew ?_)));(case side2=>exact HC0_5.out);rintro e w25 ⟨rfl,hb⟩;refine⟨_,rfl,?_⟩;replace HO_21:=Aside0.mk (Kd.R_below gq45 hb);replace BK1162:=blA (g:=gb1162) hb;replace HB:=beA hb;(try clear hb)));go_ret;exact⟨gq1,gBe⟩
       ·have H':=Aside0.mk H;clear H;have p1167:0≤(x23_2:Int):=of_decide_eq_true gq4;have q1167:x23_2<(t1164.length:Int):=of_decide_eq_true gq4;obtain⟨ad1167,e1167,hx1167_0⟩:=Kd.at_string (Kd.R_reads' HO_21.out).2.2 x23_2 p1167 q1167;cases e1167
        replace p1167:=eq_true p1167;replace q1167:=eq_true q1167;obtain⟨_,_,_,_,_,_,_⟩:=czA7 BK1162;obtain⟨_,_,_,_,_,_,_⟩:=cfA7 BK1162;go_wp2_with(first|((with_reducible refine gate_callee (f:=93) rfl ?_);refine goesL_ (some 30) rfl rfl Tryz.func93 (by kernel_rfl) rfl #[.slice A0_5 l0_5.length c0_5,.string (rdOf ByteArray.empty t1164 x23_2)] rfl gq0 ?_;(with_reducible refine(impl_hasField.calls k2 _ _ l0_5 (rdOf ByteArray.empty t1164 x23_2) false _ ?side1 ?side2 A22.out).mono ?_);(case side1=>repeat(first|exact(Kd.C_below HR0_5.out HB.out)|(with_reducible refine Kd.C_alloc ?_ _)|(with_reducible refine Kd.C_drewN ?_ _)|(with_reducible refine Kd.C_drew ?_)));(case side2=>exact HC0_5.out);rintro e w27 ⟨rfl,hb⟩;refine⟨_,rfl,?_⟩;replace HO_21:=Aside0.mk (Kd.R_below gq45 hb);replace BK1162:=blA (g:=gb1162) hb;replace HB:=beA hb;(try clear hb)));go_roundg k2
        case measure=>have:=HJ1.out;have:=HK2.out;omega
        case rel=>exact⟨(wrap64 (x23_2+1)),gq3,H',⟨gq61⟩,⟨gRo⟩,⟨gBk⟩,⟨gBe⟩⟩
      ·replace H:=gI H;rcases H with⟨c28,-,-,H⟩|⟨c28,-,-,H⟩
       ·obtain⟨c28b0,c28b1⟩:=gEt c28;clear c28;replace H:=gI H;rcases H with⟨c29,-,-,H⟩|⟨c29,-,-,H⟩
        ·obtain⟨c29b0,c29b1⟩:=gEt c29;clear c29;replace H:=gD H;obtain⟨t1169,A30,H⟩:=H;replace H:=gB H;rcases H with⟨rfl,H⟩|⟨rfl,H⟩
         ·replace H:=gD H;obtain⟨t1170,A32,H⟩:=H;replace H:=gB H;rcases H with⟨rfl,H⟩|⟨rfl,H⟩
          ·replace H:=gB H;rcases H with⟨rfl,H⟩|⟨rfl,H⟩
           ·replace H:=gI H;rcases H with⟨c35,-,-,H⟩|⟨c35,-,-,H⟩
            ·obtain⟨c35b0,c35b1⟩:=gEt c35;clear c35;replace H:=gD H;obtain⟨t1171,A36,H⟩:=H;replace H:=gB H;rcases H with⟨rfl,H⟩|⟨rfl,H⟩
             ·replace H:=gD H;obtain⟨t1172,A38,H⟩:=H;obtain rfl:=Option.some.inj H;obtain⟨_,_,_,_,_,_,_⟩:=czA7 BK1162;obtain⟨_,_,_,_,_,_,_⟩:=cfA7 BK1162;go_wp2_with(first|(go_at_call 39;(with_reducible refine(impl_isStatus.calls a0_2 true _ A30.out).mono ?_);rintro e w' ⟨rfl,⟨nd,rfl⟩⟩)|(go_at_call 40;(with_reducible refine(impl_isReason.calls k2 a0_3 true _ A32.out).mono ?_);rintro e w' ⟨rfl,⟨nd,rfl⟩⟩)|(go_at_call 54;(with_reducible refine(impl_isBareStatus.calls a0_2 true _ A36.out).mono ?_);rintro e w' ⟨rfl,⟨nd,rfl⟩⟩)|((with_reducible refine gate_callee (f:=101) rfl ?_);refine goesL_ (some 94) rfl rfl Tryz.func101 (by kernel_rfl) rfl #[.agg #[.string a0_0,.string a0_1,.int .i64 a0_2,.string a0_3,.bool true,.slice A0_5 l0_5.length c0_5,.string a0_6]] rfl gq0 ?_;(with_reducible refine(impl_writeHead.calls a0_0 a0_1 a0_2 a0_3 true _ _ l0_5 a0_6 t1172 _ ?side1 ?side2 A38.out ?hT).mono ?_);(case hT=>exact tab_go HT);(case side1=>repeat(first|exact(Kd.C_below HR0_5.out gBe)|(with_reducible refine Kd.C_alloc ?_ _)|(with_reducible refine Kd.C_drewN ?_ _)|(with_reducible refine Kd.C_drew ?_)));(case side2=>exact HC0_5.out);rintro e w40 ⟨rfl,hb⟩;refine⟨_,rfl,?_⟩;replace HO_21:=Aside0.mk (Kd.R_below gq45 hb);replace BK1162:=blA (g:=gb1162) hb;replace HB:=beA hb;(try clear hb)));go_ret;exact⟨gq1,gBe⟩
             ·replace H:=gD H;obtain⟨t1173,A41,H⟩:=H;obtain rfl:=Option.some.inj H;obtain⟨_,_,_,_,_,_,_⟩:=czA7 BK1162;obtain⟨_,_,_,_,_,_,_⟩:=cfA7 BK1162;go_wp2_with(first|(go_at_call 39;(with_reducible refine(impl_isStatus.calls a0_2 true _ A30.out).mono ?_);rintro e w' ⟨rfl,⟨nd,rfl⟩⟩)|(go_at_call 40;(with_reducible refine(impl_isReason.calls k2 a0_3 true _ A32.out).mono ?_);rintro e w' ⟨rfl,⟨nd,rfl⟩⟩)|(go_at_call 54;(with_reducible refine(impl_isBareStatus.calls a0_2 false _ A36.out).mono ?_);rintro e w' ⟨rfl,⟨nd,rfl⟩⟩)|((with_reducible refine gate_callee (f:=101) rfl ?_);refine goesL_ (some 94) rfl rfl Tryz.func101 (by kernel_rfl) rfl #[.agg #[.string a0_0,.string a0_1,.int .i64 a0_2,.string a0_3,.bool true,.slice A0_5 l0_5.length c0_5,.string a0_6]] rfl gq0 ?_;(with_reducible refine(impl_writeHead.calls a0_0 a0_1 a0_2 a0_3 true _ _ l0_5 a0_6 t1173 _ ?side1 ?side2 A41.out ?hT).mono ?_);(case hT=>exact tab_go HT);(case side1=>repeat(first|exact(Kd.C_below HR0_5.out gBe)|(with_reducible refine Kd.C_alloc ?_ _)|(with_reducible refine Kd.C_drewN ?_ _)|(with_reducible refine Kd.C_drew ?_)));(case side2=>exact HC0_5.out);rintro e w43 ⟨rfl,hb⟩;refine⟨_,rfl,?_⟩;replace HO_21:=Aside0.mk (Kd.R_below gq45 hb);replace BK1162:=blA (g:=gb1162) hb;replace HB:=beA hb;(try clear hb)));go_ret;exact⟨gq1,gBe⟩
            ·obtain⟨c35b0,c35b1⟩:=gEf c35;obtain rfl:=Option.some.inj H;obtain⟨_,_,_,_,_,_,_⟩:=czA7 BK1162;obtain⟨_,_,_,_,_,_,_⟩:=cfA7 BK1162;go_wp2_with(first|(go_at_call 39;(with_reducible refine(impl_isStatus.calls a0_2 true _ A30.out).mono ?_);rintro e w' ⟨rfl,⟨nd,rfl⟩⟩)|(go_at_call 40;(with_reducible refine(impl_isReason.calls k2 a0_3 true _ A32.out).mono ?_);rintro e w' ⟨rfl,⟨nd,rfl⟩⟩));go_ret;exact⟨gq1,gBe⟩
           ·replace H:=gD H;obtain⟨t1174,A45,H⟩:=H;replace H:=gB H;rcases H with⟨rfl,H⟩|⟨rfl,H⟩
            ·obtain rfl:=Option.some.inj H;obtain⟨_,_,_,_,_,_,_⟩:=czA7 BK1162;obtain⟨_,_,_,_,_,_,_⟩:=cfA7 BK1162;go_wp2_with(first|(go_at_call 39;(with_reducible refine(impl_isStatus.calls a0_2 true _ A30.out).mono ?_);rintro e w' ⟨rfl,⟨nd,rfl⟩⟩)|(go_at_call 40;(with_reducible refine(impl_isReason.calls k2 a0_3 true _ A32.out).mono ?_);rintro e w' ⟨rfl,⟨nd,rfl⟩⟩)|(go_at_call 54;(with_reducible refine(impl_isBareStatus.calls a0_2 true _ A45.out).mono ?_);rintro e w' ⟨rfl,⟨nd,rfl⟩⟩));go_ret;exact⟨gq1,gBe⟩
            ·replace H:=gD H;obtain⟨t1175,A48,H⟩:=H;obtain rfl:=Option.some.inj H;obtain⟨_,_,_,_,_,_,_⟩:=czA7 BK1162;obtain⟨_,_,_,_,_,_,_⟩:=cfA7 BK1162;go_wp2_with(first|(go_at_call 39;(with_reducible refine(impl_isStatus.calls a0_2 true _ A30.out).mono ?_);rintro e w' ⟨rfl,⟨nd,rfl⟩⟩)|(go_at_call 40;(with_reducible refine(impl_isReason.calls k2 a0_3 true _ A32.out).mono ?_);rintro e w' ⟨rfl,⟨nd,rfl⟩⟩)|(go_at_call 54;(with_reducible refine(impl_isBareStatus.calls a0_2 false _ A45.out).mono ?_);rintro e w' ⟨rfl,⟨nd,rfl⟩⟩)|((with_reducible refine gate_callee (f:=101) rfl ?_);refine goesL_ (some 94) rfl rfl Tryz.func101 (by kernel_rfl) rfl #[.agg #[.string a0_0,.string a0_1,.int .i64 a0_2,.string a0_3,.bool false,.slice A0_5 l0_5.length c0_5,.string a0_6]] rfl gq0 ?_;(with_reducible refine(impl_writeHead.calls a0_0 a0_1 a0_2 a0_3 false _ _ l0_5 a0_6 t1175 _ ?side1 ?side2 A48.out ?hT).mono ?_);(case hT=>exact tab_go HT);(case side1=>repeat(first|exact(Kd.C_below HR0_5.out gBe)|(with_reducible refine Kd.C_alloc ?_ _)|(with_reducible refine Kd.C_drewN ?_ _)|(with_reducible refine Kd.C_drew ?_)));(case side2=>exact HC0_5.out);rintro e w50 ⟨rfl,hb⟩;refine⟨_,rfl,?_⟩;replace HO_21:=Aside0.mk (Kd.R_below gq45 hb);replace BK1162:=blA (g:=gb1162) hb;replace HB:=beA hb;(try clear hb)));go_ret;exact⟨gq1,gBe⟩
          ·obtain rfl:=Option.some.inj H;obtain⟨_,_,_,_,_,_,_⟩:=czA7 BK1162;obtain⟨_,_,_,_,_,_,_⟩:=cfA7 BK1162;go_wp2_with(first|(go_at_call 39;(with_reducible refine(impl_isStatus.calls a0_2 true _ A30.out).mono ?_);rintro e w' ⟨rfl,⟨nd,rfl⟩⟩)|(go_at_call 40;(with_reducible refine(impl_isReason.calls k2 a0_3 false _ A32.out).mono ?_);rintro e w' ⟨rfl,⟨nd,rfl⟩⟩));go_ret;exact⟨gq1,gBe⟩
         ·obtain rfl:=Option.some.inj H;obtain⟨_,_,_,_,_,_,_⟩:=czA7 BK1162;obtain⟨_,_,_,_,_,_,_⟩:=cfA7 BK1162;go_wp2_with(first|(go_at_call 39;(with_reducible refine(impl_isStatus.calls a0_2 false _ A30.out).mono ?_);rintro e w' ⟨rfl,⟨nd,rfl⟩⟩));go_ret;exact⟨gq1,gBe⟩
        ·obtain⟨c29b0,c29b1⟩:=gEf c29;obtain rfl:=Option.some.inj H;obtain⟨_,_,_,_,_,_,_⟩:=czA7 BK1162;obtain⟨_,_,_,_,_,_,_⟩:=cfA7 BK1162;go_wp2;go_ret;exact⟨gq1,gBe⟩
       ·obtain⟨c28b0,c28b1⟩:=gEf c28;replace H:=gD H;obtain⟨t1176,A54,H⟩:=H;replace H:=gB H;rcases H with⟨rfl,H⟩|⟨rfl,H⟩
        ·replace H:=gD H;obtain⟨t1177,A56,H⟩:=H;replace H:=gB H;rcases H with⟨rfl,H⟩|⟨rfl,H⟩
         ·replace H:=gI H;rcases H with⟨c58,-,-,H⟩|⟨c58,-,-,H⟩
          ·obtain⟨c58b0,c58b1⟩:=gEt c58;clear c58;replace H:=gI H;rcases H with⟨c59,-,-,H⟩|⟨c59,-,-,H⟩
           ·obtain⟨c59b0,c59b1⟩:=gEt c59;clear c59;replace H:=gB H;rcases H with⟨rfl,H⟩|⟨rfl,H⟩
            ·obtain rfl:=Option.some.inj H;obtain⟨_,_,_,_,_,_,_⟩:=czA7 BK1162;obtain⟨_,_,_,_,_,_,_⟩:=cfA7 BK1162;go_wp2_with(first|((with_reducible refine gate_callee (f:=42) rfl ?_);refine goesL_ (some 37) rfl rfl Tryz.func42 (by kernel_rfl) rfl #[.string a0_0] rfl gq0 ?_;(with_reducible refine(impl_isMethod.calls k2 a0_0 true _ A54.out).mono ?_);rintro e w' ⟨rfl,⟨nd,rfl⟩⟩;refine⟨_,rfl,?_⟩)|(go_at_call 43;(with_reducible refine(impl_isTarget.calls k2 a0_1 true _ A56.out).mono ?_);rintro e w' ⟨rfl,⟨nd,rfl⟩⟩));go_ret;exact⟨gq1,gBe⟩
            ·replace H:=gD H;obtain⟨t1178,A62,H⟩:=H;obtain rfl:=Option.some.inj H;obtain⟨_,_,_,_,_,_,_⟩:=czA7 BK1162;obtain⟨_,_,_,_,_,_,_⟩:=cfA7 BK1162;go_wp2_with(first|((with_reducible refine gate_callee (f:=42) rfl ?_);refine goesL_ (some 37) rfl rfl Tryz.func42 (by kernel_rfl) rfl #[.string a0_0] rfl gq0 ?_;(with_reducible refine(impl_isMethod.calls k2 a0_0 true _ A54.out).mono ?_);rintro e w' ⟨rfl,⟨nd,rfl⟩⟩;refine⟨_,rfl,?_⟩)|(go_at_call 43;(with_reducible refine(impl_isTarget.calls k2 a0_1 true _ A56.out).mono ?_);rintro e w' ⟨rfl,⟨nd,rfl⟩⟩)|((with_reducible refine gate_callee (f:=101) rfl ?_);refine goesL_ (some 94) rfl rfl Tryz.func101 (by kernel_rfl) rfl #[.agg #[.string a0_0,.string a0_1,.int .i64 a0_2,.string a0_3,.bool false,.slice A0_5 l0_5.length c0_5,.string a0_6]] rfl gq0 ?_;(with_reducible refine(impl_writeHead.calls a0_0 a0_1 a0_2 a0_3 false _ _ l0_5 a0_6 t1178 _ ?side1 ?side2 A62.out ?hT).mono ?_);(case hT=>exact tab_go HT);(case side1=>repeat(first|exact(Kd.C_below HR0_5.out gBe)|(with_reducible refine Kd.C_alloc ?_ _)|(with_reducible refine Kd.C_drewN ?_ _)|(with_reducible refine Kd.C_drew ?_)));(case side2=>exact HC0_5.out);rintro e w64 ⟨rfl,hb⟩;refine⟨_,rfl,?_⟩;replace HO_21:=Aside0.mk (Kd.R_below gq45 hb);replace BK1162:=blA (g:=gb1162) hb;replace HB:=beA hb;(try clear hb)));go_ret;exact⟨gq1,gBe⟩
           ·obtain⟨c59b0,c59b1⟩:=gEf c59;obtain rfl:=Option.some.inj H;obtain⟨_,_,_,_,_,_,_⟩:=czA7 BK1162;obtain⟨_,_,_,_,_,_,_⟩:=cfA7 BK1162;go_wp2_with(first|((with_reducible refine gate_callee (f:=42) rfl ?_);refine goesL_ (some 37) rfl rfl Tryz.func42 (by kernel_rfl) rfl #[.string a0_0] rfl gq0 ?_;(with_reducible refine(impl_isMethod.calls k2 a0_0 true _ A54.out).mono ?_);rintro e w' ⟨rfl,⟨nd,rfl⟩⟩;refine⟨_,rfl,?_⟩)|(go_at_call 43;(with_reducible refine(impl_isTarget.calls k2 a0_1 true _ A56.out).mono ?_);rintro e w' ⟨rfl,⟨nd,rfl⟩⟩));go_ret;exact⟨gq1,gBe⟩
          ·obtain⟨c58b0,c58b1⟩:=gEf c58;obtain rfl:=Option.some.inj H;obtain⟨_,_,_,_,_,_,_⟩:=czA7 BK1162;obtain⟨_,_,_,_,_,_,_⟩:=cfA7 BK1162;go_wp2_with(first|((with_reducible refine gate_callee (f:=42) rfl ?_);refine goesL_ (some 37) rfl rfl Tryz.func42 (by kernel_rfl) rfl #[.string a0_0] rfl gq0 ?_;(with_reducible refine(impl_isMethod.calls k2 a0_0 true _ A54.out).mono ?_);rintro e w' ⟨rfl,⟨nd,rfl⟩⟩;refine⟨_,rfl,?_⟩)|(go_at_call 43;(with_reducible refine(impl_isTarget.calls k2 a0_1 true _ A56.out).mono ?_);rintro e w' ⟨rfl,⟨nd,rfl⟩⟩));go_ret;exact⟨gq1,gBe⟩
         ·obtain rfl:=Option.some.inj H;obtain⟨_,_,_,_,_,_,_⟩:=czA7 BK1162;obtain⟨_,_,_,_,_,_,_⟩:=cfA7 BK1162;go_wp2_with(first|((with_reducible refine gate_callee (f:=42) rfl ?_);refine goesL_ (some 37) rfl rfl Tryz.func42 (by kernel_rfl) rfl #[.string a0_0] rfl gq0 ?_;(with_reducible refine(impl_isMethod.calls k2 a0_0 true _ A54.out).mono ?_);rintro e w' ⟨rfl,⟨nd,rfl⟩⟩;refine⟨_,rfl,?_⟩)|(go_at_call 43;(with_reducible refine(impl_isTarget.calls k2 a0_1 false _ A56.out).mono ?_);rintro e w' ⟨rfl,⟨nd,rfl⟩⟩));go_ret;exact⟨gq1,gBe⟩
        ·obtain rfl:=Option.some.inj H;obtain⟨_,_,_,_,_,_,_⟩:=czA7 BK1162;obtain⟨_,_,_,_,_,_,_⟩:=cfA7 BK1162;go_wp2_with(first|((with_reducible refine gate_callee (f:=42) rfl ?_);refine goesL_ (some 37) rfl rfl Tryz.func42 (by kernel_rfl) rfl #[.string a0_0] rfl gq0 ?_;(with_reducible refine(impl_isMethod.calls k2 a0_0 false _ A54.out).mono ?_);rintro e w' ⟨rfl,⟨nd,rfl⟩⟩;refine⟨_,rfl,?_⟩));go_ret;exact⟨gq1,gBe⟩

end Go.Proofs.YtonmpnghlopnoaaGreatDoor.P
