import Derived.Test.YtfhllanhldbkkaaGreatDoorPx0
import Derived.Test.YtfhllanhldbkkaaGreatDoorPximpl01a
import Derived.Test.YtfhllanhldbkkaaGreatDoorWC
import Derived.Lib.AppendStr
import Derived.Lib.ItoaLen
import Derived.Lib.ItoaNum
import Derived.Shelf.Strings.Builder1
import Derived.Test.YtfhllanhldbkkaaGreatDoorShelf
import Derived.Test.YtfhllanhldbkkaaGreatDoorPxliba
namespace Go.Proofs.YtfhllanhldbkkaaGreatDoor.P
open Go.RowKit Go.Proofs.YtfhllanhldbkkaaGreatDoorW.PrintWords Go.Proofs.YtfhllanhldbkkaaGreatDoorW.PrintLast Go.Proofs.YtfhllanhldbkkaaGreatDoorW.PrintMore
attribute [local go_sem] max2_int min2_int max_two min_two max_three min_three max_four min_four   -- for this text's walks alone
set_option linter.unusedVariables false
set_option linter.unusedSimpArgs false

def impl_isVisible.f (a0:Int):Option (Bool):=if a0≥33 then(some (decide (a0≤126))) else(some false)
set_option maxHeartbeats 8000000 in
set_option maxRecDepth 100000 in
theorem impl_isVisible.calls (a0:Int) (r:Bool) (w:World) (h:impl_isVisible.f a0=some r) :
  Calls Tryz.prog 109 #[.int .u8 a0] w fun e w'=>e = .returned (.bool r)∧Drawn0 w w':=by
 have H:=h
 clear h
 unfold impl_isVisible.f at H
 replace H:=gI H
 rcases H with⟨c2,-,-,H⟩|⟨c2,-,-,H⟩
 ·have c2b0:decide (33≤a0)=true:=decide_eq_true c2
  clear c2
  obtain rfl:=Option.some.inj H
  go_enter Tryz.func109,Tryz.ntmps109
  go_wp2
  go_ret
  exact⟨gq4,gq5⟩
 ·have c2b0:decide (33≤a0)=false:=decide_eq_false c2
  clear c2
  obtain rfl:=Option.some.inj H
  go_enter Tryz.func109,Tryz.ntmps109
  go_wp2
  go_ret
  exact⟨gq4,gq5⟩

def impl_all__impl_isVisible.l0 : Nat→ByteArray→Int→Option (Bool)
 |0,_,_=>none
 |k+1,x0,x5=>if x5<(x0.size:Int) then(if 0≤x5 then((impl_isVisible.f (bt x0 x5)).bind fun t481=>(if t481=true then(impl_all__impl_isVisible.l0 k x0 (wrap64 (x5+1))) else(some false))) else(none)) else(some true)
def impl_all__impl_isVisible.f (k:Nat) (a0:ByteArray)  : Option (Bool):=impl_all__impl_isVisible.l0 k a0 0
set_option maxHeartbeats 8000000 in
set_option maxRecDepth 100000 in
theorem impl_all__impl_isVisible.calls (k:Nat) (a0:ByteArray)  (r:Bool) (w:World) (h:impl_all__impl_isVisible.f k a0=some r) :
  Calls Tryz.prog 107 #[.string a0,.func (.func 109) #[] #[]] w fun e w'=>e = .returned (.bool r)∧Drawn0 w w':=by
 have H:=h
 clear h
 unfold impl_all__impl_isVisible.f at H
 have H':=Aside0.mk H
 clear H
 go_enter Tryz.func107,Tryz.ntmps107
 go_wp2
 go_loopg [5] k (fun kq v5 w'=>∃(x5_1:Int),v5 = .int .i64 x5_1∧Aside0 (impl_all__impl_isVisible.l0 kq a0 x5_1=some r)∧Aside0 (kq≤k)∧Drawn0 w w')
 case atStart=>exact⟨(0),gq4,H',⟨Nat.le_refl _⟩,gq5⟩
 case round=>
  clear H'
  obtain⟨x5_1,rfl,HA,HK1,⟨m1,rfl⟩⟩:=hrel
  cases gk with
  |zero=>exact absurd HA.out (by simp[impl_all__impl_isVisible.l0])
  |succ k1=>
   have H:=HA.out
   clear HA
   simp only[impl_all__impl_isVisible.l0] at H
   replace H:=gI H
   rcases H with⟨-,c3b0,-,H⟩|⟨-,c3b0,-,H⟩
   ·replace H:=gN H
    obtain⟨-,c4b0,-,H⟩:=H
    replace H:=gD H
    obtain⟨t481,A6,H⟩:=H
    replace H:=gB H
    rcases H with⟨rfl,H⟩|⟨rfl,H⟩
    ·have H':=Aside0.mk H
     clear H
     have p5:0≤(x5_1:Int):=of_decide_eq_true gq3
     have q5:x5_1<(a0.size:Int):=of_decide_eq_true gq3
     have hx5:=bt_at a0 x5_1
     replace p5:=eq_true p5
     replace q5:=eq_true q5
     go_wp2_with((go_at_call 109;(with_reducible refine(impl_isVisible.calls (bt a0 x5_1) true _ A6.out).mono ?_);rintro e w' ⟨rfl,⟨nd,rfl⟩⟩))
     go_roundg k1
     case measure=>have:=HK1.out;omega
     case rel=>exact⟨(wrap64 (x5_1+1)),gq4,H',⟨by have:=HK1.out;omega⟩,gq5⟩
    ·obtain rfl:=Option.some.inj H
     have p5:0≤(x5_1:Int):=of_decide_eq_true gq3
     have q5:x5_1<(a0.size:Int):=of_decide_eq_true gq3
     have hx5:=bt_at a0 x5_1
     replace p5:=eq_true p5
     replace q5:=eq_true q5
     go_wp2_with((go_at_call 109;(with_reducible refine(impl_isVisible.calls (bt a0 x5_1) false _ A6.out).mono ?_);rintro e w' ⟨rfl,⟨nd,rfl⟩⟩))
     go_ret
     exact⟨gq4,gq5⟩
   ·obtain rfl:=Option.some.inj H
    go_wp2
    go_ret
    exact⟨gq4,gq5⟩

def impl_framed.f  : Option (List ByteArray):=some (([(⟨#[99,111,110,116,101,110,116,45,108,101,110,103,116,104]⟩:ByteArray),(⟨#[116,114,97,110,115,102,101,114,45,101,110,99,111,100,105,110,103]⟩:ByteArray),(⟨#[116,114,97,105,108,101,114]⟩:ByteArray)]:List ByteArray))
set_option maxHeartbeats 8000000 in
set_option maxRecDepth 100000 in
theorem impl_framed.calls  (r:List ByteArray) (w:World) (h:impl_framed.f  = some r) :
  Calls Tryz.prog 67 #[] w fun e w'=>∃ v0_:Value,e = .returned (v0_)∧Kd.R Kd.string 9 w' w.heap.size (fun _=>True) v0_ r∧Below w.heap.size w w':=by
 have HB:=Aside0.mk (Below.refl w.heap.size w)
 have H:=h
 clear h
 unfold impl_framed.f at H
 obtain⟨y755,hy755⟩:∃ y_:List ByteArray,y_=(([(⟨#[99,111,110,116,101,110,116,45,108,101,110,103,116,104]⟩:ByteArray),(⟨#[116,114,97,110,115,102,101,114,45,101,110,99,111,100,105,110,103]⟩:ByteArray),(⟨#[116,114,97,105,108,101,114]⟩:ByteArray)]:List ByteArray)):=⟨_,rfl⟩
 replace H:(some y755)=some r:=by first|(rw[hy755];with_reducible exact H)|(have H2_:=(Option.bind_some _ _).symm.trans H;rw[hy755];with_reducible exact H2_)|(have H2_:=(Option.bind_some _ _).symm.trans H;with_reducible exact H2_)|with_reducible exact H|(rw[hy755];exact H)|exact H
 have Ny755:=Aside0.mk hy755
 clear hy755
 obtain rfl:=Option.some.inj H
 go_enter Tryz.func67,Tryz.ntmps67
 go_wp2_with(((with_reducible refine gate_dst (N:=1) rfl ?_);refine Kd.R_lit Kd.string _ 9 ?hg (N:=1) ?hd (xs:=([(⟨#[99,111,110,116,101,110,116,45,108,101,110,103,116,104]⟩:ByteArray),(⟨#[116,114,97,110,115,102,101,114,45,101,110,99,111,100,105,110,103]⟩:ByteArray),(⟨#[116,114,97,105,108,101,114]⟩:ByteArray)]:List ByteArray)) (inner:=[.string (⟨#[99,111,110,116,101,110,116,45,108,101,110,103,116,104]⟩:ByteArray),.string (⟨#[116,114,97,110,115,102,101,114,45,101,110,99,111,100,105,110,103]⟩:ByteArray),.string (⟨#[116,114,97,105,108,101,114]⟩:ByteArray)]) (ok:=fun _=>True) (okp:=fun _=>True) ?hr ?hp (fun _ hk=>hk) trivial (Below.refl _ _) (Nat.le_refl _) (by simp) ?_;(case hd=>rfl);(case hg=>rfl);(case hr=>first|(go_simp;done)|(go_simp;rfl));(case hp=>exact(Reps.one (show Kd.M Kd.string _ _ _ (⟨#[99,111,110,116,101,110,116,45,108,101,110,103,116,104]⟩:ByteArray) [.string (⟨#[99,111,110,116,101,110,116,45,108,101,110,103,116,104]⟩:ByteArray)] from rfl) (Reps.one (show Kd.M Kd.string _ _ _ (⟨#[116,114,97,110,115,102,101,114,45,101,110,99,111,100,105,110,103]⟩:ByteArray) [.string (⟨#[116,114,97,110,115,102,101,114,45,101,110,99,111,100,105,110,103]⟩:ByteArray)] from rfl) (Reps.one (show Kd.M Kd.string _ _ _ (⟨#[116,114,97,105,108,101,114]⟩:ByteArray) [.string (⟨#[116,114,97,105,108,101,114]⟩:ByteArray)] from rfl) (Reps.none _ _)))));intro v756 wq0a ho2 hb hg_ hnew_;clear hg_ hnew_;(first|rw[← Ny755.out] at ho2|(simp only[Int.reduceToNat] at ho2;rw[← Ny755.out] at ho2));have HO757:=Aside0.mk (Kd.R_lower ho2 (below_size gBe));replace HB:=beA hb;clear hb ho2))
 go_ret
 exact⟨_,gq2,gRo,gBe⟩

def impl_isStatus.f (a0:Int):Option (Bool):=(impl_within.f a0 200 599).bind fun t786=>(some t786)
set_option maxHeartbeats 8000000 in
set_option maxRecDepth 100000 in
theorem impl_isStatus.calls (a0:Int) (r:Bool) (w:World) (h:impl_isStatus.f a0=some r) :
  Calls Tryz.prog 70 #[.int .i64 a0] w fun e w'=>e = .returned (.bool r)∧Drawn0 w w':=by
 have H:=h
 clear h
 unfold impl_isStatus.f at H
 replace H:=gD H
 obtain⟨t786,A2,H⟩:=H
 obtain rfl:=Option.some.inj H
 go_enter Tryz.func70,Tryz.ntmps70
 go_wp2_with(((with_reducible refine gate_callee (f:=65) rfl ?_);refine goesL_ (some 4) rfl rfl Tryz.func65 (by kernel_rfl) rfl #[.int .i64 a0,.int .i64 200,.int .i64 599] rfl gq0 ?_;(with_reducible refine(impl_within.calls a0 200 599 t786 _ A2.out).mono ?_);rintro e w' ⟨rfl,⟨nd,rfl⟩⟩;refine⟨_,rfl,?_⟩))
 go_ret
 exact⟨gq4,gq5⟩

def impl_isReason.f (k:Nat) (a0:ByteArray):Option (Bool):=if(a0.size:Int)≤40 then((impl_all__impl_isPlain.f k a0).bind fun t795=>(some t795)) else(some false)
set_option maxHeartbeats 8000000 in
set_option maxRecDepth 100000 in
theorem impl_isReason.calls (k:Nat) (a0:ByteArray) (r:Bool) (w:World) (h:impl_isReason.f k a0=some r) :
  Calls Tryz.prog 71 #[.string a0] w fun e w'=>e = .returned (.bool r)∧Drawn0 w w':=by
 have H:=h
 clear h
 unfold impl_isReason.f at H
 replace H:=gI H
 rcases H with⟨c2,c2b0,-,H⟩|⟨c2,c2b0,-,H⟩
 ·have c2b1:decide (a0.size≤40)=true:=decide_eq_true (by omega)
  clear c2
  replace H:=gD H
  obtain⟨t795,A3,H⟩:=H
  obtain rfl:=Option.some.inj H
  go_enter Tryz.func71,Tryz.ntmps71
  go_wp2_with((go_at_call 107;(with_reducible refine(impl_all__impl_isPlain.calls k a0  t795 _ A3.out).mono ?_);rintro e w' ⟨rfl,⟨nd,rfl⟩⟩))
  go_ret
  exact⟨gq4,gq5⟩
 ·have c2b1:decide (a0.size≤40)=false:=decide_eq_false (by omega)
  clear c2
  obtain rfl:=Option.some.inj H
  go_enter Tryz.func71,Tryz.ntmps71
  go_wp2
  go_ret
  exact⟨gq4,gq5⟩

def impl_isBareStatus.f (a0:Int):Option (Bool):=if a0=204 then(some true) else(some (a0==304))
set_option maxHeartbeats 8000000 in
set_option maxRecDepth 100000 in
theorem impl_isBareStatus.calls (a0:Int) (r:Bool) (w:World) (h:impl_isBareStatus.f a0=some r) :
  Calls Tryz.prog 72 #[.int .i64 a0] w fun e w'=>e = .returned (.bool r)∧Drawn0 w w':=by
 have H:=h
 clear h
 unfold impl_isBareStatus.f at H
 replace H:=gI H
 rcases H with⟨c2,-,-,H⟩|⟨c2,-,-,H⟩
 ·have c2b0:(a0==204)=true:=beq_iff_eq.mpr c2
  have c2b1:(a0 != 204)=false:=bne_eq_false_iff_eq.mpr c2
  clear c2
  obtain rfl:=Option.some.inj H
  go_enter Tryz.func72,Tryz.ntmps72
  go_wp2
  go_ret
  exact⟨gq4,gq5⟩
 ·have c2b0:(a0==204)=false:=beq_eq_false_iff_ne.mpr c2
  have c2b1:(a0 != 204)=true:=bne_iff_ne.mpr c2
  obtain rfl:=Option.some.inj H
  go_enter Tryz.func72,Tryz.ntmps72
  go_wp2
  go_ret
  exact⟨gq4,gq5⟩


-- IMPORT Shelf Derived.Lib.AppendStr Derived.Lib.ItoaNum Derived.Lib.ItoaLen Derived.Shelf.Strings.Builder1
def BU (w:World) (b:Nat) (t:ByteArray):Prop:=Lib.IsBuilder 102 5 b b (Lib.strCells t) w
theorem strCells_app (s t:ByteArray):Lib.strCells (s++t)=Lib.strCells s++Lib.strCells t:=by
 unfold Lib.strCells
 rw[← List.map_append]
 congr 1
theorem bu_lt {w:World} {b:Nat} {t:ByteArray} (h:BU w b t):b<w.heap.size:=by
 rcases h with⟨_,v,h2,_⟩|⟨_,v,h2,_⟩ <;> exact blk_lt h2
theorem bu_below {w w':World} {b:Nat} {t:ByteArray} (h:Aside0 (BU w b t)) (hb:Below w.heap.size w w'):Aside0 (BU w' b t):=by
 have key:∀ p,Lib.BuilderAt 102 5 b b p (Lib.strCells t) w→Lib.BuilderAt 102 5 b b p (Lib.strCells t) w':=by
  rintro p ⟨h1,v,h2,h3,h4⟩
  refine⟨h1,v,(hb.block b (blk_lt h2)).trans h2,⟨h3.1,?_⟩,h4⟩
  rcases h3.2 with h5|⟨g,cap,cur,e1,e2,e3,e4⟩
  ·exact .inl h5
  ·exact .inr ⟨g,cap,cur,e1,e2,(hb.block g (blk_lt e3)).trans e3,e4⟩
 exact⟨h.out.elim (fun x=>.inl (key _ x)) (fun x=>.inr (key _ x))⟩
theorem bu_new {w:World} {b:Nat} (h:w.heap[b]? = some (.cells #[.pointer none,.slice none 0 0] 102 (0,0))):Aside0 (BU w b ⟨#[]⟩):=
 ⟨.inl ⟨Nat.le_refl _,.slice none 0 0,h,⟨rfl,.inl ⟨rfl,rfl⟩⟩,by simp[Value.ownBlock]⟩⟩
theorem bu_write {w:World} {b:Nat} {t:ByteArray} (s:ByteArray) (h:Aside0 (BU w b t)) (hl:t.size+s.size≤140737488355328) :
  Calls Tryz.prog 110 #[.pointer (some ⟨b,0,none⟩),.string s] w fun e w'=>e = .returned (.tuple #[.int .i64 s.size,.nilIface])∧Aside0 (BU w' b (t++s))∧Below b w w':=by
 refine(Any.Builder_WriteString ({ Tryz.lays156 with }:Lays.n166 Tryz.prog Tryz.lays156_ren) Tryz.Builder_Extra_156 b b (Lib.strCells t) s w h.out (by rw[Lib.strCells_length];exact hl) (Nat.le_of_lt (bu_lt h.out))).mono ?_
 rintro e w' ⟨rfl,h1,h2⟩
 exact⟨rfl,⟨.inr (by rw[strCells_app];exact h1)⟩,h2⟩
theorem bu_string {w:World} {b:Nat} {t:ByteArray} (h:Aside0 (BU w b t)) :
  Calls Tryz.prog 113 #[.pointer (some ⟨b,0,none⟩)] w fun e w'=>e = .returned (.string t)∧Below b w w':=by
 refine(Any.Builder_String_any ({ Tryz.lays156 with }:Lays.n169 Tryz.prog Tryz.lays156_ren) Tryz.Builder_Extra_156 b b t.data.toList w h.out (Nat.le_of_lt (bu_lt h.out))).mono ?_
 rintro e w' ⟨rfl,h2⟩
 exact⟨rfl,h2⟩
theorem app_size (s t:ByteArray):(s++t).size=s.size+t.size:=ByteArray.size_append
def lineT (f:S72):ByteArray:=(((f.f0++(⟨#[58,32]⟩:ByteArray))++f.f1)++(⟨#[13,10]⟩:ByteArray))
def linesT (t:ByteArray) (l:List S72):ByteArray:=l.foldl (fun t f=>t++lineT f) t
def firstT (m0 m1:ByteArray) (m2:Int) (m3:ByteArray):ByteArray:=
 if m0.toList=([]:List UInt8) then(((((⟨#[72,84,84,80,47,49,46,49,32]⟩:ByteArray)++itoaT m2)++(⟨#[32]⟩:ByteArray))++m3)++(⟨#[13,10]⟩:ByteArray))
 else((((m0++(⟨#[32]⟩:ByteArray))++m1)++(⟨#[32,72,84,84,80,47,49,46,49]⟩:ByteArray))++(⟨#[13,10]⟩:ByteArray))
def lengthT (m6:ByteArray):ByteArray:=(((⟨#[67,111,110,116,101,110,116,45,76,101,110,103,116,104,58,32]⟩:ByteArray)++itoaT (m6.size:Int))++(⟨#[13,10]⟩:ByteArray))
def tellsB (m0:ByteArray) (m4:Bool) (m6:ByteArray):Bool:=if m0.toList=([]:List UInt8) then !m4 else m6.toList != ([]:List UInt8)
def headT (m0 m1:ByteArray) (m2:Int) (m3:ByteArray) (m4:Bool) (l:List S72) (m6:ByteArray):ByteArray:=
 let t:=linesT ((⟨#[]⟩:ByteArray)++firstT m0 m1 m2 m3) l
 (if tellsB m0 m4 m6=true then t++lengthT m6 else t)++(⟨#[13,10]⟩:ByteArray)
def HeadFits (m0 m1:ByteArray) (m2:Int) (m3:ByteArray) (l:List S72) (m6:ByteArray):Prop:=
 m0.size≤100000∧m1.size≤100000∧(0≤m2∧m2≤999999999999999)∧m3.size≤100000∧m6.size≤100000∧l.length≤1000∧∀ f∈l,f.f0.size≤100000∧f.f1.size≤100000
instance headFits_dec (m0 m1:ByteArray) (m2:Int) (m3:ByteArray) (l:List S72) (m6:ByteArray):Decidable (HeadFits m0 m1 m2 m3 l m6):=by unfold HeadFits;exact inferInstance
def impl_writeHead.f (m0 m1:ByteArray) (m2:Int) (m3:ByteArray) (m4:Bool) (l:List S72) (m6:ByteArray):Option (ByteArray):=
 if HeadFits m0 m1 m2 m3 l m6 then some (headT m0 m1 m2 m3 m4 l m6) else none
theorem itoaT_size (n:Int) (h0:0≤n) (h1:n≤999999999999999):(itoaT n).size≤21:=by
 have:=Lib.itoa_length_le n (by omega) (by omega)
 unfold itoaT
 simpa [ByteArray.size] using this
theorem firstT_size (m0 m1:ByteArray) (m2:Int) (m3:ByteArray) (h0:m0.size≤100000) (h1:m1.size≤100000) (h2:0≤m2∧m2≤999999999999999) (h3:m3.size≤100000):(firstT m0 m1 m2 m3).size≤300000:=by
 have hi:=itoaT_size m2 h2.1 h2.2
 unfold firstT
 split
 ·simp only[app_size]
  show 9+(itoaT m2).size+1+m3.size+2≤300000
  omega
 ·simp only[app_size]
  show m0.size+1+m1.size+9+2≤300000
  omega
theorem lineT_size (f:S72) (h0:f.f0.size≤100000) (h1:f.f1.size≤100000):(lineT f).size≤300000:=by
 unfold lineT
 simp only[app_size]
 show f.f0.size+2+f.f1.size+2≤300000
 omega
theorem linesT_size : ∀(l:List S72) (t:ByteArray),(∀ f∈l,f.f0.size≤100000∧f.f1.size≤100000)→(linesT t l).size≤t.size+300000*l.length
 |[],t,_=>Nat.le_refl _
 |f::l,t,h=>by
  have h1:=linesT_size l (t++lineT f) (fun g hg=>h g (List.mem_cons_of_mem _ hg))
  have h2:=lineT_size f (h f (List.mem_cons_self ..)).1 (h f (List.mem_cons_self ..)).2
  rw[app_size] at h1
  show(linesT (t++lineT f) l).size≤t.size+300000*(l.length+1)
  omega
theorem linesT_take (l:List S72) (t:ByteArray) (n:Nat) (h:n<l.length):linesT t (l.take (n+1))=linesT t (l.take n)++lineT (rd_T72 l (n:Int)):=by
 have e:rd_T72 l (n:Int)=l[n]:=by
  unfold rd_T72
  rw[Int.toNat_natCast,List.getD_eq_getElem?_getD,List.getElem?_eq_getElem h]
  rfl
 unfold linesT
 rw[List.take_succ_eq_append_getElem h,List.foldl_append,e]
 rfl
theorem bm_keep {w w':World} {g b:Nat} {o:Obj} (h:Aside0 (w.heap[g]? = some o)) (hl:Aside0 (g<b)) (hb:Below b w w'):Aside0 (w'.heap[g]? = some o):=⟨(hb.block g hl.out).trans h.out⟩
theorem bb_keep {w w':World} {b:Nat} {W:World} (h:Aside0 (Below W.heap.size W w)) (hg:Aside0 (W.heap.size≤b)) (hb:Below b w w'):Aside0 (Below W.heap.size W w'):=⟨h.out.trans (hb.mono hg.out)⟩
def w101T : Bool×List (List Nat×List Nat):=(true,[([],[]),([0],[0]),([1],[1]),([2],[2]),([3],[3]),([],[]),([5],[5]),([4,6],[4,6]),([7],[7]),([8,2],[8])])
def w101B : List Nat:=[0,1,3,7,15,0,32,127,255,511]
theorem w101tab : rtab .any (opsOf Tryz.f73 4)=w101T:=by kernel_rfl
theorem w101bits : waitsOk w101T.2 w101B=true:=by kernel_rfl
theorem impl_writeHead.e0 {p:Prop} (h:p:=by
  go_wp2_with(first|((with_reducible refine gate_callee (f:=111) rfl ?_);refine goesL_ (some 61) rfl rfl Tryz.func111 (by kernel_rfl) rfl #[.int .i64 (a0_6.size:Int)] rfl gq13 ?_;refine(strconv_Itoa_111.calls (a0_6.size:Int) (itoaT (a0_6.size:Int)) _ hA9.out (tab_go HT)).mono ?_;rintro e wq5a ⟨rfl,hb⟩;refine⟨_,rfl,?_⟩;replace BKm:=blA (g:=gm) hb;replace BU0:=bu_below BU0 hb;replace HB:=beA hb;clear hb;obtain⟨_,_,_,_,_,_,_⟩:=czA7 BKm)|((with_reducible refine gate_callee (f:=110) rfl ?_);refine goesL_ (some 64) rfl rfl Tryz.func110 (by kernel_rfl) rfl #[.pointer (some ⟨gb,0,none⟩),.string (((⟨#[67,111,110,116,101,110,116,45,76,101,110,103,116,104,58,32]⟩:ByteArray)++itoaT (a0_6.size:Int))++(⟨#[13,10]⟩:ByteArray))] rfl gq13 ?_;refine(bu_write (((⟨#[67,111,110,116,101,110,116,45,76,101,110,103,116,104,58,32]⟩:ByteArray)++itoaT (a0_6.size:Int))++(⟨#[13,10]⟩:ByteArray)) BU0 hql.out).mono ?_;rintro e wq6a ⟨rfl,hu,hb⟩;refine⟨_,rfl,?_⟩;replace BKm:=bm_keep BKm LM hb;replace HB:=bb_keep HB GEb hb;replace BU0:=hu;clear hu hb)|((with_reducible refine gate_callee (f:=113) rfl ?_);refine goesL_ (some 65) rfl rfl Tryz.func113 (by kernel_rfl) rfl #[.pointer (some ⟨gb,0,none⟩)] rfl gq13 ?_;refine(bu_string BU0).mono ?_;rintro e wq4a ⟨rfl,hb⟩;refine⟨_,rfl,?_⟩;replace HB:=bb_keep HB GEb hb;clear hb)|fail)
  go_ret
  exact⟨by rw[hh.out];rfl,HB.out⟩):p:=h
set_option maxHeartbeats 8000000 in
set_option maxRecDepth 100000 in
theorem impl_writeHead.calls (a0_0:ByteArray) (a0_1:ByteArray) (a0_2:Int) (a0_3:ByteArray) (a0_4:Bool) (A0_5:Option Addr) (c0_5:Nat) (l0_5:List S72) (a0_6:ByteArray) (r:ByteArray) (w:World) (hr0_5:Kd.C k72 w A0_5 l0_5.length l0_5) (hc0_5:l0_5.length≤c0_5) (h:impl_writeHead.f a0_0 a0_1 a0_2 a0_3 a0_4 l0_5 a0_6=some r) (HT0:Tab10 w) :
  Calls Tryz.prog 73 #[.agg #[.string a0_0,.string a0_1,.int .i64 a0_2,.string a0_3,.bool a0_4,.slice A0_5 l0_5.length c0_5,.string a0_6]] w fun e w'=>e = .returned (.string r)∧Below w.heap.size w w':=by
 have huM:=Tryz.underlying31
 have huF:=Tryz.underlying72
 have HR0:=Aside0.mk hr0_5
 have HC0:=Aside0.mk hc0_5
 have HT:=Aside0.mk HT0
 clear hr0_5 hc0_5 HT0
 unfold impl_writeHead.f at h
 by_cases hF:HeadFits a0_0 a0_1 a0_2 a0_3 l0_5 a0_6
 case neg=>rw[if_neg hF] at h;cases h
 rw[if_pos hF] at h
 obtain rfl:=Option.some.inj h
 clear h
 have HF:=Aside0.mk hF
 clear hF
 have HB:=Aside0.mk (Below.refl w.heap.size w)
 go_enter Tryz.func73,Tryz.ntmps73
 go_upto_if 8 with(first|((with_reducible refine gate_dst (N:=1) rfl ?_);refine boxA #[.string a0_0,.string a0_1,.int .i64 a0_2,.string a0_3,.bool a0_4,.slice A0_5 l0_5.length c0_5,.string a0_6] 31 ?_;intro gm hg w1 hbox hb;have BKm:=Aside0.mk hbox;have GEm:=geA hg;replace HB:=beA hb;clear hb hbox hg;obtain⟨_,_,_,_,_,_,_⟩:=czA7 BKm)|((with_reducible refine gate_dst (N:=3) rfl ?_);refine boxA #[.pointer none,.slice none 0 0] 102 ?_;intro gb hg w2 hbox hb;have GEb:=geA hg;have LTm:=neA (g:=gm) hg;have BU0:=bu_new hbox;have LM:=Aside0.mk (by rw[hg];exact(blk_lt BKm.out):gm<gb);replace BKm:=blA (g:=gm) hb;replace HB:=beA hb;clear hb hbox hg;obtain⟨_,_,_,_,_,_,_⟩:=czA7 BKm))
 (try simp only[Act.put,List.setIfInBounds_toArray,List.set_cons_zero,List.set_cons_succ])
 go_cut [1] (fun v1 wc=>v1 = .pointer (some ⟨gm,0,none⟩)∧Aside0 (wc.heap[gm]? = some (.cells #[.string a0_0,.string a0_1,.int .i64 a0_2,.string a0_3,.bool a0_4,.slice A0_5 l0_5.length c0_5,.string a0_6] 31 (0,0)))∧Aside0 (BU wc gb ((⟨#[]⟩:ByteArray)++firstT a0_0 a0_1 a0_2 a0_3))∧Aside0 (Below w.heap.size w wc))
 case first=>
  by_cases e0:a0_0.toList=([]:List UInt8)
  ·have hfirst:firstT a0_0 a0_1 a0_2 a0_3=(((((⟨#[72,84,84,80,47,49,46,49,32]⟩:ByteArray)++itoaT a0_2)++(⟨#[32]⟩:ByteArray))++a0_3)++(⟨#[13,10]⟩:ByteArray)):=if_pos e0
   have hne:a0_0.toList.isEmpty=true:=List.isEmpty_iff.mpr e0
   have HFI:=Aside0.mk hfirst
   clear hfirst e0
   have hi:=itoaT_size a0_2 HF.out.2.2.1.1 HF.out.2.2.1.2
   have y3:=HF.out.2.2.2.1
   have q1:(9223372036854775807<9+(itoaT a0_2).size)=False:=eq_false (by omega)
   have q2:(9223372036854775807<9+(itoaT a0_2).size+1)=False:=eq_false (by omega)
   have q3:(9223372036854775807<9+(itoaT a0_2).size+1+a0_3.size)=False:=eq_false (by omega)
   have q4:(9223372036854775807<9+(itoaT a0_2).size+1+a0_3.size+2)=False:=eq_false (by omega)
   have ql:(⟨#[]⟩:ByteArray).size+(((((⟨#[72,84,84,80,47,49,46,49,32]⟩:ByteArray)++itoaT a0_2)++(⟨#[32]⟩:ByteArray))++a0_3)++(⟨#[13,10]⟩:ByteArray)).size≤140737488355328:=by
    simp only[app_size]
    show 0+(9+(itoaT a0_2).size+1+a0_3.size+2)≤140737488355328
    omega
   have A9:strconv_Itoa_111.f a0_2=some (itoaT a0_2):=if_pos ⟨by have:=HF.out.2.2.1;omega,by have:=HF.out.2.2.1;omega⟩
   have hA9:=Aside0.mk A9
   have hql:=Aside0.mk ql
   clear hi y3 A9 ql
   (first|rw[hne]|skip)
   go_wp2
   replace BKm:=Aside0.mk (blk_drew BKm.out)
   replace HB:=Aside0.mk (below_drew1 HB.out)
   replace BU0:=bu_below BU0 (below_drew1 (Below.refl _ _))
   refine startF (n:=10) (S:=fun w'=>w'.cell? ⟨gm,2,none⟩=some (.int .i64 a0_2)∧w'.cell? ⟨gm,3,none⟩=some (.string a0_3)) (ds:=[]) ⟨(blk_cell BKm.out 2).trans rfl,(blk_cell BKm.out 3).trans rfl⟩ (fun hHeld=>?_);refine with_tabW w101tab w101bits (fun HT_ HW_=>?_)
   generalize w2.drew=wq0a at BKm HB BU0 hHeld ⊢
   repeat(first|refine takeF ?_ (hy:=Or.inl ⟨by rfl,gq34⟩)|refine pureF ?_)
   refine pureT 5 (some 23) ?_
   refine takeT_ 6 (some 24) (hy:=Or.inl ⟨by rfl,gq34⟩) ?_
   refine oneF (fun K hK=>?_)
   refine goes_ Tryz.func111 (by kernel_rfl) rfl #[.int .i64 a0_2] (by rfl) rfl rfl gq13 ?_
   refine(strconv_Itoa_111.calls a0_2 (itoaT a0_2) _ hA9.out (tab_go HT)).mono ?_
   rintro e wq1a ⟨rfl,hb⟩
   refine⟨_,rfl,?_⟩
   replace BKm:=blA (g:=gm) hb
   replace HB:=beA hb
   replace BU0:=bu_below BU0 hb
   (try clear hb)
   refine hK.out _ _ ⟨(blk_cell BKm.out 2).trans rfl,(blk_cell BKm.out 3).trans rfl⟩ (fun hHeld=>?_)
   clear hK K
   refine normF ?_
   repeat(first|refine pureF ?_)
   refine oneF (fun K hK=>?_)
   refine goes_ Tryz.func110 (by kernel_rfl) rfl #[.pointer (some ⟨gb,0,none⟩),.string (((((⟨#[72,84,84,80,47,49,46,49,32]⟩:ByteArray)++itoaT a0_2)++(⟨#[32]⟩:ByteArray))++a0_3)++(⟨#[13,10]⟩:ByteArray))] (by rfl) rfl rfl gq13 ?_
   refine(bu_write (((((⟨#[72,84,84,80,47,49,46,49,32]⟩:ByteArray)++itoaT a0_2)++(⟨#[32]⟩:ByteArray))++a0_3)++(⟨#[13,10]⟩:ByteArray)) BU0 hql.out).mono ?_
   rintro e wq2a ⟨rfl,hu,hb⟩
   refine⟨_,rfl,?_⟩
   replace BKm:=bm_keep BKm LM hb
   replace HB:=bb_keep HB GEb hb
   replace BU0:=hu
   clear hu hb
   refine hK.out _ _ ⟨(blk_cell BKm.out 2).trans rfl,(blk_cell BKm.out 3).trans rfl⟩ (fun hHeld=>?_)
   clear hK K
   refine normF ?_
   refine done_ (done_of HT_.out (by kernel_rfl)) ?_
   try go_wp2
   go_meet
   case rel=>exact⟨rfl,BKm,⟨by rw[HFI.out];exact BU0.out⟩,HB⟩
  ·have hfirst:firstT a0_0 a0_1 a0_2 a0_3=((((a0_0++(⟨#[32]⟩:ByteArray))++a0_1)++(⟨#[32,72,84,84,80,47,49,46,49]⟩:ByteArray))++(⟨#[13,10]⟩:ByteArray)):=if_neg e0
   have hne:a0_0.toList.isEmpty=false:=Bool.eq_false_iff.mpr (fun h_=>e0 (List.isEmpty_iff.mp h_))
   have HFI:=Aside0.mk hfirst
   clear hfirst e0
   have y0:=HF.out.1
   have y1:=HF.out.2.1
   have q1:(9223372036854775807<a0_0.size+1)=False:=eq_false (by omega)
   have q2:(9223372036854775807<a0_0.size+1+a0_1.size)=False:=eq_false (by omega)
   have q3:(9223372036854775807<a0_0.size+1+a0_1.size+9)=False:=eq_false (by omega)
   have q4:(9223372036854775807<a0_0.size+1+a0_1.size+9+2)=False:=eq_false (by omega)
   have ql:(⟨#[]⟩:ByteArray).size+((((a0_0++(⟨#[32]⟩:ByteArray))++a0_1)++(⟨#[32,72,84,84,80,47,49,46,49]⟩:ByteArray))++(⟨#[13,10]⟩:ByteArray)).size≤140737488355328:=by
    simp only[app_size]
    show 0+(a0_0.size+1+a0_1.size+9+2)≤140737488355328
    omega
   have hql:=Aside0.mk ql
   clear y0 y1 ql
   (first|rw[hne]|skip)
   go_wp2_with(((with_reducible refine gate_callee (f:=110) rfl ?_);refine goesL_ (some 17) rfl rfl Tryz.func110 (by kernel_rfl) rfl #[.pointer (some ⟨gb,0,none⟩),.string ((((a0_0++(⟨#[32]⟩:ByteArray))++a0_1)++(⟨#[32,72,84,84,80,47,49,46,49]⟩:ByteArray))++(⟨#[13,10]⟩:ByteArray))] rfl gq13 ?_;refine(bu_write ((((a0_0++(⟨#[32]⟩:ByteArray))++a0_1)++(⟨#[32,72,84,84,80,47,49,46,49]⟩:ByteArray))++(⟨#[13,10]⟩:ByteArray)) BU0 hql.out).mono ?_;rintro e wq3a ⟨rfl,hu,hb⟩;refine⟨_,rfl,?_⟩;replace BKm:=bm_keep BKm LM hb;replace HB:=bb_keep HB GEb hb;replace BU0:=hu;(try clear hu);(try clear hb);obtain⟨_,_,_,_,_,_,_⟩:=czA7 BKm))
   go_meet
   case rel=>exact⟨rfl,BKm,⟨by rw[HFI.out];exact BU0.out⟩,HB⟩
 case rest=>
  clear BKm HB BU0
  obtain⟨rfl,BKm,BU0,HB⟩:=hcut
  have hb0:linesT ((⟨#[]⟩:ByteArray)++firstT a0_0 a0_1 a0_2 a0_3) (l0_5.take 0)=(⟨#[]⟩:ByteArray)++firstT a0_0 a0_1 a0_2 a0_3:=by rw[List.take_zero];rfl
  rw[← hb0] at BU0
  clear hb0
  obtain⟨_,_,_,_,_,_,_⟩:=czA7 BKm
  go_wp2
  go_loopg [31] l0_5.length (fun kq v31 w'=>∃ n:Nat,v31 = .int .i64 (n:Int)∧Aside0 (n+kq=l0_5.length)∧Aside0 (w'.heap[gm]? = some (.cells #[.string a0_0,.string a0_1,.int .i64 a0_2,.string a0_3,.bool a0_4,.slice A0_5 l0_5.length c0_5,.string a0_6] 31 (0,0)))∧Aside0 (BU w' gb (linesT ((⟨#[]⟩:ByteArray)++firstT a0_0 a0_1 a0_2 a0_3) (l0_5.take n)))∧Aside0 (Below w.heap.size w w'))
  case atStart=>exact⟨0,rfl,⟨by omega⟩,BKm,BU0,HB⟩
  case round=>
   clear BKm BU0 HB
   obtain⟨n,rfl,HN,BKm,BU0,HB⟩:=hrel
   obtain⟨_,_,_,_,_,_,_⟩:=czA7 BKm
   cases gk with
   |zero=>
    have hlt:decide ((n:Int)<(l0_5.length:Int))=false:=decide_eq_false (by have:=HN.out;omega)
    have hltN:decide (n<l0_5.length)=false:=decide_eq_false (by have:=HN.out;omega)
    have hn:l0_5.take n=l0_5:=List.take_of_length_le (by have:=HN.out;omega)
    rw[hn] at BU0
    have lz:=linesT_size l0_5 ((⟨#[]⟩:ByteArray)++firstT a0_0 a0_1 a0_2 a0_3) HF.out.2.2.2.2.2.2
    have fz:=firstT_size a0_0 a0_1 a0_2 a0_3 HF.out.1 HF.out.2.1 HF.out.2.2.1 HF.out.2.2.2.1
    have n1:=HF.out.2.2.2.2.2.1
    have y6:=HF.out.2.2.2.2.1
    rw[app_size] at lz
    obtain⟨tt,htt0⟩:∃ tt,linesT ((⟨#[]⟩:ByteArray)++firstT a0_0 a0_1 a0_2 a0_3) l0_5=tt:=⟨_,rfl⟩
    rw[htt0] at BU0 lz
    have htt:=Aside0.mk htt0
    have hzt:Aside0 (tt.size≤400000000):=⟨by have e0:(⟨#[]⟩:ByteArray).size=0:=rfl;omega⟩
    have hi:Aside0 ((itoaT (a0_6.size:Int)).size≤21):=⟨itoaT_size _ (by omega) (by omega)⟩
    have hA9:Aside0 (strconv_Itoa_111.f (a0_6.size:Int)=some (itoaT (a0_6.size:Int))):=⟨if_pos ⟨by omega,by omega⟩⟩
    have hql:Aside0 (tt.size+(((⟨#[67,111,110,116,101,110,116,45,76,101,110,103,116,104,58,32]⟩:ByteArray)++itoaT (a0_6.size:Int))++(⟨#[13,10]⟩:ByteArray)).size≤140737488355328):=⟨by
     simp only[app_size]
     show tt.size+(16+(itoaT (a0_6.size:Int)).size+2)≤140737488355328
     have:=hzt.out;have:=hi.out
     omega⟩
    have q1:(9223372036854775807<16+(itoaT (a0_6.size:Int)).size)=False:=eq_false (by have:=hi.out;omega)
    have q2:(9223372036854775807<16+(itoaT (a0_6.size:Int)).size+2)=False:=eq_false (by have:=hi.out;omega)
    clear hn lz fz n1 y6 htt0
    by_cases e0:a0_0.toList=([]:List UInt8)
    ·have hne:a0_0.toList.isEmpty=true:=List.isEmpty_iff.mpr e0
     have E0:=Aside0.mk e0
     clear e0
     cases a0_4 with
     |true=>
      have hh:Aside0 (headT a0_0 a0_1 a0_2 a0_3 true l0_5 a0_6=tt++(⟨#[13,10]⟩:ByteArray)):=⟨by unfold headT;rw[htt.out];simp only;rw[if_neg (show ¬ tellsB _ _ _=true from(by unfold tellsB;rw[if_pos E0.out];decide))]⟩
      have q5:(9223372036854775807<tt.size+2)=False:=eq_false (by have:=hzt.out;omega)
      exact impl_writeHead.e0
     |false=>
      have hh:Aside0 (headT a0_0 a0_1 a0_2 a0_3 false l0_5 a0_6=(tt++(((⟨#[67,111,110,116,101,110,116,45,76,101,110,103,116,104,58,32]⟩:ByteArray)++itoaT (a0_6.size:Int))++(⟨#[13,10]⟩:ByteArray)))++(⟨#[13,10]⟩:ByteArray)):=⟨by unfold headT;rw[htt.out];simp only;rw[if_pos (show tellsB _ _ _=true from(by unfold tellsB;rw[if_pos E0.out];rfl))];rfl⟩
      have q5:(9223372036854775807<tt.size+(16+(itoaT (a0_6.size:Int)).size+2)+2)=False:=eq_false (by have:=hzt.out;have:=hi.out;omega)
      exact impl_writeHead.e0
    ·have hne:a0_0.toList.isEmpty=false:=Bool.eq_false_iff.mpr (fun h_=>e0 (List.isEmpty_iff.mp h_))
     have E0:=Aside0.mk e0
     clear e0
     by_cases e6:a0_6.toList=([]:List UInt8)
     ·have hn6:a0_6.toList.isEmpty=true:=List.isEmpty_iff.mpr e6
      have E6:=Aside0.mk e6
      clear e6
      have hh:Aside0 (headT a0_0 a0_1 a0_2 a0_3 a0_4 l0_5 a0_6=tt++(⟨#[13,10]⟩:ByteArray)):=⟨by unfold headT;rw[htt.out];simp only;rw[if_neg (show ¬ tellsB _ _ _=true from(by unfold tellsB;rw[if_neg E0.out,E6.out];decide))]⟩
      have q5:(9223372036854775807<tt.size+2)=False:=eq_false (by have:=hzt.out;omega)
      exact impl_writeHead.e0
     ·have hn6:a0_6.toList.isEmpty=false:=Bool.eq_false_iff.mpr (fun h_=>e6 (List.isEmpty_iff.mp h_))
      have E6:=Aside0.mk e6
      clear e6
      have hh:Aside0 (headT a0_0 a0_1 a0_2 a0_3 a0_4 l0_5 a0_6=(tt++(((⟨#[67,111,110,116,101,110,116,45,76,101,110,103,116,104,58,32]⟩:ByteArray)++itoaT (a0_6.size:Int))++(⟨#[13,10]⟩:ByteArray)))++(⟨#[13,10]⟩:ByteArray)):=⟨by unfold headT;rw[htt.out];simp only;rw[if_pos (show tellsB _ _ _=true from(by unfold tellsB;rw[if_neg E0.out];exact bne_iff_ne.mpr E6.out))];rfl⟩
      have q5:(9223372036854775807<tt.size+(16+(itoaT (a0_6.size:Int)).size+2)+2)=False:=eq_false (by have:=hzt.out;have:=hi.out;omega)
      exact impl_writeHead.e0
   |succ k1=>
    have hn:n<l0_5.length:=by have:=HN.out;omega
    have hlt:decide ((n:Int)<(l0_5.length:Int))=true:=decide_eq_true (by omega)
    have ll:=linesT_take l0_5 ((⟨#[]⟩:ByteArray)++firstT a0_0 a0_1 a0_2 a0_3) n hn
    have lz:=linesT_size (l0_5.take n) ((⟨#[]⟩:ByteArray)++firstT a0_0 a0_1 a0_2 a0_3) (fun f hf=>HF.out.2.2.2.2.2.2 f (List.mem_of_mem_take hf))
    have fz:=firstT_size a0_0 a0_1 a0_2 a0_3 HF.out.1 HF.out.2.1 HF.out.2.2.1 HF.out.2.2.2.1
    have mem:rd_T72 l0_5 (n:Int)∈l0_5:=by
     have e:rd_T72 l0_5 (n:Int)=l0_5[n]:=by
      unfold rd_T72
      rw[Int.toNat_natCast,List.getD_eq_getElem?_getD,List.getElem?_eq_getElem hn]
      rfl
     rw[e]
     exact List.getElem_mem hn
    have gz:=HF.out.2.2.2.2.2.2 _ mem
    have gl:=lineT_size _ gz.1 gz.2
    have n1:=HF.out.2.2.2.2.2.1
    rw[app_size,List.length_take] at lz
    have hql:Aside0 ((linesT ((⟨#[]⟩:ByteArray)++firstT a0_0 a0_1 a0_2 a0_3) (l0_5.take n)).size+(((((rd_T72 l0_5 (n:Int)).f0++(⟨#[58,32]⟩:ByteArray))++(rd_T72 l0_5 (n:Int)).f1))++(⟨#[13,10]⟩:ByteArray)).size≤140737488355328):=⟨by
     show _+(lineT (rd_T72 l0_5 (n:Int))).size≤_
     have e0:(⟨#[]⟩:ByteArray).size=0:=rfl
     omega⟩
    have q1:(9223372036854775807<(rd_T72 l0_5 (n:Int)).f0.size+2+(rd_T72 l0_5 (n:Int)).f1.size+2)=False:=eq_false (by omega)
    have q2:(9223372036854775807<((((rd_T72 l0_5 (n:Int)).f0++(⟨#[58,32]⟩:ByteArray))++(rd_T72 l0_5 (n:Int)).f1)).size+2)=False:=eq_false (by simp only[app_size];show ¬ (9223372036854775807<(rd_T72 l0_5 (n:Int)).f0.size+2+(rd_T72 l0_5 (n:Int)).f1.size+2);omega)
    have A6:Aside0 (impl_fieldText.f (rd_T72 l0_5 (n:Int)).f0 (rd_T72 l0_5 (n:Int)).f1=some ((((rd_T72 l0_5 (n:Int)).f0++(⟨#[58,32]⟩:ByteArray))++(rd_T72 l0_5 (n:Int)).f1))):=⟨by
     unfold impl_fieldText.f
     rw[if_pos (by omega),if_pos (by rw[app_size];show(rd_T72 l0_5 (n:Int)).f0.size+2+(rd_T72 l0_5 (n:Int)).f1.size≤_;omega)]⟩
    have LL:=Aside0.mk ll
    have hw:Aside0 (wrap64 ((n:Int)+1)=((n+1:Nat):Int)):=⟨by have:=HN.out;unfold wrap64;omega⟩
    clear ll lz fz mem gz gl n1
    have p943:0≤(n:Int):=by omega
    have q943:(n:Int)<(l0_5.length:Int):=by omega
    obtain⟨ad943,e943,hx943_0,hx943_1⟩:=at_T72 HR0.out (n:Int) p943 q943
    cases e943
    replace hx943_0:=(HB.out.cell (World.block_lt_of_cell? w _ hx943_0)).trans hx943_0
    replace hx943_1:=(HB.out.cell (World.block_lt_of_cell? w _ hx943_1)).trans hx943_1
    simp only[Int.toNat_natCast] at hx943_0 hx943_1
    replace p943:=eq_true p943
    replace q943:=eq_true q943
    clear hn
    go_wp2_with(first|((with_reducible refine gate_dst (N:=5) rfl ?_);refine boxA #[.string (⟨#[]⟩:ByteArray),.string (⟨#[]⟩:ByteArray)] 72 ?_;intro gf hg wq7a hbox hb;have BKf:=Aside0.mk (hbox);have LTf:=neA (g:=gm) hg;replace BKm:=blA (g:=gm) hb;have HBf:=Aside0.mk hb;have GEr:=Aside0.mk (Nat.le_of_eq hg.symm);have GEf:=geA hg;replace HB:=beA hb;clear hb hbox hg;obtain⟨_,_⟩:=czA2 BKf;obtain⟨_,_⟩:=cfA2 BKf)|((with_reducible refine gate_callee (f:=112) rfl ?_);refine goesL_ (some 36) rfl rfl Tryz.func112 (by kernel_rfl) rfl #[.agg #[.string (rd_T72 l0_5 (n:Int)).f0,.string (rd_T72 l0_5 (n:Int)).f1]] rfl gq13 ?_;(with_reducible refine(impl_fieldText.calls (rd_T72 l0_5 (n:Int)).f0 (rd_T72 l0_5 (n:Int)).f1 (((rd_T72 l0_5 (n:Int)).f0++(⟨#[58,32]⟩:ByteArray))++(rd_T72 l0_5 (n:Int)).f1) _ A6.out).mono ?_);rintro e wq8a ⟨rfl,hb⟩;refine⟨_,rfl,?_⟩;replace BKm:=blA (g:=gm) hb;replace HBf:=Aside0.mk (below_step (by repeat(first|exact HBf.out|refine below_set ?_ GEr.out)) hb);replace HB:=beA hb;clear hb)|((with_reducible refine gate_callee (f:=110) rfl ?_);refine goesL_ (some 38) rfl rfl Tryz.func110 (by kernel_rfl) rfl #[.pointer (some ⟨gb,0,none⟩),.string ((((rd_T72 l0_5 (n:Int)).f0++(⟨#[58,32]⟩:ByteArray))++(rd_T72 l0_5 (n:Int)).f1)++(⟨#[13,10]⟩:ByteArray))] rfl gq13 ?_;refine(bu_write ((((rd_T72 l0_5 (n:Int)).f0++(⟨#[58,32]⟩:ByteArray))++(rd_T72 l0_5 (n:Int)).f1)++(⟨#[13,10]⟩:ByteArray)) (bu_below BU0 HBf.out) hql.out).mono ?_;rintro e wq9a ⟨rfl,hu,hb⟩;refine⟨_,rfl,?_⟩;replace BKm:=bm_keep BKm LM hb;replace HB:=bb_keep HB GEb hb;have BU1:=hu;clear hu hb))
    go_roundg k1
    case measure=>omega
    case rel=>exact⟨n+1,by first|rfl|(rw[hw.out]),⟨by have:=HN.out;omega⟩,BKm,⟨by rw[LL.out];exact BU1.out⟩,HB⟩

def impl_isMethod.f (k:Nat) (a0:ByteArray):Option (Bool):=(impl_Token.f k a0).bind fun t830=>(if t830=true then(some (decide ((a0.size:Int)≤20))) else(some false))
theorem impl_isMethod.e0 {p:Prop} (h:p:=by
  obtain rfl:=Option.some.inj H
  go_enter Tryz.func68,Tryz.ntmps68
  go_wp2_with(first|((with_reducible refine gate_callee (f:=106) rfl ?_);refine goesL_ (some 4) rfl rfl Tryz.func106 (by kernel_rfl) rfl #[.string a0] rfl gq0 ?_;(with_reducible refine(impl_Token.calls k a0 false _ A2.out).mono ?_);rintro e w' ⟨rfl,⟨nd,rfl⟩⟩;refine⟨_,rfl,?_⟩)|((with_reducible refine gate_callee (f:=106) rfl ?_);refine goesL_ (some 4) rfl rfl Tryz.func106 (by kernel_rfl) rfl #[.string a0] rfl gq0 ?_;(with_reducible refine(impl_Token.calls k a0 true _ A2.out).mono ?_);rintro e w' ⟨rfl,⟨nd,rfl⟩⟩;refine⟨_,rfl,?_⟩))
  go_ret
  exact⟨gq4,gq5⟩):p:=h
set_option maxHeartbeats 8000000 in
set_option maxRecDepth 100000 in
theorem impl_isMethod.calls (k:Nat) (a0:ByteArray) (r:Bool) (w:World) (h:impl_isMethod.f k a0=some r) :
  Calls Tryz.prog 68 #[.string a0] w fun e w'=>e = .returned (.bool r)∧Drawn0 w w':=by
 have H:=h
 clear h
 unfold impl_isMethod.f at H
 replace H:=gD H
 obtain⟨t830,A2,H⟩:=H
 replace H:=gB H
 rcases H with⟨rfl,H⟩|⟨rfl,H⟩
 ·exact impl_isMethod.e0
 ·exact impl_isMethod.e0


def impl_isTarget.f (k:Nat) (a0:ByteArray):Option (Bool):=(impl_within.f (a0.size:Int) 1 200).bind fun t846=>(if t846=true then((impl_all__impl_isVisible.f k a0).bind fun t847=>(some t847)) else(some false))
theorem impl_isTarget.e0 {p:Prop} (h:p:=by
  obtain rfl:=Option.some.inj H
  go_enter Tryz.func69,Tryz.ntmps69
  go_wp2_with(first|((with_reducible refine gate_callee (f:=65) rfl ?_);refine goesL_ (some 5) rfl rfl Tryz.func65 (by kernel_rfl) rfl #[.int .i64 (a0.size:Int),.int .i64 1,.int .i64 200] rfl gq0 ?_;(with_reducible refine(impl_within.calls (a0.size:Int) 1 200 false _ A2.out).mono ?_);rintro e w' ⟨rfl,⟨nd,rfl⟩⟩;refine⟨_,rfl,?_⟩)|((with_reducible refine gate_callee (f:=65) rfl ?_);refine goesL_ (some 5) rfl rfl Tryz.func65 (by kernel_rfl) rfl #[.int .i64 (a0.size:Int),.int .i64 1,.int .i64 200] rfl gq0 ?_;(with_reducible refine(impl_within.calls (a0.size:Int) 1 200 true _ A2.out).mono ?_);rintro e w' ⟨rfl,⟨nd,rfl⟩⟩;refine⟨_,rfl,?_⟩)|(go_at_call 107;(with_reducible refine(impl_all__impl_isVisible.calls k a0  t847 _ A4.out).mono ?_);rintro e w' ⟨rfl,⟨nd,rfl⟩⟩))
  go_ret
  exact⟨gq4,gq5⟩):p:=h
set_option maxHeartbeats 8000000 in
set_option maxRecDepth 100000 in
theorem impl_isTarget.calls (k:Nat) (a0:ByteArray) (r:Bool) (w:World) (h:impl_isTarget.f k a0=some r) :
  Calls Tryz.prog 69 #[.string a0] w fun e w'=>e = .returned (.bool r)∧Drawn0 w w':=by
 have H:=h
 clear h
 unfold impl_isTarget.f at H
 replace H:=gD H
 obtain⟨t846,A2,H⟩:=H
 replace H:=gB H
 rcases H with⟨rfl,H⟩|⟨rfl,H⟩
 ·replace H:=gD H
  obtain⟨t847,A4,H⟩:=H
  exact impl_isTarget.e0
 ·exact impl_isTarget.e0


mutual
def impl_MsgOk.j0 : Nat→Bool→ByteArray→ByteArray→Int→ByteArray→Bool→List (S72)→ByteArray→Option (Bool)
 |0,_,_,_,_,_,_,_,_=>none
 |k+1,x20,x849000,x849001,x849002,x849003,x849004,x849005,x849006=>if x20=true then(some false) else((impl_framed.f).bind fun t850=>(impl_MsgOk.l0 k t850 (t850.length:Int) 0 x849000 x849001 x849002 x849003 x849004 x849005 x849006))
def impl_MsgOk.l0 : Nat→List ByteArray→Int→Int→ByteArray→ByteArray→Int→ByteArray→Bool→List (S72)→ByteArray→Option (Bool)
 |0,_,_,_,_,_,_,_,_,_,_=>none
 |k+1,x21,x22,x23,x849000,x849001,x849002,x849003,x849004,x849005,x849006=>if x23<x22 then(if 0≤x23 then(if x23<(x21.length:Int) then((impl_hasField.f k x849005 (rdOf ByteArray.empty x21 x23)).bind fun t854=>(if t854=true then(some false) else(impl_MsgOk.l0 k x21 x22 (wrap64 (x23+1)) x849000 x849001 x849002 x849003 x849004 x849005 x849006))) else(none)) else(none)) else(if x849000.toList=([]:List UInt8) then(if x849001.toList=([]:List UInt8) then((impl_isStatus.f x849002).bind fun t855=>(if t855=true then((impl_isReason.f k x849003).bind fun t856=>(if t856=true then(if x849004=true then(if x849006.toList=([]:List UInt8) then((impl_isBareStatus.f x849002).bind fun t857=>(if t857=true then((impl_writeHead.f x849000 x849001 x849002 x849003 x849004 x849005 x849006).bind fun t858=>(some (decide ((t858.size:Int)≤1500)))) else((impl_writeHead.f x849000 x849001 x849002 x849003 x849004 x849005 x849006).bind fun t859=>(some (decide ((t859.size:Int)≤1500)))))) else(some false)) else((impl_isBareStatus.f x849002).bind fun t860=>(if t860=true then(some false) else((impl_writeHead.f x849000 x849001 x849002 x849003 x849004 x849005 x849006).bind fun t861=>(some (decide ((t861.size:Int)≤1500))))))) else(some false))) else(some false))) else(some false)) else((impl_isMethod.f k x849000).bind fun t862=>(if t862=true then((impl_isTarget.f k x849001).bind fun t863=>(if t863=true then(if x849002=0 then(if x849003.toList=([]:List UInt8) then(if x849004=true then(some false) else((impl_writeHead.f x849000 x849001 x849002 x849003 x849004 x849005 x849006).bind fun t864=>(some (decide ((t864.size:Int)≤1500))))) else(some false)) else(some false)) else(some false))) else(some false))))
end
def impl_MsgOk.f (k:Nat) (a0_0:ByteArray) (a0_1:ByteArray) (a0_2:Int) (a0_3:ByteArray) (a0_4:Bool) (l0_5:List (S72)) (a0_6:ByteArray):Option (Bool):=(impl_FieldsOk.f k l0_5).bind fun t849=>(if t849=true then(if(l0_5.length:Int)≥20 then(impl_MsgOk.j0 k true a0_0 a0_1 a0_2 a0_3 a0_4 l0_5 a0_6) else(impl_MsgOk.j0 k (decide ((a0_6.size:Int)>600)) a0_0 a0_1 a0_2 a0_3 a0_4 l0_5 a0_6)) else(impl_MsgOk.j0 k true a0_0 a0_1 a0_2 a0_3 a0_4 l0_5 a0_6))
theorem impl_MsgOk.e0 {p:Prop} (h:p:=by
  have H':=Aside0.mk H
  clear H
  obtain⟨_,_,_,_,_,_,_⟩:=czA7 BK848
  obtain⟨_,_,_,_,_,_,_⟩:=cfA7 BK848
  go_wp2_with(first|((with_reducible refine gate_callee (f:=38) rfl ?_);refine goesL_ (some 7) rfl rfl Tryz.func38 (by kernel_rfl) rfl #[.slice A0_5 l0_5.length c0_5] rfl gq0 ?_;(with_reducible refine(impl_FieldsOk.calls k _ _ l0_5 false _ ?side1 ?side2 A4.out).mono ?_);(case side1=>repeat(first|exact(Kd.C_below HR0_5.out HB.out)|(with_reducible refine Kd.C_alloc ?_ _)|(with_reducible refine Kd.C_drewN ?_ _)|(with_reducible refine Kd.C_drew ?_)));(case side2=>exact HC0_5.out);rintro e wq1a ⟨rfl,hb⟩;refine⟨_,rfl,?_⟩;replace BK848:=blA (g:=gb848) hb;replace HB:=beA hb;(try clear hb);(try clear hb2);(try clear hk);(try clear hi))|((with_reducible refine gate_callee (f:=38) rfl ?_);refine goesL_ (some 7) rfl rfl Tryz.func38 (by kernel_rfl) rfl #[.slice A0_5 l0_5.length c0_5] rfl gq0 ?_;(with_reducible refine(impl_FieldsOk.calls k _ _ l0_5 true _ ?side1 ?side2 A4.out).mono ?_);(case side1=>repeat(first|exact(Kd.C_below HR0_5.out HB.out)|(with_reducible refine Kd.C_alloc ?_ _)|(with_reducible refine Kd.C_drewN ?_ _)|(with_reducible refine Kd.C_drew ?_)));(case side2=>exact HC0_5.out);rintro e wq0a ⟨rfl,hb⟩;refine⟨_,rfl,?_⟩;replace BK848:=blA (g:=gb848) hb;replace HB:=beA hb;(try clear hb);(try clear hb2);(try clear hk);(try clear hi);obtain⟨_,_,_,_,_,_,_⟩:=czA7 BK848;obtain⟨_,_,_,_,_,_,_⟩:=cfA7 BK848))
  go_meet
  case rel=>exact⟨_,(true),gq4,H',⟨gq8⟩,⟨gBk⟩,⟨gBe⟩⟩):p:=h
theorem impl_MsgOk.e1 {p:Prop} (h:p:=by
  obtain rfl:=Option.some.inj H
  obtain⟨_,_,_,_,_,_,_⟩:=czA7 BK848
  obtain⟨_,_,_,_,_,_,_⟩:=cfA7 BK848
  go_wp2_with(first|((with_reducible refine gate_callee (f:=68) rfl ?_);refine goesL_ (some 37) rfl rfl Tryz.func68 (by kernel_rfl) rfl #[.string a0_0] rfl gq0 ?_;(with_reducible refine(impl_isMethod.calls k2 a0_0 false _ A54.out).mono ?_);rintro e w' ⟨rfl,⟨nd,rfl⟩⟩;refine⟨_,rfl,?_⟩)|((with_reducible refine gate_callee (f:=68) rfl ?_);refine goesL_ (some 37) rfl rfl Tryz.func68 (by kernel_rfl) rfl #[.string a0_0] rfl gq0 ?_;(with_reducible refine(impl_isMethod.calls k2 a0_0 true _ A54.out).mono ?_);rintro e w' ⟨rfl,⟨nd,rfl⟩⟩;refine⟨_,rfl,?_⟩)|(go_at_call 69;(with_reducible refine(impl_isTarget.calls k2 a0_1 false _ A56.out).mono ?_);rintro e w' ⟨rfl,⟨nd,rfl⟩⟩)|(go_at_call 69;(with_reducible refine(impl_isTarget.calls k2 a0_1 true _ A56.out).mono ?_);rintro e w' ⟨rfl,⟨nd,rfl⟩⟩)|((with_reducible refine gate_callee (f:=73) rfl ?_);refine goesL_ (some 94) rfl rfl Tryz.func73 (by kernel_rfl) rfl #[.agg #[.string a0_0,.string a0_1,.int .i64 a0_2,.string a0_3,.bool false,.slice A0_5 l0_5.length c0_5,.string a0_6]] rfl gq0 ?_;(with_reducible refine(impl_writeHead.calls a0_0 a0_1 a0_2 a0_3 false _ _ l0_5 a0_6 t864 _ ?side1 ?side2 A62.out ?hT).mono ?_);(case hT=>exact tab_go HT);(case side1=>repeat(first|exact(Kd.C_below HR0_5.out gBe)|(with_reducible refine Kd.C_alloc ?_ _)|(with_reducible refine Kd.C_drewN ?_ _)|(with_reducible refine Kd.C_drew ?_)));(case side2=>exact HC0_5.out);rintro e wq7a ⟨rfl,hb⟩;refine⟨_,rfl,?_⟩;replace HO_21:=Aside0.mk (Kd.R_below gq47 hb);replace BK848:=blA (g:=gb848) hb;replace HB:=beA hb;(try clear hb);(try clear hb2);(try clear hk);(try clear hi))|(go_at_call 70;(with_reducible refine(impl_isStatus.calls a0_2 false _ A30.out).mono ?_);rintro e w' ⟨rfl,⟨nd,rfl⟩⟩)|(go_at_call 70;(with_reducible refine(impl_isStatus.calls a0_2 true _ A30.out).mono ?_);rintro e w' ⟨rfl,⟨nd,rfl⟩⟩)|(go_at_call 71;(with_reducible refine(impl_isReason.calls k2 a0_3 false _ A32.out).mono ?_);rintro e w' ⟨rfl,⟨nd,rfl⟩⟩)|(go_at_call 71;(with_reducible refine(impl_isReason.calls k2 a0_3 true _ A32.out).mono ?_);rintro e w' ⟨rfl,⟨nd,rfl⟩⟩)|(go_at_call 72;(with_reducible refine(impl_isBareStatus.calls a0_2 false _ A45.out).mono ?_);rintro e w' ⟨rfl,⟨nd,rfl⟩⟩)|((with_reducible refine gate_callee (f:=73) rfl ?_);refine goesL_ (some 94) rfl rfl Tryz.func73 (by kernel_rfl) rfl #[.agg #[.string a0_0,.string a0_1,.int .i64 a0_2,.string a0_3,.bool false,.slice A0_5 l0_5.length c0_5,.string a0_6]] rfl gq0 ?_;(with_reducible refine(impl_writeHead.calls a0_0 a0_1 a0_2 a0_3 false _ _ l0_5 a0_6 t861 _ ?side1 ?side2 A48.out ?hT).mono ?_);(case hT=>exact tab_go HT);(case side1=>repeat(first|exact(Kd.C_below HR0_5.out gBe)|(with_reducible refine Kd.C_alloc ?_ _)|(with_reducible refine Kd.C_drewN ?_ _)|(with_reducible refine Kd.C_drew ?_)));(case side2=>exact HC0_5.out);rintro e wq6a ⟨rfl,hb⟩;refine⟨_,rfl,?_⟩;replace HO_21:=Aside0.mk (Kd.R_below gq47 hb);replace BK848:=blA (g:=gb848) hb;replace HB:=beA hb;(try clear hb);(try clear hb2);(try clear hk);(try clear hi))|(go_at_call 72;(with_reducible refine(impl_isBareStatus.calls a0_2 true _ A45.out).mono ?_);rintro e w' ⟨rfl,⟨nd,rfl⟩⟩)|(go_at_call 72;(with_reducible refine(impl_isBareStatus.calls a0_2 false _ A36.out).mono ?_);rintro e w' ⟨rfl,⟨nd,rfl⟩⟩)|((with_reducible refine gate_callee (f:=73) rfl ?_);refine goesL_ (some 94) rfl rfl Tryz.func73 (by kernel_rfl) rfl #[.agg #[.string a0_0,.string a0_1,.int .i64 a0_2,.string a0_3,.bool true,.slice A0_5 l0_5.length c0_5,.string a0_6]] rfl gq0 ?_;(with_reducible refine(impl_writeHead.calls a0_0 a0_1 a0_2 a0_3 true _ _ l0_5 a0_6 t859 _ ?side1 ?side2 A41.out ?hT).mono ?_);(case hT=>exact tab_go HT);(case side1=>repeat(first|exact(Kd.C_below HR0_5.out gBe)|(with_reducible refine Kd.C_alloc ?_ _)|(with_reducible refine Kd.C_drewN ?_ _)|(with_reducible refine Kd.C_drew ?_)));(case side2=>exact HC0_5.out);rintro e wq5a ⟨rfl,hb⟩;refine⟨_,rfl,?_⟩;replace HO_21:=Aside0.mk (Kd.R_below gq47 hb);replace BK848:=blA (g:=gb848) hb;replace HB:=beA hb;(try clear hb);(try clear hb2);(try clear hk);(try clear hi))|(go_at_call 72;(with_reducible refine(impl_isBareStatus.calls a0_2 true _ A36.out).mono ?_);rintro e w' ⟨rfl,⟨nd,rfl⟩⟩)|((with_reducible refine gate_callee (f:=73) rfl ?_);refine goesL_ (some 94) rfl rfl Tryz.func73 (by kernel_rfl) rfl #[.agg #[.string a0_0,.string a0_1,.int .i64 a0_2,.string a0_3,.bool true,.slice A0_5 l0_5.length c0_5,.string a0_6]] rfl gq0 ?_;(with_reducible refine(impl_writeHead.calls a0_0 a0_1 a0_2 a0_3 true _ _ l0_5 a0_6 t858 _ ?side1 ?side2 A38.out ?hT).mono ?_);(case hT=>exact tab_go HT);(case side1=>repeat(first|exact(Kd.C_below HR0_5.out gBe)|(with_reducible refine Kd.C_alloc ?_ _)|(with_reducible refine Kd.C_drewN ?_ _)|(with_reducible refine Kd.C_drew ?_)));(case side2=>exact HC0_5.out);rintro e wq4a ⟨rfl,hb⟩;refine⟨_,rfl,?_⟩;replace HO_21:=Aside0.mk (Kd.R_below gq47 hb);replace BK848:=blA (g:=gb848) hb;replace HB:=beA hb;(try clear hb);(try clear hb2);(try clear hk);(try clear hi)))
  go_ret
  exact⟨gq2,gBe⟩):p:=h
set_option maxHeartbeats 8000000 in
set_option maxRecDepth 100000 in
theorem impl_MsgOk.calls (k:Nat) (a0_0:ByteArray) (a0_1:ByteArray) (a0_2:Int) (a0_3:ByteArray) (a0_4:Bool) (A0_5:Option Addr) (c0_5:Nat) (l0_5:List (S72)) (a0_6:ByteArray) (r:Bool) (w:World) (hr0_5:Kd.C k72 w A0_5 l0_5.length l0_5) (hc0_5:l0_5.length≤c0_5) (h:impl_MsgOk.f k a0_0 a0_1 a0_2 a0_3 a0_4 l0_5 a0_6=some r) (HT0:Tab10 w) :
  Calls Tryz.prog 39 #[.agg #[.string a0_0,.string a0_1,.int .i64 a0_2,.string a0_3,.bool a0_4,.slice A0_5 l0_5.length c0_5,.string a0_6]] w fun e w'=>e = .returned (.bool r)∧Below w.heap.size w w':=by
 have HT:=Aside0.mk HT0
 clear HT0
 have hu31:=Tryz.underlying31
 have HR0_5:=Aside0.mk hr0_5
 have HC0_5:=Aside0.mk hc0_5
 clear hr0_5 hc0_5
 have HB:=Aside0.mk (Below.refl w.heap.size w)
 have H:=h
 clear h
 unfold impl_MsgOk.f at H
 have HC2:=Aside0.mk H
 clear H
 go_enter Tryz.func39,Tryz.ntmps39
 go_upto_region 1 with(first|((with_reducible refine gate_dst (N:=1) rfl ?_);refine boxG #[.string a0_0,.string a0_1,.int .i64 a0_2,.string a0_3,.bool a0_4,.slice A0_5 l0_5.length c0_5,.string a0_6] 31 ?_;intro gb848 hg w3 hbox hb;have BK848:=Aside0.mk (hbox);have GE848:=geA hg;replace HB:=beA hb;clear hb hbox hg))
 (try simp only[Act.put,List.setIfInBounds_toArray,List.set_cons_zero,List.set_cons_succ])
 go_cut [20] (fun v20 wc=>∃(kq:Nat) (x20_1:Bool),v20 = .bool x20_1∧Aside0 (impl_MsgOk.j0 kq x20_1 a0_0 a0_1 a0_2 a0_3 a0_4 l0_5 a0_6=some r)∧Aside0 (kq≤k)∧Aside0 (wc.heap[gb848]? = some (.cells #[.string a0_0,.string a0_1,.int .i64 a0_2,.string a0_3,.bool a0_4,(.slice A0_5 l0_5.length c0_5),.string a0_6] 31 (0,0)))∧Aside0 (Below w.heap.size w wc))
 case first=>
  have H:=HC2.out
  clear HC2
  replace H:=gD H
  obtain⟨t849,A4,H⟩:=H
  replace H:=gB H
  rcases H with⟨rfl,H⟩|⟨rfl,H⟩
  ·replace H:=gI H
   rcases H with⟨c6,-,-,H⟩|⟨c6,-,-,H⟩
   ·have c6b0:decide (20≤(l0_5.length:Int))=true:=decide_eq_true c6
    have c6b1:decide (20≤l0_5.length)=true:=decide_eq_true (by omega)
    clear c6
    (first|rw[c6b0]|(simp only[i64_w,i32_w];rw[c6b0])|skip)
    exact impl_MsgOk.e0
   ·have c6b0:decide (20≤(l0_5.length:Int))=false:=decide_eq_false c6
    have c6b1:decide (20≤l0_5.length)=false:=decide_eq_false (by omega)
    clear c6
    (first|rw[c6b0]|(simp only[i64_w,i32_w];rw[c6b0])|skip)
    have H':=Aside0.mk H
    clear H
    obtain⟨_,_,_,_,_,_,_⟩:=czA7 BK848
    obtain⟨_,_,_,_,_,_,_⟩:=cfA7 BK848
    go_wp2_with(((with_reducible refine gate_callee (f:=38) rfl ?_);refine goesL_ (some 7) rfl rfl Tryz.func38 (by kernel_rfl) rfl #[.slice A0_5 l0_5.length c0_5] rfl gq0 ?_;(with_reducible refine(impl_FieldsOk.calls k _ _ l0_5 true _ ?side1 ?side2 A4.out).mono ?_);(case side1=>repeat(first|exact(Kd.C_below HR0_5.out HB.out)|(with_reducible refine Kd.C_alloc ?_ _)|(with_reducible refine Kd.C_drewN ?_ _)|(with_reducible refine Kd.C_drew ?_)));(case side2=>exact HC0_5.out);rintro e wq0a ⟨rfl,hb⟩;refine⟨_,rfl,?_⟩;replace BK848:=blA (g:=gb848) hb;replace HB:=beA hb;(try clear hb);(try clear hb2);(try clear hk);(try clear hi);obtain⟨_,_,_,_,_,_,_⟩:=czA7 BK848;obtain⟨_,_,_,_,_,_,_⟩:=cfA7 BK848))
    go_meet
    case rel=>exact⟨_,(decide ((a0_6.size:Int)>600)),gq4,H',⟨gq8⟩,⟨gBk⟩,⟨gBe⟩⟩
  ·exact impl_MsgOk.e0
 case rest=>
  clear HC2
  obtain⟨kq,x20_1,rfl,HA,HJ1,BK848,HB⟩:=hcut
  cases kq with
  |zero=>exact absurd HA.out (by simp[impl_MsgOk.j0])
  |succ kj1=>
   have H:=HA.out
   clear HA
   simp only[impl_MsgOk.j0] at H
   replace H:=gB H
   rcases H with⟨rfl,H⟩|⟨rfl,H⟩
   ·obtain rfl:=Option.some.inj H
    go_wp2
    go_ret
    exact⟨gq2,gBe⟩
   ·replace H:=gD H
    obtain⟨t850,A16,H⟩:=H
    have H':=Aside0.mk H
    clear H
    go_wp2_with(first|((with_reducible refine gate_callee (f:=67) rfl ?_);refine goesL_ (some 21) rfl rfl Tryz.func67 (by kernel_rfl) rfl #[] rfl gq0 ?_;(with_reducible refine(impl_framed.calls  t850 _ A16.out).mono ?_);rintro e w17 ⟨v851,rfl,ho0,hb⟩;refine⟨_,rfl,?_⟩;have HO852:=Aside0.mk (Kd.R_lower ho0 (below_size gBe));replace BK848:=blA (g:=gb848) hb;replace HB:=beA hb;(try clear hb);(try clear hb2);(try clear hk);(try clear hi);(try clear ho0);obtain⟨Ao18,co18,eo18⟩:=Kd.R_slice HO852.out;subst eo18))
    go_loopg [23] kj1 (fun kq v23 w'=>∃(x23_2:Int),v23 = .int .i64 x23_2∧Aside0 (impl_MsgOk.l0 kq t850 (t850.length:Int) x23_2 a0_0 a0_1 a0_2 a0_3 a0_4 l0_5 a0_6=some r)∧Aside0 (kq≤kj1)∧Aside0 (Kd.R Kd.string 9 w' w.heap.size (fun _=>True) (.slice Ao18 t850.length co18) t850)∧Aside0 (w'.heap[gb848]? = some (.cells #[.string a0_0,.string a0_1,.int .i64 a0_2,.string a0_3,.bool a0_4,(.slice A0_5 l0_5.length c0_5),.string a0_6] 31 (0,0)))∧Aside0 (Below w.heap.size w w'))
    case atStart=>exact⟨(0),gq4,H',⟨Nat.le_refl _⟩,⟨gRo⟩,⟨gBk⟩,⟨gBe⟩⟩
    case round=>
     clear H'
     obtain⟨x23_2,rfl,HA,HK2,HO_21,BK848,HB⟩:=hrel
     cases gk with
     |zero=>exact absurd HA.out (by simp[impl_MsgOk.l0])
     |succ k2=>
      have H:=HA.out
      clear HA
      simp only[impl_MsgOk.l0] at H
      replace H:=gI H
      rcases H with⟨-,c19b0,-,H⟩|⟨-,c19b0,-,H⟩
      ·replace H:=gN H
       obtain⟨-,c20b0,-,H⟩:=H
       replace H:=gN H
       obtain⟨-,c21b0,-,H⟩:=H
       replace H:=gD H
       obtain⟨t854,A22,H⟩:=H
       replace H:=gB H
       rcases H with⟨rfl,H⟩|⟨rfl,H⟩
       ·obtain rfl:=Option.some.inj H
        have p853:0≤(x23_2:Int):=of_decide_eq_true gq3
        have q853:x23_2<(t850.length:Int):=of_decide_eq_true gq3
        obtain⟨ad853,e853,hx853_0⟩:=Kd.at_string (Kd.R_reads' HO_21.out).2.2 x23_2 p853 q853
        cases e853
        replace p853:=eq_true p853
        replace q853:=eq_true q853
        obtain⟨_,_,_,_,_,_,_⟩:=czA7 BK848
        obtain⟨_,_,_,_,_,_,_⟩:=cfA7 BK848
        go_wp2_with(((with_reducible refine gate_callee (f:=51) rfl ?_);refine goesL_ (some 30) rfl rfl Tryz.func51 (by kernel_rfl) rfl #[.slice A0_5 l0_5.length c0_5,.string (rdOf ByteArray.empty t850 x23_2)] rfl gq0 ?_;(with_reducible refine(impl_hasField.calls k2 _ _ l0_5 (rdOf ByteArray.empty t850 x23_2) true _ ?side1 ?side2 A22.out).mono ?_);(case side1=>repeat(first|exact(Kd.C_below HR0_5.out HB.out)|(with_reducible refine Kd.C_alloc ?_ _)|(with_reducible refine Kd.C_drewN ?_ _)|(with_reducible refine Kd.C_drew ?_)));(case side2=>exact HC0_5.out);rintro e wq2a ⟨rfl,hb⟩;refine⟨_,rfl,?_⟩;replace HO_21:=Aside0.mk (Kd.R_below gq47 hb);replace BK848:=blA (g:=gb848) hb;replace HB:=beA hb;(try clear hb);(try clear hb2);(try clear hk);(try clear hi)))
        go_ret
        exact⟨gq2,gBe⟩
       ·have H':=Aside0.mk H
        clear H
        have p853:0≤(x23_2:Int):=of_decide_eq_true gq3
        have q853:x23_2<(t850.length:Int):=of_decide_eq_true gq3
        obtain⟨ad853,e853,hx853_0⟩:=Kd.at_string (Kd.R_reads' HO_21.out).2.2 x23_2 p853 q853
        cases e853
        replace p853:=eq_true p853
        replace q853:=eq_true q853
        obtain⟨_,_,_,_,_,_,_⟩:=czA7 BK848
        obtain⟨_,_,_,_,_,_,_⟩:=cfA7 BK848
        go_wp2_with(((with_reducible refine gate_callee (f:=51) rfl ?_);refine goesL_ (some 30) rfl rfl Tryz.func51 (by kernel_rfl) rfl #[.slice A0_5 l0_5.length c0_5,.string (rdOf ByteArray.empty t850 x23_2)] rfl gq0 ?_;(with_reducible refine(impl_hasField.calls k2 _ _ l0_5 (rdOf ByteArray.empty t850 x23_2) false _ ?side1 ?side2 A22.out).mono ?_);(case side1=>repeat(first|exact(Kd.C_below HR0_5.out HB.out)|(with_reducible refine Kd.C_alloc ?_ _)|(with_reducible refine Kd.C_drewN ?_ _)|(with_reducible refine Kd.C_drew ?_)));(case side2=>exact HC0_5.out);rintro e wq3a ⟨rfl,hb⟩;refine⟨_,rfl,?_⟩;replace HO_21:=Aside0.mk (Kd.R_below gq47 hb);replace BK848:=blA (g:=gb848) hb;replace HB:=beA hb;(try clear hb);(try clear hb2);(try clear hk);(try clear hi)))
        go_roundg k2
        case measure=>have:=HJ1.out;have:=HK2.out;omega
        case rel=>exact⟨(wrap64 (x23_2+1)),gq4,H',⟨gq44⟩,⟨gRo⟩,⟨gBk⟩,⟨gBe⟩⟩
      ·replace H:=gI H
       rcases H with⟨c28,-,-,H⟩|⟨c28,-,-,H⟩
       ·have c28b0:(a0_0.toList==([]:List UInt8))=true:=beq_iff_eq.mpr c28
        have c28b1:(a0_0.toList != ([]:List UInt8))=false:=bne_eq_false_iff_eq.mpr c28
        clear c28
        replace H:=gI H
        rcases H with⟨c29,-,-,H⟩|⟨c29,-,-,H⟩
        ·have c29b0:(a0_1.toList==([]:List UInt8))=true:=beq_iff_eq.mpr c29
         have c29b1:(a0_1.toList != ([]:List UInt8))=false:=bne_eq_false_iff_eq.mpr c29
         clear c29
         replace H:=gD H
         obtain⟨t855,A30,H⟩:=H
         replace H:=gB H
         rcases H with⟨rfl,H⟩|⟨rfl,H⟩
         ·replace H:=gD H
          obtain⟨t856,A32,H⟩:=H
          replace H:=gB H
          rcases H with⟨rfl,H⟩|⟨rfl,H⟩
          ·replace H:=gB H
           rcases H with⟨rfl,H⟩|⟨rfl,H⟩
           ·replace H:=gI H
            rcases H with⟨c35,-,-,H⟩|⟨c35,-,-,H⟩
            ·have c35b0:(a0_6.toList==([]:List UInt8))=true:=beq_iff_eq.mpr c35
             have c35b1:(a0_6.toList != ([]:List UInt8))=false:=bne_eq_false_iff_eq.mpr c35
             clear c35
             replace H:=gD H
             obtain⟨t857,A36,H⟩:=H
             replace H:=gB H
             rcases H with⟨rfl,H⟩|⟨rfl,H⟩
             ·replace H:=gD H
              obtain⟨t858,A38,H⟩:=H
              exact impl_MsgOk.e1
             ·replace H:=gD H
              obtain⟨t859,A41,H⟩:=H
              exact impl_MsgOk.e1
            ·have c35b0:(a0_6.toList==([]:List UInt8))=false:=beq_eq_false_iff_ne.mpr c35
             have c35b1:(a0_6.toList != ([]:List UInt8))=true:=bne_iff_ne.mpr c35
             exact impl_MsgOk.e1
           ·replace H:=gD H
            obtain⟨t860,A45,H⟩:=H
            replace H:=gB H
            rcases H with⟨rfl,H⟩|⟨rfl,H⟩
            ·exact impl_MsgOk.e1
            ·replace H:=gD H
             obtain⟨t861,A48,H⟩:=H
             exact impl_MsgOk.e1
          ·exact impl_MsgOk.e1
         ·exact impl_MsgOk.e1
        ·have c29b0:(a0_1.toList==([]:List UInt8))=false:=beq_eq_false_iff_ne.mpr c29
         have c29b1:(a0_1.toList != ([]:List UInt8))=true:=bne_iff_ne.mpr c29
         obtain rfl:=Option.some.inj H
         obtain⟨_,_,_,_,_,_,_⟩:=czA7 BK848
         obtain⟨_,_,_,_,_,_,_⟩:=cfA7 BK848
         go_wp2
         go_ret
         exact⟨gq2,gBe⟩
       ·have c28b0:(a0_0.toList==([]:List UInt8))=false:=beq_eq_false_iff_ne.mpr c28
        have c28b1:(a0_0.toList != ([]:List UInt8))=true:=bne_iff_ne.mpr c28
        replace H:=gD H
        obtain⟨t862,A54,H⟩:=H
        replace H:=gB H
        rcases H with⟨rfl,H⟩|⟨rfl,H⟩
        ·replace H:=gD H
         obtain⟨t863,A56,H⟩:=H
         replace H:=gB H
         rcases H with⟨rfl,H⟩|⟨rfl,H⟩
         ·replace H:=gI H
          rcases H with⟨c58,-,-,H⟩|⟨c58,-,-,H⟩
          ·have c58b0:(a0_2==0)=true:=beq_iff_eq.mpr c58
           have c58b1:(a0_2 != 0)=false:=bne_eq_false_iff_eq.mpr c58
           clear c58
           replace H:=gI H
           rcases H with⟨c59,-,-,H⟩|⟨c59,-,-,H⟩
           ·have c59b0:(a0_3.toList==([]:List UInt8))=true:=beq_iff_eq.mpr c59
            have c59b1:(a0_3.toList != ([]:List UInt8))=false:=bne_eq_false_iff_eq.mpr c59
            clear c59
            replace H:=gB H
            rcases H with⟨rfl,H⟩|⟨rfl,H⟩
            ·exact impl_MsgOk.e1
            ·replace H:=gD H
             obtain⟨t864,A62,H⟩:=H
             exact impl_MsgOk.e1
           ·have c59b0:(a0_3.toList==([]:List UInt8))=false:=beq_eq_false_iff_ne.mpr c59
            have c59b1:(a0_3.toList != ([]:List UInt8))=true:=bne_iff_ne.mpr c59
            exact impl_MsgOk.e1
          ·have c58b0:(a0_2==0)=false:=beq_eq_false_iff_ne.mpr c58
           have c58b1:(a0_2 != 0)=true:=bne_iff_ne.mpr c58
           exact impl_MsgOk.e1
         ·exact impl_MsgOk.e1
        ·exact impl_MsgOk.e1


def impl_readPath.f (a0:ByteArray):Option (ByteArray×Int×ByteArray×ByteArray×Bool):=(strings_Cut.f a0 (⟨#[63]⟩:ByteArray)).bind fun bt512=>(some ((⟨#[]⟩:ByteArray),0,bt512.1,bt512.2.1,bt512.2.2))
set_option maxHeartbeats 8000000 in
set_option maxRecDepth 100000 in
theorem impl_readPath.calls (a0:ByteArray) (r1:ByteArray) (r2:Int) (r3:ByteArray) (r4:ByteArray) (r5:Bool) (w:World) (h:impl_readPath.f a0=some (r1,r2,r3,r4,r5)) (HT0:Tab10 w) :
  Calls Tryz.prog 150 #[.string a0] w fun e w'=>e = .returned (.agg #[.string r1,.int .i64 r2,.string r3,.string r4,.bool r5])∧Below w.heap.size w w':=by
 have HT:=Aside0.mk HT0
 clear HT0
 have hu92:=Tryz.underlying92
 have HB:=Aside0.mk (Below.refl w.heap.size w)
 have H:=h
 clear h
 unfold impl_readPath.f at H
 replace H:=gD H
 obtain⟨⟨t512,t513,t514⟩,A2,H⟩:=H
 dsimp only at H
 simp only[Option.some.injEq,Prod.mk.injEq] at H
 obtain⟨rfl,rfl,rfl,rfl,rfl⟩:=H
 go_enter Tryz.func150,Tryz.ntmps150
 go_wp2_with(first|((with_reducible refine gate_dst (N:=2) rfl ?_);refine boxA #[.string (⟨#[]⟩:ByteArray),.int .i64 0,.string (⟨#[]⟩:ByteArray),.string (⟨#[]⟩:ByteArray),.bool false] 92 ?_;intro gb510 hg w3 hbox hb;have BK510:=Aside0.mk (hbox);have GE510:=geA hg;replace HB:=beA hb;clear hb hbox hg)|((with_reducible refine gate_dst (N:=3) rfl ?_);refine boxA #[.string (⟨#[]⟩:ByteArray),.int .i64 0,.string (⟨#[]⟩:ByteArray),.string (⟨#[]⟩:ByteArray),.bool false] 92 ?_;intro gb511 hg w4 hbox hb;have BK511:=Aside0.mk (hbox);have GE511:=geA hg;have NB510_511:=neA (g:=gb510) hg;have NB511_510:=neB NB510_511;replace BK510:=blA (g:=gb510) hb;replace HB:=beA hb;clear hb hbox hg)|((with_reducible refine gate_callee (f:=86) rfl ?_);refine goesL_ (some 6) rfl rfl Tryz.func86 (by kernel_rfl) rfl #[.string a0,.string (⟨#[63]⟩:ByteArray)] rfl gq0 ?_;(with_reducible refine(strings_Cut.calls a0 (⟨#[63]⟩:ByteArray) t512 t513 t514 _ A2.out ?hT).mono ?_);(case hT=>exact tab_go HT);rintro e w' ⟨rfl,⟨nd,rfl⟩⟩;refine⟨_,rfl,?_⟩;(try(rw[drewN_self w4];generalize hq_:World.drewN w4 _=w4;have n0_:Aside0 (w4.heap[gb510]? = some (.cells #[.string (⟨#[]⟩:ByteArray),.int .i64 0,.string (⟨#[]⟩:ByteArray),.string (⟨#[]⟩:ByteArray),.bool false] 92 (0,0))):=⟨by rw[← hq_];exact(by(with_reducible repeat(first|refine blk_drewN ?_ _|refine blk_drew ?_|refine blk_alloc ?_ _));exact BK510.out)⟩;have n1_:Aside0 (w4.heap[gb511]? = some (.cells #[.string (⟨#[]⟩:ByteArray),.int .i64 0,.string (⟨#[]⟩:ByteArray),.string (⟨#[]⟩:ByteArray),.bool false] 92 (0,0))):=⟨by rw[← hq_];exact(by(with_reducible repeat(first|refine blk_drewN ?_ _|refine blk_drew ?_|refine blk_alloc ?_ _));exact BK511.out)⟩;have n2_:Aside0 (Below w.heap.size w w4):=⟨by rw[← hq_];exact gBe⟩;clear BK510 BK511 HB hq_;have BK510:=n0_;have BK511:=n1_;have HB:=n2_;clear n0_ n1_ n2_));have hnb5:=NB511_510.out;have hnc5:=NB510_511.out;obtain⟨_,_,_,_,_⟩:=czA5 BK511;obtain⟨_,_,_,_,_⟩:=cfA5 BK511;obtain⟨_,_,_,_,_⟩:=czA5 BK510;obtain⟨_,_,_,_,_⟩:=cfA5 BK510))
 refine bodyPost_ret (results_cell_row rfl _ _ gb510 92 #[.string (⟨#[]⟩:ByteArray),.int .i64 0,.string t512,.string t513,.bool t514] (0,0) _ rfl (by(with_reducible repeat(first|refine blk_drewN ?_ _|refine blk_drew ?_|refine blk_alloc ?_ _));refine blk_put (cs:=#[.string (⟨#[]⟩:ByteArray),.int .i64 0,.string t512,.string t513,.bool false]) ?_ 4 _ rfl;(with_reducible repeat(first|refine blk_drewN ?_ _|refine blk_drew ?_|refine blk_alloc ?_ _));refine blk_put (cs:=#[.string (⟨#[]⟩:ByteArray),.int .i64 0,.string t512,.string (⟨#[]⟩:ByteArray),.bool false]) ?_ 3 _ rfl;(with_reducible repeat(first|refine blk_drewN ?_ _|refine blk_drew ?_|refine blk_alloc ?_ _));refine blk_put (cs:=#[.string (⟨#[]⟩:ByteArray),.int .i64 0,.string (⟨#[]⟩:ByteArray),.string (⟨#[]⟩:ByteArray),.bool false]) ?_ 2 _ rfl;(with_reducible repeat(first|refine blk_drewN ?_ _|refine blk_drew ?_|refine blk_alloc ?_ _));refine blk_put (cs:=#[.string (⟨#[]⟩:ByteArray),.int .i64 0,.string (⟨#[]⟩:ByteArray),.string (⟨#[]⟩:ByteArray),.bool false]) ?_ 1 _ rfl;(with_reducible repeat(first|refine blk_drewN ?_ _|refine blk_drew ?_|refine blk_alloc ?_ _));refine blk_put (cs:=#[.string (⟨#[]⟩:ByteArray),.int .i64 0,.string (⟨#[]⟩:ByteArray),.string (⟨#[]⟩:ByteArray),.bool false]) ?_ 0 _ rfl;(with_reducible repeat(first|refine blk_drewN ?_ _|refine blk_drew ?_|refine blk_alloc ?_ _));refine blk_far ?_ NB510_511.out _;(with_reducible repeat(first|refine blk_drewN ?_ _|refine blk_drew ?_|refine blk_alloc ?_ _));refine blk_far ?_ NB510_511.out _;(with_reducible repeat(first|refine blk_drewN ?_ _|refine blk_drew ?_|refine blk_alloc ?_ _));refine blk_far ?_ NB510_511.out _;(with_reducible repeat(first|refine blk_drewN ?_ _|refine blk_drew ?_|refine blk_alloc ?_ _));exact BK510.out) Tryz.underlying92 rfl (by kernel_rfl)) rfl ?_
 exact⟨gq2,gBe⟩

def impl_isFree.f (a0:Int):Option (Bool):=(impl_isLower.f a0).bind fun t564=>(if t564=true then(some true) else((impl_isUpper.f a0).bind fun t565=>(if t565=true then(some true) else((impl_isDigit.f a0).bind fun t566=>(if t566=true then(some true) else(if a0=45 then(some true) else(if a0=46 then(some true) else(if a0=95 then(some true) else(some (a0==126))))))))))
theorem impl_isFree.e0 {p:Prop} (h:p:=by
  obtain rfl:=Option.some.inj H
  go_enter Tryz.func220,Tryz.ntmps220
  go_wp2_with(first|((with_reducible refine gate_callee (f:=199) rfl ?_);refine goesL_ (some 4) rfl rfl Tryz.func199 (by kernel_rfl) rfl #[.int .u8 a0] rfl gq0 ?_;(with_reducible refine(impl_isLower.calls a0 false _ A2.out).mono ?_);rintro e w' ⟨rfl,⟨nd,rfl⟩⟩;refine⟨_,rfl,?_⟩)|(go_at_call 130;(with_reducible refine(impl_isUpper.calls a0 false _ A4.out).mono ?_);rintro e w' ⟨rfl,⟨nd,rfl⟩⟩)|(go_at_call 166;(with_reducible refine(impl_isDigit.calls a0 false _ A6.out).mono ?_);rintro e w' ⟨rfl,⟨nd,rfl⟩⟩)|(go_at_call 166;(with_reducible refine(impl_isDigit.calls a0 true _ A6.out).mono ?_);rintro e w' ⟨rfl,⟨nd,rfl⟩⟩)|(go_at_call 130;(with_reducible refine(impl_isUpper.calls a0 true _ A4.out).mono ?_);rintro e w' ⟨rfl,⟨nd,rfl⟩⟩)|((with_reducible refine gate_callee (f:=199) rfl ?_);refine goesL_ (some 4) rfl rfl Tryz.func199 (by kernel_rfl) rfl #[.int .u8 a0] rfl gq0 ?_;(with_reducible refine(impl_isLower.calls a0 true _ A2.out).mono ?_);rintro e w' ⟨rfl,⟨nd,rfl⟩⟩;refine⟨_,rfl,?_⟩))
  go_ret
  exact⟨gq4,gq5⟩):p:=h
set_option maxHeartbeats 8000000 in
set_option maxRecDepth 100000 in
theorem impl_isFree.calls (a0:Int) (r:Bool) (w:World) (h:impl_isFree.f a0=some r) :
  Calls Tryz.prog 220 #[.int .u8 a0] w fun e w'=>e = .returned (.bool r)∧Drawn0 w w':=by
 have H:=h
 clear h
 unfold impl_isFree.f at H
 replace H:=gD H
 obtain⟨t564,A2,H⟩:=H
 replace H:=gB H
 rcases H with⟨rfl,H⟩|⟨rfl,H⟩
 ·exact impl_isFree.e0
 ·replace H:=gD H
  obtain⟨t565,A4,H⟩:=H
  replace H:=gB H
  rcases H with⟨rfl,H⟩|⟨rfl,H⟩
  ·exact impl_isFree.e0
  ·replace H:=gD H
   obtain⟨t566,A6,H⟩:=H
   replace H:=gB H
   rcases H with⟨rfl,H⟩|⟨rfl,H⟩
   ·exact impl_isFree.e0
   ·replace H:=gI H
    rcases H with⟨c8,-,-,H⟩|⟨c8,-,-,H⟩
    ·have c8b0:(a0==45)=true:=beq_iff_eq.mpr c8
     have c8b1:(a0 != 45)=false:=bne_eq_false_iff_eq.mpr c8
     clear c8
     exact impl_isFree.e0
    ·have c8b0:(a0==45)=false:=beq_eq_false_iff_ne.mpr c8
     have c8b1:(a0 != 45)=true:=bne_iff_ne.mpr c8
     replace H:=gI H
     rcases H with⟨c9,-,-,H⟩|⟨c9,-,-,H⟩
     ·have c9b0:(a0==46)=true:=beq_iff_eq.mpr c9
      have c9b1:(a0 != 46)=false:=bne_eq_false_iff_eq.mpr c9
      clear c9
      exact impl_isFree.e0
     ·have c9b0:(a0==46)=false:=beq_eq_false_iff_ne.mpr c9
      have c9b1:(a0 != 46)=true:=bne_iff_ne.mpr c9
      replace H:=gI H
      rcases H with⟨c10,-,-,H⟩|⟨c10,-,-,H⟩
      ·have c10b0:(a0==95)=true:=beq_iff_eq.mpr c10
       have c10b1:(a0 != 95)=false:=bne_eq_false_iff_eq.mpr c10
       clear c10
       exact impl_isFree.e0
      ·have c10b0:(a0==95)=false:=beq_eq_false_iff_ne.mpr c10
       have c10b1:(a0 != 95)=true:=bne_iff_ne.mpr c10
       exact impl_isFree.e0

end Go.Proofs.YtfhllanhldbkkaaGreatDoor.P
