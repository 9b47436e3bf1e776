import Derived.Lib.ItoaLen
import Derived.Test.YtfhllanhldbkkaaGreatDoorPximpl02g
namespace Go.Proofs.YtfhllanhldbkkaaGreatDoor.P
set_option maxHeartbeats 8000000
set_option maxRecDepth 100000
open Go.RowKit Go.Proofs.YtfhllanhldbkkaaGreatDoorW.bf Go.Proofs.YtfhllanhldbkkaaGreatDoorW.iK Go.Proofs.YtfhllanhldbkkaaGreatDoorW.kG
attribute [local go_sem] rE rF uF uG pE pF rG rH   -- for this text's walks alone
set_option linter.unusedVariables false
set_option linter.unusedSimpArgs false

-- IMPORT Shelf Derived.Lib.AppendStr Derived.Lib.ItoaNum Derived.Lib.ItoaLen Derived.Shelf.Strings.Builder1
def BU (w:World) (b:Nat) (t:ByteArray):Prop:=Lib.IsBuilder 102 5 b b (Lib.strCells t) w
theorem UE (s t:ByteArray):Lib.strCells (s++t)=Lib.strCells s++Lib.strCells t:=by
 unfold Lib.strCells
 rw[<- List.map_append]
 congr 1
theorem aoh {w:World} {b:Nat} {t:ByteArray} (h:BU w b t):b<w.heap.size:=by
 rcases h with⟨_,v,h2,_⟩|⟨_,v,h2,_⟩ <;> exact vG h2
theorem IL {w w':World} {b:Nat} {t:ByteArray} (h:aa (BU w b t)) (hb:Below w.heap.size w w'):aa (BU w' b t):=by
 have key:∀ p,Lib.BuilderAt 102 5 b b p (Lib.strCells t) w->Lib.BuilderAt 102 5 b b p (Lib.strCells t) w':=by
  rintro p ⟨h1,v,h2,h3,h4⟩
  refine⟨h1,v,(hb.block b (vG h2)).trans h2,⟨h3.1,?_⟩,h4⟩
  rcases h3.2 with h5|⟨g,cap,cur,e1,e2,e3,e4⟩
  ·exact .inl h5
  ·exact .inr ⟨g,cap,cur,e1,e2,(hb.block g (vG e3)).trans e3,e4⟩
 exact⟨h.out.elim (fun x=>.inl (key _ x)) (fun x=>.inr (key _ x))⟩
theorem aqf {w:World} {b:Nat} (h:w.heap[b]? = some (.cells #[.pointer none,.slice none 0 0] 102 (0,0))):aa (BU w b ⟨#[]⟩):=
 ⟨.inl ⟨Nat.le_refl _,.slice none 0 0,h,⟨rfl,.inl ⟨rfl,rfl⟩⟩,by simp[Value.ownBlock]⟩⟩
theorem IM {w:World} {b:Nat} {t:ByteArray} (s:ByteArray) (h:aa (BU w b t)) (hl:t.size+s.size<=140737488355328) :
  Calls Tryz.prog 110 #[.pointer (some ⟨b,0,none⟩),.string s] w fun e w'=>e = .returned (.tuple #[.int .i64 s.size,.nilIface])/\aa (BU w' b (t++s))/\Below b w w':=by
 refine(Any.Builder_WriteString ({ Tryz.M4 with }:Lays.n166 Tryz.prog Tryz.Ar) Tryz.su b b (Lib.strCells t) s w h.out (by rw[Lib.strCells_length];exact hl) (Nat.le_of_lt (aoh h.out))).mono ?_
 rintro e w' ⟨rfl,h1,h2⟩
 exact⟨rfl,⟨.inr (by rw[UE];exact h1)⟩,h2⟩
theorem ad6 {w:World} {b:Nat} {t:ByteArray} (h:aa (BU w b t)) :
  Calls Tryz.prog 113 #[.pointer (some ⟨b,0,none⟩)] w fun e w'=>e = .returned (.string t)/\Below b w w':=by
 refine(Any.Builder_String_any ({ Tryz.M4 with }:Lays.n169 Tryz.prog Tryz.Ar) Tryz.su b b t.data.toList w h.out (Nat.le_of_lt (aoh h.out))).mono ?_
 rintro e w' ⟨rfl,h2⟩
 exact⟨rfl,h2⟩
theorem gK (s t:ByteArray):(s++t).size=s.size+t.size:=ByteArray.size_append
def DR (f:lq):ByteArray:=(((f.f0++(⟨#[58,32]⟩:af))++f.f1)++(⟨#[13,10]⟩:af))
def yc (t:ByteArray) (l:List lq):ByteArray:=l.foldl (fun t f=>t++DR f) t
def firstT (m0 m1:ByteArray) (m2:Int) (m3:ByteArray):ByteArray:=
 if m0.toList=([]:aQ) then(((((⟨#[72,84,84,80,47,49,46,49,32]⟩:af)++jg m2)++(⟨#[32]⟩:af))++m3)++(⟨#[13,10]⟩:af))
 else((((m0++(⟨#[32]⟩:af))++m1)++(⟨#[32,72,84,84,80,47,49,46,49]⟩:af))++(⟨#[13,10]⟩:af))
def TL (m6:ByteArray):ByteArray:=(((⟨#[67,111,110,116,101,110,116,45,76,101,110,103,116,104,58,32]⟩:af)++jg (m6.size:Int))++(⟨#[13,10]⟩:af))
def ry (m0:ByteArray) (m4:Bool) (m6:ByteArray):Bool:=if m0.toList=([]:aQ) then !m4 else m6.toList != ([]:aQ)
def C9 (m0 m1:ByteArray) (m2:Int) (m3:ByteArray) (m4:Bool) (l:List lq) (m6:ByteArray):ByteArray:=
 let t:=yc ((⟨#[]⟩:af)++firstT m0 m1 m2 m3) l
 (if ry m0 m4 m6=true then t++TL m6 else t)++(⟨#[13,10]⟩:af)
def IP (m0 m1:ByteArray) (m2:Int) (m3:ByteArray) (l:List lq) (m6:ByteArray):Prop:=
 m0.size<=100000/\m1.size<=100000/\(0<=m2/\m2<=999999999999999)/\m3.size<=100000/\m6.size<=100000/\l.length<=1000/\∀ f∈l,f.f0.size<=100000/\f.f1.size<=100000
instance headFits_dec (m0 m1:ByteArray) (m2:Int) (m3:ByteArray) (l:List lq) (m6:ByteArray):Decidable (IP m0 m1 m2 m3 l m6):=by unfold IP;exact inferInstance
def gL.f (m0 m1:ByteArray) (m2:Int) (m3:ByteArray) (m4:Bool) (l:List lq) (m6:ByteArray):Option (ByteArray):=
 if IP m0 m1 m2 m3 l m6 then some (C9 m0 m1 m2 m3 m4 l m6) else none
theorem zm (n:Int) (h0:0<=n) (h1:n<=999999999999999):(jg n).size<=21:=by
 have:=Lib.itoa_length_le n ae ae
 unfold jg
 simpa [ByteArray.size] using this
theorem Lb (m0 m1:ByteArray) (m2:Int) (m3:ByteArray) (h0:m0.size<=100000) (h1:m1.size<=100000) (h2:0<=m2/\m2<=999999999999999) (h3:m3.size<=100000):(firstT m0 m1 m2 m3).size<=300000:=by
 have hi:=zm m2 h2.1 h2.2
 unfold firstT
 split
 ·simp only[gK]
  show 9+(jg m2).size+1+m3.size+2<=300000
  omega
 ·simp only[gK]
  show m0.size+1+m1.size+9+2<=300000
  omega
theorem Ou (f:lq) (h0:f.f0.size<=100000) (h1:f.f1.size<=100000):(DR f).size<=300000:=by
 unfold DR
 simp only[gK]
 show f.f0.size+2+f.f1.size+2<=300000
 omega
theorem D9 : ∀(l:List lq) (t:ByteArray),(∀ f∈l,f.f0.size<=100000/\f.f1.size<=100000)->(yc t l).size<=t.size+300000*l.length
 |[],t,_=>Nat.le_refl _
 |f::l,t,h=>by
  have h1:=D9 l (t++DR f) (fun g hg=>h g (List.mem_cons_of_mem _ hg))
  have h2:=Ou f (h f (List.mem_cons_self ..)).1 (h f (List.mem_cons_self ..)).2
  rw[gK] at h1
  show(yc (t++DR f) l).size<=t.size+300000*(l.length+1)
  omega
theorem Wi (l:List lq) (t:ByteArray) (n:Nat) (h:n<l.length):yc t (l.take (n+1))=yc t (l.take n)++DR (aV l (n:Int)):=by
 have e:aV l (n:Int)=l[n]:=by
  unfold aV
  rw[Int.toNat_natCast,List.getD_eq_getElem?_getD,List.getElem?_eq_getElem h]
  rfl
 unfold yc
 rw[List.take_succ_eq_append_getElem h,List.foldl_append,e]
 rfl
theorem M5 {w w':World} {g b:Nat} {o:Obj} (h:aa (w.heap[g]? = some o)) (hl:aa (g<b)) (hb:Below b w w'):aa (w'.heap[g]? = some o):=⟨(hb.block g hl.out).trans h.out⟩
theorem IQ {w w':World} {b:Nat} {W:World} (h:aa (Below W.heap.size W w)) (hg:aa (W.heap.size<=b)) (hb:Below b w w'):aa (Below W.heap.size W w'):=⟨h.out.trans (hb.mono hg.out)⟩
def aoi : Bool×List (List Nat×List Nat):=(true,[([],[]),([0],[0]),([1],[1]),([2],[2]),([3],[3]),([],[]),([5],[5]),([4,6],[4,6]),([7],[7]),([8,2],[8])])
def atK : List Nat:=[0,1,3,7,15,0,32,127,255,511]
theorem aka : nL .any (opsOf Tryz.f73 4)=aoi:=by kernel_rfl
theorem agA : jf aoi.2 atK=true:=by kernel_rfl
theorem gL.e0 {p:Prop} (h:p:=by
  go_wp2_with(first|((with_reducible refine cZ 111 rfl ?_);refine nU (some 61) rfl rfl Tryz.func111 dK rfl #[.int .i64 (bF.size:Int)] rfl JX ?_;refine(fT.calls (bF.size:Int) (jg (bF.size:Int)) _ hA9.out (dV HT)).mono ?_;rintro e Af ⟨rfl,hb⟩;refine⟨_,rfl,?_⟩;replace BKm:=eF (g:=gm) hb;replace ME:=IL ME hb;replace HB:=fw hb;clear hb;have _:=mI BKm)|((with_reducible refine cZ 110 rfl ?_);refine nU (some 64) rfl rfl Tryz.func110 dK rfl #[.pointer (some ⟨gb,0,none⟩),.string (((⟨#[67,111,110,116,101,110,116,45,76,101,110,103,116,104,58,32]⟩:af)++jg (bF.size:Int))++(⟨#[13,10]⟩:af))] rfl JX ?_;refine(IM (((⟨#[67,111,110,116,101,110,116,45,76,101,110,103,116,104,58,32]⟩:af)++jg (bF.size:Int))++(⟨#[13,10]⟩:af)) ME hql.out).mono ?_;rintro e Cu ⟨rfl,hu,hb⟩;refine⟨_,rfl,?_⟩;replace BKm:=M5 BKm LM hb;replace HB:=IQ HB GEb hb;replace ME:=hu;clear hu hb)|((with_reducible refine cZ 113 rfl ?_);refine nU (some 65) rfl rfl Tryz.func113 dK rfl #[.pointer (some ⟨gb,0,none⟩)] rfl JX ?_;refine(ad6 ME).mono ?_;rintro e uo ⟨rfl,hb⟩;refine⟨_,rfl,?_⟩;replace HB:=IQ HB GEb hb;clear hb)|fail)
  go_ret
  exact⟨by rw[hh.out];rfl,HB.out⟩):p:=h
theorem gL.calls (ak au:ByteArray) (az:Int) (aJ:ByteArray) (aD:Bool) (o8:Option Addr) (o9:Nat) (bZ:List lq) (bF r:ByteArray) (w:World) (qY:Kd.C wQ w o8 bZ.length bZ) (qZ:bZ.length<=o9) (h:gL.f ak au az aJ aD bZ bF=some r) (HT0:mX w) :
  Calls Tryz.prog 73 #[.agg #[.string ak,.string au,.int .i64 az,.string aJ,.bool aD,.slice o8 bZ.length o9,.string bF]] w fun e w'=>e = .returned (.string r)/\Below w.heap.size w w':=by
 have huM:=Tryz.underlying31;have huF:=Tryz.underlying72;have wR:=aa.mk qY;have xw:=aa.mk qZ;have HT:=aa.mk HT0;clear qY qZ HT0;unfold gL.f at h;by_cases hF:IP ak au az aJ bZ bF
 case neg=>rw[if_neg hF] at h;cases h
 rw[if_pos hF] at h;obtain rfl:=aI h;clear h;have HF:=aa.mk hF;clear hF;have HB:=aa.mk (Below.refl w.heap.size w);go_enter Tryz.func73,Tryz.ntmps73;go_upto_if 8 with(first|((with_reducible refine lT 1 rfl ?_);refine jL #[.string ak,.string au,.int .i64 az,.string aJ,.bool aD,.slice o8 bZ.length o9,.string bF] 31 ?_;intro gm hg w1 hbox hb;have BKm:=aa.mk hbox;have GEm:=lJ hg;replace HB:=fw hb;clear hb hbox hg;have _:=mI BKm)|((with_reducible refine lT 3 rfl ?_);refine jL #[.pointer none,.slice none 0 0] 102 ?_;intro gb hg w2 hbox hb;have GEb:=lJ hg;have LTm:=CZ (g:=gm) hg;have ME:=aqf hbox;have LM:=aa.mk (by rw[hg];exact(vG BKm.out):gm<gb);replace BKm:=eF (g:=gm) hb;replace HB:=fw hb;clear hb hbox hg;have _:=mI BKm));(try simp only[Act.put,List.setIfInBounds_toArray,List.set_cons_zero,List.set_cons_succ])
 go_cut [1] (fun v1 wc=>v1 = .pointer (some ⟨gm,0,none⟩)/\aa (wc.heap[gm]? = some (.cells #[.string ak,.string au,.int .i64 az,.string aJ,.bool aD,.slice o8 bZ.length o9,.string bF] 31 (0,0)))/\aa (BU wc gb ((⟨#[]⟩:af)++firstT ak au az aJ))/\aa (Below w.heap.size w wc))
 case first=>
  by_cases e0:ak.toList=([]:aQ)
  ·have hfirst:firstT ak au az aJ=(((((⟨#[72,84,84,80,47,49,46,49,32]⟩:af)++jg az)++(⟨#[32]⟩:af))++aJ)++(⟨#[13,10]⟩:af)):=if_pos e0;have hne:ak.toList.isEmpty=true:=List.isEmpty_iff.mpr e0;have HFI:=aa.mk hfirst;clear hfirst e0;have hi:=zm az HF.out.2.2.1.1 HF.out.2.2.1.2;have y3:=HF.out.2.2.2.1;have q1:(9223372036854775807<9+(jg az).size)=False:=eq_false ae;have q2:(9223372036854775807<9+(jg az).size+1)=False:=eq_false ae;have q3:(9223372036854775807<9+(jg az).size+1+aJ.size)=False:=eq_false ae;have q4:(9223372036854775807<9+(jg az).size+1+aJ.size+2)=False:=eq_false ae;have ql:(⟨#[]⟩:af).size+(((((⟨#[72,84,84,80,47,49,46,49,32]⟩:af)++jg az)++(⟨#[32]⟩:af))++aJ)++(⟨#[13,10]⟩:af)).size<=140737488355328:=by
    simp only[gK];show 0+(9+(jg az).size+1+aJ.size+2)<=140737488355328
    omega
   have A9:fT.f az=some (jg az):=if_pos ⟨by have:=HF.out.2.2.1;omega,by have:=HF.out.2.2.1;omega⟩;have hA9:=aa.mk A9;have hql:=aa.mk ql;clear hi y3 A9 ql;(first|rw[hne]|skip)
   go_wp2;replace BKm:=aa.mk (eu BKm.out);replace HB:=aa.mk (bE HB.out);replace ME:=IL ME (bE (Below.refl _ _));refine jP (n:=10) (S:=fun w'=>w'.cell? ⟨gm,2,none⟩=some (.int .i64 az)/\w'.cell? ⟨gm,3,none⟩=some (.string aJ)) (ds:=[]) ⟨(ah BKm.out 2).trans rfl,(ah BKm.out 3).trans rfl⟩ (fun hHeld=>?_);refine dw aka agA (fun HT_ HW_=>?_);generalize w2.drew=gG at BKm HB ME hHeld ⊢;repeat(first|refine lC ?_ (hy:=Or.inl ⟨by rfl,Ze⟩)|refine dA ?_)
   refine bq 5 (some 23) ?_;refine fB 6 (some 24) (hy:=Or.inl ⟨by rfl,Ze⟩) ?_;refine fG (fun K hK=>?_);refine jZ Tryz.func111 dK rfl #[.int .i64 az] (by rfl) rfl rfl JX ?_;refine(fT.calls az (jg az) _ hA9.out (dV HT)).mono ?_;rintro e jH ⟨rfl,hb⟩;refine⟨_,rfl,?_⟩;replace BKm:=eF (g:=gm) hb;replace HB:=fw hb;replace ME:=IL ME hb;(try clear hb)
   refine hK.out _ _ ⟨(ah BKm.out 2).trans rfl,(ah BKm.out 3).trans rfl⟩ (fun hHeld=>?_);clear hK K;refine bY ?_;repeat(first|refine dA ?_)
   refine fG (fun K hK=>?_);refine jZ Tryz.func110 dK rfl #[.pointer (some ⟨gb,0,none⟩),.string (((((⟨#[72,84,84,80,47,49,46,49,32]⟩:af)++jg az)++(⟨#[32]⟩:af))++aJ)++(⟨#[13,10]⟩:af))] (by rfl) rfl rfl JX ?_;refine(IM (((((⟨#[72,84,84,80,47,49,46,49,32]⟩:af)++jg az)++(⟨#[32]⟩:af))++aJ)++(⟨#[13,10]⟩:af)) ME hql.out).mono ?_;rintro e mP ⟨rfl,hu,hb⟩;refine⟨_,rfl,?_⟩;replace BKm:=M5 BKm LM hb;replace HB:=IQ HB GEb hb;replace ME:=hu;clear hu hb;refine hK.out _ _ ⟨(ah BKm.out 2).trans rfl,(ah BKm.out 3).trans rfl⟩ (fun hHeld=>?_);clear hK K;refine bY ?_;refine kI (fP HT_.out dK) ?_;try go_wp2
   go_meet
   case rel=>exact⟨rfl,BKm,⟨by rw[HFI.out];exact ME.out⟩,HB⟩
  ·have hfirst:firstT ak au az aJ=((((ak++(⟨#[32]⟩:af))++au)++(⟨#[32,72,84,84,80,47,49,46,49]⟩:af))++(⟨#[13,10]⟩:af)):=if_neg e0;have hne:ak.toList.isEmpty=false:=Bool.eq_false_iff.mpr (fun h_=>e0 (List.isEmpty_iff.mp h_));have HFI:=aa.mk hfirst;clear hfirst e0;have y0:=HF.out.1;have y1:=HF.out.2.1;have q1:(9223372036854775807<ak.size+1)=False:=eq_false ae;have q2:(9223372036854775807<ak.size+1+au.size)=False:=eq_false ae;have q3:(9223372036854775807<ak.size+1+au.size+9)=False:=eq_false ae;have q4:(9223372036854775807<ak.size+1+au.size+9+2)=False:=eq_false ae;have ql:(⟨#[]⟩:af).size+((((ak++(⟨#[32]⟩:af))++au)++(⟨#[32,72,84,84,80,47,49,46,49]⟩:af))++(⟨#[13,10]⟩:af)).size<=140737488355328:=by
    simp only[gK];show 0+(ak.size+1+au.size+9+2)<=140737488355328
    omega
   have hql:=aa.mk ql;clear y0 y1 ql;(first|rw[hne]|skip)
   go_wp2_with(((with_reducible refine cZ 110 rfl ?_);refine nU (some 17) rfl rfl Tryz.func110 dK rfl #[.pointer (some ⟨gb,0,none⟩),.string ((((ak++(⟨#[32]⟩:af))++au)++(⟨#[32,72,84,84,80,47,49,46,49]⟩:af))++(⟨#[13,10]⟩:af))] rfl JX ?_;refine(IM ((((ak++(⟨#[32]⟩:af))++au)++(⟨#[32,72,84,84,80,47,49,46,49]⟩:af))++(⟨#[13,10]⟩:af)) ME hql.out).mono ?_;rintro e wS ⟨rfl,hu,hb⟩;refine⟨_,rfl,?_⟩;replace BKm:=M5 BKm LM hb;replace HB:=IQ HB GEb hb;replace ME:=hu;clear hb;have _:=mI BKm));go_meet
   case rel=>exact⟨rfl,BKm,⟨by rw[HFI.out];exact ME.out⟩,HB⟩
 case rest=>
  clear BKm HB ME;obtain⟨rfl,BKm,ME,HB⟩:=hcut;have hb0:yc ((⟨#[]⟩:af)++firstT ak au az aJ) (bZ.take 0)=(⟨#[]⟩:af)++firstT ak au az aJ:=by rw[List.take_zero];rfl
  rw[<- hb0] at ME;clear hb0;have _:=mI BKm;go_wp2;go_loopg [31] bZ.length (fun kq v31 w'=>∃ n:Nat,v31 = .int .i64 (n:Int)/\aa (n+kq=bZ.length)/\aa (w'.heap[gm]? = some (.cells #[.string ak,.string au,.int .i64 az,.string aJ,.bool aD,.slice o8 bZ.length o9,.string bF] 31 (0,0)))/\aa (BU w' gb (yc ((⟨#[]⟩:af)++firstT ak au az aJ) (bZ.take n)))/\aa (Below w.heap.size w w'))
  case atStart=>exact⟨0,rfl,⟨by omega⟩,BKm,ME,HB⟩
  case round=>
   clear BKm ME HB;obtain⟨n,rfl,HN,BKm,ME,HB⟩:=hrel;have _:=mI BKm;cases gk with
   |zero=>
    have hlt:decide ((n:Int)<(bZ.length:Int))=false:=bQ (by have:=HN.out;omega);have hltN:decide (n<bZ.length)=false:=bQ (by have:=HN.out;omega);have hn:bZ.take n=bZ:=List.take_of_length_le (by have:=HN.out;omega);rw[hn] at ME;have lz:=D9 bZ ((⟨#[]⟩:af)++firstT ak au az aJ) HF.out.2.2.2.2.2.2;have fz:=Lb ak au az aJ HF.out.1 HF.out.2.1 HF.out.2.2.1 HF.out.2.2.2.1;have n1:=HF.out.2.2.2.2.2.1;have y6:=HF.out.2.2.2.2.1;rw[gK] at lz;obtain⟨tt,aqg⟩:∃ tt,yc ((⟨#[]⟩:af)++firstT ak au az aJ) bZ=tt:=⟨_,rfl⟩;rw[aqg] at ME lz;have htt:=aa.mk aqg;have hzt:aa (tt.size<=400000000):=⟨by have e0:(⟨#[]⟩:af).size=0:=rfl;omega⟩;have hi:aa ((jg (bF.size:Int)).size<=21):=⟨zm _ ae ae⟩;have hA9:aa (fT.f (bF.size:Int)=some (jg (bF.size:Int))):=⟨if_pos ⟨by omega,by omega⟩⟩
    have hql:aa (tt.size+(((⟨#[67,111,110,116,101,110,116,45,76,101,110,103,116,104,58,32]⟩:af)++jg (bF.size:Int))++(⟨#[13,10]⟩:af)).size<=140737488355328):=⟨by
     simp only[gK];show tt.size+(16+(jg (bF.size:Int)).size+2)<=140737488355328
     have:=hzt.out;have:=hi.out
     omega⟩
    have q1:(9223372036854775807<16+(jg (bF.size:Int)).size)=False:=eq_false (by have:=hi.out;omega);have q2:(9223372036854775807<16+(jg (bF.size:Int)).size+2)=False:=eq_false (by have:=hi.out;omega);clear hn lz fz n1 y6 aqg;by_cases e0:ak.toList=([]:aQ)
    ·have hne:ak.toList.isEmpty=true:=List.isEmpty_iff.mpr e0;have E0:=aa.mk e0;clear e0;cases aD with
     |true=>
      have hh:aa (C9 ak au az aJ true bZ bF=tt++(⟨#[13,10]⟩:af)):=⟨by unfold C9;rw[htt.out];simp only;rw[if_neg (show ¬ ry _ _ _=true from(by unfold ry;rw[if_pos E0.out];decide))]⟩;have q5:(9223372036854775807<tt.size+2)=False:=eq_false (by have:=hzt.out;omega);exact gL.e0
     |false=>
      have hh:aa (C9 ak au az aJ false bZ bF=(tt++(((⟨#[67,111,110,116,101,110,116,45,76,101,110,103,116,104,58,32]⟩:af)++jg (bF.size:Int))++(⟨#[13,10]⟩:af)))++(⟨#[13,10]⟩:af)):=⟨by unfold C9;rw[htt.out];simp only;rw[if_pos (show ry _ _ _=true from(by unfold ry;rw[if_pos E0.out];rfl))];rfl⟩;have q5:(9223372036854775807<tt.size+(16+(jg (bF.size:Int)).size+2)+2)=False:=eq_false (by have:=hzt.out;have:=hi.out;omega);exact gL.e0
    ·have hne:ak.toList.isEmpty=false:=Bool.eq_false_iff.mpr (fun h_=>e0 (List.isEmpty_iff.mp h_));have E0:=aa.mk e0;clear e0;by_cases e6:bF.toList=([]:aQ)
     ·have hn6:bF.toList.isEmpty=true:=List.isEmpty_iff.mpr e6;have E6:=aa.mk e6;clear e6;have hh:aa (C9 ak au az aJ aD bZ bF=tt++(⟨#[13,10]⟩:af)):=⟨by unfold C9;rw[htt.out];simp only;rw[if_neg (show ¬ ry _ _ _=true from(by unfold ry;rw[if_neg E0.out,E6.out];decide))]⟩;have q5:(9223372036854775807<tt.size+2)=False:=eq_false (by have:=hzt.out;omega);exact gL.e0
     ·have hn6:bF.toList.isEmpty=false:=Bool.eq_false_iff.mpr (fun h_=>e6 (List.isEmpty_iff.mp h_));have E6:=aa.mk e6;clear e6;have hh:aa (C9 ak au az aJ aD bZ bF=(tt++(((⟨#[67,111,110,116,101,110,116,45,76,101,110,103,116,104,58,32]⟩:af)++jg (bF.size:Int))++(⟨#[13,10]⟩:af)))++(⟨#[13,10]⟩:af)):=⟨by unfold C9;rw[htt.out];simp only;rw[if_pos (show ry _ _ _=true from(by unfold ry;rw[if_neg E0.out];exact bne_iff_ne.mpr E6.out))];rfl⟩;have q5:(9223372036854775807<tt.size+(16+(jg (bF.size:Int)).size+2)+2)=False:=eq_false (by have:=hzt.out;have:=hi.out;omega);exact gL.e0
   |succ k1=>
    have hn:n<bZ.length:=by have:=HN.out;omega
    have hlt:decide ((n:Int)<(bZ.length:Int))=true:=bK ae;have ll:=Wi bZ ((⟨#[]⟩:af)++firstT ak au az aJ) n hn;have lz:=D9 (bZ.take n) ((⟨#[]⟩:af)++firstT ak au az aJ) (fun f hf=>HF.out.2.2.2.2.2.2 f (List.mem_of_mem_take hf));have fz:=Lb ak au az aJ HF.out.1 HF.out.2.1 HF.out.2.2.1 HF.out.2.2.2.1;have mem:aV bZ (n:Int)∈bZ:=by
     have e:aV bZ (n:Int)=bZ[n]:=by
      unfold aV;rw[Int.toNat_natCast,List.getD_eq_getElem?_getD,List.getElem?_eq_getElem hn];rfl
     rw[e];exact List.getElem_mem hn
    have gz:=HF.out.2.2.2.2.2.2 _ mem;have gl:=Ou _ gz.1 gz.2;have n1:=HF.out.2.2.2.2.2.1;rw[gK,List.length_take] at lz
    have hql:aa ((yc ((⟨#[]⟩:af)++firstT ak au az aJ) (bZ.take n)).size+(((((aV bZ (n:Int)).f0++(⟨#[58,32]⟩:af))++(aV bZ (n:Int)).f1))++(⟨#[13,10]⟩:af)).size<=140737488355328):=⟨by
     show _+(DR (aV bZ (n:Int))).size<=_
     have e0:(⟨#[]⟩:af).size=0:=rfl
     omega⟩
    have q1:(9223372036854775807<(aV bZ (n:Int)).f0.size+2+(aV bZ (n:Int)).f1.size+2)=False:=eq_false ae;have q2:(9223372036854775807<((((aV bZ (n:Int)).f0++(⟨#[58,32]⟩:af))++(aV bZ (n:Int)).f1)).size+2)=False:=eq_false (by simp only[gK];show ¬ (9223372036854775807<(aV bZ (n:Int)).f0.size+2+(aV bZ (n:Int)).f1.size+2);omega)
    have A6:aa (qR.f (aV bZ (n:Int)).f0 (aV bZ (n:Int)).f1=some ((((aV bZ (n:Int)).f0++(⟨#[58,32]⟩:af))++(aV bZ (n:Int)).f1))):=⟨by
     unfold qR.f
     rw[if_pos ae,if_pos (by rw[gK];show(aV bZ (n:Int)).f0.size+2+(aV bZ (n:Int)).f1.size<=_;omega)]⟩
    have LL:=aa.mk ll;have hw:aa (wrap64 ((n:Int)+1)=((n+1:Nat):Int)):=⟨by have:=HN.out;unfold wrap64;omega⟩;clear ll lz fz mem gz gl n1;have aqh:0<=(n:Int):=by omega
    have aqi:(n:Int)<(bZ.length:Int):=by omega
    obtain⟨aCy,ayB,M6,M7⟩:=sK wR.out (n:Int) aqh aqi;cases ayB
    replace M6:=(HB.out.cell (World.block_lt_of_cell? w _ M6)).trans M6;replace M7:=(HB.out.cell (World.block_lt_of_cell? w _ M7)).trans M7;simp only[Int.toNat_natCast] at M6 M7;replace aqh:=eq_true aqh;replace aqi:=eq_true aqi;clear hn;go_wp2_with(first|((with_reducible refine lT 5 rfl ?_);refine jL #[.string (⟨#[]⟩:af),.string (⟨#[]⟩:af)] 72 ?_;intro gf hg Kb hbox hb;have BKf:=aa.mk (hbox);have LTf:=CZ (g:=gm) hg;replace BKm:=eF (g:=gm) hb;have HBf:=aa.mk hb;have GEr:=aa.mk (Nat.le_of_eq hg.symm);have GEf:=lJ hg;replace HB:=fw hb;clear hb hbox hg;have _:=xc BKf;have _:=Cf BKf)|((with_reducible refine cZ 112 rfl ?_);refine nU (some 36) rfl rfl Tryz.func112 dK rfl #[.agg #[.string (aV bZ (n:Int)).f0,.string (aV bZ (n:Int)).f1]] rfl JX ?_;(with_reducible refine(qR.calls (aV bZ (n:Int)).f0 (aV bZ (n:Int)).f1 (((aV bZ (n:Int)).f0++(⟨#[58,32]⟩:af))++(aV bZ (n:Int)).f1) _ A6.out).mono ?_);rintro e ZF ⟨rfl,hb⟩;refine⟨_,rfl,?_⟩;replace BKm:=eF (g:=gm) hb;replace HBf:=aa.mk (wZ (by repeat(first|exact HBf.out|refine mQ ?_ GEr.out)) hb);replace HB:=fw hb;clear hb)|((with_reducible refine cZ 110 rfl ?_);refine nU (some 38) rfl rfl Tryz.func110 dK rfl #[.pointer (some ⟨gb,0,none⟩),.string ((((aV bZ (n:Int)).f0++(⟨#[58,32]⟩:af))++(aV bZ (n:Int)).f1)++(⟨#[13,10]⟩:af))] rfl JX ?_;refine(IM ((((aV bZ (n:Int)).f0++(⟨#[58,32]⟩:af))++(aV bZ (n:Int)).f1)++(⟨#[13,10]⟩:af)) (IL ME HBf.out) hql.out).mono ?_;rintro e VR ⟨rfl,hu,hb⟩;refine⟨_,rfl,?_⟩;replace BKm:=M5 BKm LM hb;replace HB:=IQ HB GEb hb;have BU1:=hu;clear hu hb));go_roundg k1
    case measure=>omega
    case rel=>exact⟨n+1,by first|rfl|(rw[hw.out]),⟨by have:=HN.out;omega⟩,BKm,⟨by rw[LL.out];exact BU1.out⟩,HB⟩

def ma.f (k:Nat) (a0:ByteArray):Option (Bool):=(lU.f k a0).bind fun ayC=>(if ayC=true then(some (decide ((a0.size:Int)<=20))) else(some false))
theorem ma.e0 {p:Prop} (h:p:=by
  obtain rfl:=aI H.out
  go_enter Tryz.func68,Tryz.ntmps68
  go_wp2_with(first|((with_reducible refine cZ 106 rfl ?_);refine mM 4 rfl Tryz.func106 (lU.calls k a0 false _ A2.out) fun nd=>?_)|((with_reducible refine cZ 106 rfl ?_);refine mM 4 rfl Tryz.func106 (lU.calls k a0 true _ A2.out) fun nd=>?_))
  go_ret
  exact⟨bR,iL⟩):p:=h
theorem ma.calls (k:Nat) (a0:ByteArray) (r:Bool) (w:World) (h:ma.f k a0=some r) :
  Calls Tryz.prog 68 #[.string a0] w fun e w'=>e = .returned (.bool r)/\bH w w':=by
 have H:=aa.mk h;clear h;unfold ma.f at H;rcases lu H with⟨A2,H⟩|⟨A2,H⟩
 ·exact ma.e0
 ·exact ma.e0


def mf.f (k:Nat) (a0:ByteArray):Option (Bool):=(bG.f (a0.size:Int) 1 200).bind fun ayD=>(if ayD=true then((aK.f k a0).bind fun aqj=>(some aqj)) else(some false))
theorem mf.e0 {p:Prop} (h:p:=by
  obtain rfl:=aI H.out
  go_enter Tryz.func69,Tryz.ntmps69
  go_wp2_with(first|((with_reducible refine cZ 65 rfl ?_);refine mM 5 rfl Tryz.func65 (bG.calls (a0.size:Int) 1 200 false _ A2.out) fun nd=>?_)|((with_reducible refine cZ 65 rfl ?_);refine mM 5 rfl Tryz.func65 (bG.calls (a0.size:Int) 1 200 true _ A2.out) fun nd=>?_)|(go_at_call 107;(with_reducible refine(aK.calls k a0  aqj _ A4.out).mono ?_);rintro e w' ⟨rfl,⟨nd,rfl⟩⟩))
  go_ret
  exact⟨bR,iL⟩):p:=h
theorem mf.calls (k:Nat) (a0:ByteArray) (r:Bool) (w:World) (h:mf.f k a0=some r) :
  Calls Tryz.prog 69 #[.string a0] w fun e w'=>e = .returned (.bool r)/\bH w w':=by
 have H:=aa.mk h;clear h;unfold mf.f at H;rcases lu H with⟨A2,H⟩|⟨A2,H⟩
 ·obtain⟨aqj,A4,H⟩:=nP H;exact mf.e0
 ·exact mf.e0


mutual
def bN.j0 : Nat->Bool->ByteArray->ByteArray->Int->ByteArray->Bool->List (lq)->ByteArray->Option (Bool)
 |0,_,_,_,_,_,_,_,_=>none
 |k+1,x20,yV,yX,wy,yY,yZ,Au,Av=>if x20=true then(some false) else((uS.f).bind fun MF=>(bN.l0 k MF (MF.length:Int) 0 yV yX wy yY yZ Au Av))
def bN.l0 : Nat->List ByteArray->Int->Int->ByteArray->ByteArray->Int->ByteArray->Bool->List (lq)->ByteArray->Option (Bool)
 |0,_,_,_,_,_,_,_,_,_,_=>none
 |k+1,x21,x22,x23,yV,yX,wy,yY,yZ,Au,Av=>if x23<x22 then(if 0<=x23 then(if x23<(x21.length:Int) then((jM.f k Au (dh ByteArray.empty x21 x23)).bind fun ayE=>(if ayE=true then(some false) else(bN.l0 k x21 x22 (wrap64 (x23+1)) yV yX wy yY yZ Au Av))) else(none)) else(none)) else(if yV.toList=([]:aQ) then(if yX.toList=([]:aQ) then((qp.f wy).bind fun ayF=>(if ayF=true then((qw.f k yY).bind fun adz=>(if adz=true then(if yZ=true then(if Av.toList=([]:aQ) then((jh.f wy).bind fun ayG=>(if ayG=true then((gL.f yV yX wy yY yZ Au Av).bind fun aqk=>(some (decide ((aqk.size:Int)<=1500)))) else((gL.f yV yX wy yY yZ Au Av).bind fun aql=>(some (decide ((aql.size:Int)<=1500)))))) else(some false)) else((jh.f wy).bind fun ayH=>(if ayH=true then(some false) else((gL.f yV yX wy yY yZ Au Av).bind fun aqm=>(some (decide ((aqm.size:Int)<=1500))))))) else(some false))) else(some false))) else(some false)) else((ma.f k yV).bind fun ayI=>(if ayI=true then((mf.f k yX).bind fun ayJ=>(if ayJ=true then(if wy=0 then(if yY.toList=([]:aQ) then(if yZ=true then(some false) else((gL.f yV yX wy yY yZ Au Av).bind fun aqn=>(some (decide ((aqn.size:Int)<=1500))))) else(some false)) else(some false)) else(some false))) else(some false))))
end
def bN.f (k:Nat) (ak:ByteArray) (au:ByteArray) (az:Int) (aJ:ByteArray) (aD:Bool) (bZ:List (lq)) (bF:ByteArray):Option (Bool):=(eQ.f k bZ).bind fun ayK=>(if ayK=true then(if(bZ.length:Int)>=20 then(bN.j0 k true ak au az aJ aD bZ bF) else(bN.j0 k (decide ((bF.size:Int)>600)) ak au az aJ aD bZ bF)) else(bN.j0 k true ak au az aJ aD bZ bF))
theorem bN.e0 {p:Prop} (h:p:=by
  replace H:=aa.mk H
  have _:=mI qI
  have _:=nV qI
  go_wp2_with(first|((with_reducible refine cZ 38 rfl ?_);refine iW 7 rfl Tryz.func38 (eQ.calls k _ _ bZ false _ zs0 oh.out A4.out) fun jH hb HB=>?_;replace qI:=eF (g:=Dk) hb;clear hb)|((with_reducible refine cZ 38 rfl ?_);refine iW 7 rfl Tryz.func38 (eQ.calls k _ _ bZ true _ zs0 oh.out A4.out) fun gG hb HB=>?_;replace qI:=eF (g:=Dk) hb;clear hb;have _:=mI qI;have _:=nV qI))
  go_meet
  case rel=>exact⟨_,(true),bR,H,⟨tT⟩,⟨oQ⟩,⟨aX⟩⟩):p:=h
theorem bN.e1 {p:Prop} (h:p:=by
  obtain rfl:=aI H
  have _:=mI qI
  have _:=nV qI
  go_wp2_with(first|((with_reducible refine cZ 68 rfl ?_);refine mM 37 rfl Tryz.func68 (ma.calls k2 ak false _ A54.out) fun nd=>?_)|((with_reducible refine cZ 68 rfl ?_);refine mM 37 rfl Tryz.func68 (ma.calls k2 ak true _ A54.out) fun nd=>?_)|(go_at_call 69;(with_reducible refine(mf.calls k2 au false _ A56.out).mono ?_);rintro e w' ⟨rfl,⟨nd,rfl⟩⟩)|(go_at_call 69;(with_reducible refine(mf.calls k2 au true _ A56.out).mono ?_);rintro e w' ⟨rfl,⟨nd,rfl⟩⟩)|((with_reducible refine cZ 73 rfl ?_);refine iW 94 rfl Tryz.func73 (gL.calls ak au az aJ false _ _ bZ bF aqn _ zs7 oh.out A62.out (dV HT)) fun Kb hb HB=>?_;replace HY:=aa.mk (Kd.bL adt hb);replace qI:=eF (g:=Dk) hb;clear hb)|(go_at_call 70;(with_reducible refine(qp.calls az false _ ZP.out).mono ?_);rintro e w' ⟨rfl,⟨nd,rfl⟩⟩)|(go_at_call 70;(with_reducible refine(qp.calls az true _ ZP.out).mono ?_);rintro e w' ⟨rfl,⟨nd,rfl⟩⟩)|(go_at_call 71;(with_reducible refine(qw.calls k2 aJ false _ A32.out).mono ?_);rintro e w' ⟨rfl,⟨nd,rfl⟩⟩)|(go_at_call 71;(with_reducible refine(qw.calls k2 aJ true _ A32.out).mono ?_);rintro e w' ⟨rfl,⟨nd,rfl⟩⟩)|(go_at_call 72;(with_reducible refine(jh.calls az false _ A45.out).mono ?_);rintro e w' ⟨rfl,⟨nd,rfl⟩⟩)|((with_reducible refine cZ 73 rfl ?_);refine iW 94 rfl Tryz.func73 (gL.calls ak au az aJ false _ _ bZ bF aqm _ zs7 oh.out A48.out (dV HT)) fun Cu hb HB=>?_;replace HY:=aa.mk (Kd.bL adt hb);replace qI:=eF (g:=Dk) hb;clear hb)|(go_at_call 72;(with_reducible refine(jh.calls az true _ A45.out).mono ?_);rintro e w' ⟨rfl,⟨nd,rfl⟩⟩)|(go_at_call 72;(with_reducible refine(jh.calls az false _ A36.out).mono ?_);rintro e w' ⟨rfl,⟨nd,rfl⟩⟩)|((with_reducible refine cZ 73 rfl ?_);refine iW 94 rfl Tryz.func73 (gL.calls ak au az aJ true _ _ bZ bF aql _ zs7 oh.out A41.out (dV HT)) fun Af hb HB=>?_;replace HY:=aa.mk (Kd.bL adt hb);replace qI:=eF (g:=Dk) hb;clear hb)|(go_at_call 72;(with_reducible refine(jh.calls az true _ A36.out).mono ?_);rintro e w' ⟨rfl,⟨nd,rfl⟩⟩)|((with_reducible refine cZ 73 rfl ?_);refine iW 94 rfl Tryz.func73 (gL.calls ak au az aJ true _ _ bZ bF aqk _ zs7 oh.out A38.out (dV HT)) fun uo hb HB=>?_;replace HY:=aa.mk (Kd.bL adt hb);replace qI:=eF (g:=Dk) hb;clear hb))
  go_ret
  exact⟨jv,aX⟩):p:=h
theorem bN.calls (k:Nat) (ak au:ByteArray) (az:Int) (aJ:ByteArray) (aD:Bool) (o8:Option Addr) (o9:Nat) (bZ:List (lq)) (bF:ByteArray) (r:Bool) (w:World) (qY:Kd.C wQ w o8 bZ.length bZ) (qZ:bZ.length<=o9) (h:bN.f k ak au az aJ aD bZ bF=some r) (HT0:mX w) :
  Calls Tryz.prog 39 #[.agg #[.string ak,.string au,.int .i64 az,.string aJ,.bool aD,.slice o8 bZ.length o9,.string bF]] w fun e w'=>e = .returned (.bool r)/\Below w.heap.size w w':=by
 have HT:=aa.mk HT0;clear HT0;have QM:=Tryz.underlying31;have DN:=aa.mk qY;have oh:=aa.mk qZ;clear qY qZ;have HB:=aa.mk (Below.refl w.heap.size w);have H:=h;clear h;unfold bN.f at H;have qz:=aa.mk H;clear H;go_enter Tryz.func39,Tryz.ntmps39;go_upto_region 1 with(first|((with_reducible refine lT 1 rfl ?_);refine yM #[.string ak,.string au,.int .i64 az,.string aJ,.bool aD,.slice o8 bZ.length o9,.string bF] 31 ?_;intro Dk hg w3 hbox hb;have qI:=aa.mk (hbox);have aCz:=lJ hg;replace HB:=fw hb;clear hb hbox hg));(try simp only[Act.put,List.setIfInBounds_toArray,List.set_cons_zero,List.set_cons_succ])
 go_cut [20] (fun v20 wc=>∃(kq:Nat) (agB:Bool),v20 = .bool agB/\aa (bN.j0 kq agB ak au az aJ aD bZ bF=some r)/\aa (kq<=k)/\aa (wc.heap[Dk]? = some (.cells #[.string ak,.string au,.int .i64 az,.string aJ,.bool aD,(.slice o8 bZ.length o9),.string bF] 31 (0,0)))/\aa (Below w.heap.size w wc))
 case first=>
  have H:=qz.out;clear qz;replace H:=xE H;rcases H with⟨A4,H⟩|⟨A4,H⟩
  ·replace H:=gI H;rcases H with⟨c6,-,-,H⟩|⟨c6,-,-,H⟩
   ·have jy:decide (20<=(bZ.length:Int))=true:=bK c6;have pq:decide (20<=bZ.length)=true:=bK ae;clear c6;(first|rw[jy]|(simp only[dU,fK];rw[jy])|skip)
    exact bN.e0
   ·have jy:decide (20<=(bZ.length:Int))=false:=bQ c6;have pq:decide (20<=bZ.length)=false:=bQ ae;clear c6;(first|rw[jy]|(simp only[dU,fK];rw[jy])|skip)
    replace H:=aa.mk H;have _:=mI qI;have _:=nV qI;go_wp2_with(((with_reducible refine cZ 38 rfl ?_);refine iW 7 rfl Tryz.func38 (eQ.calls k _ _ bZ true _ zs0 oh.out A4.out) fun gG hb HB=>?_;replace qI:=eF (g:=Dk) hb;clear hb;have _:=mI qI;have _:=nV qI));go_meet
    case rel=>exact⟨_,(decide ((bF.size:Int)>600)),bR,H,⟨tT⟩,⟨oQ⟩,⟨aX⟩⟩
  ·exact bN.e0
 case rest=>
  clear qz;obtain⟨kq,agB,rfl,HA,tC,qI,HB⟩:=hcut;cases kq with
  |zero=>exact absurd HA.out (by simp[bN.j0])
  |succ oz=>
   have H:=HA.out;clear HA;simp only[bN.j0] at H;replace H:=gB H;rcases H with⟨rfl,H⟩|⟨rfl,H⟩
   ·obtain rfl:=aI H;go_wp2;go_ret;exact⟨jv,aX⟩
   ·replace H:=gD H;obtain⟨MF,ZN,H⟩:=H;replace H:=aa.mk H;go_wp2_with(first|((with_reducible refine cZ 67 rfl ?_);refine NL 21 rfl Tryz.func67 (uS.calls  MF _ ZN.out) ?_;rintro e w17 ⟨aFp,rfl,ho0,hb⟩;refine⟨_,rfl,?_⟩;have atL:=aa.mk (Kd.gu ho0 (aN aX));replace qI:=eF (g:=Dk) hb;replace HB:=fw hb;clear hb;(try clear ho0);obtain⟨ap3,ap4,ap5⟩:=Kd.eD atL.out;subst ap5));go_loopg [23] oz (fun kq v23 w'=>∃(yF:Int),v23 = .int .i64 yF/\aa (bN.l0 kq MF (MF.length:Int) yF ak au az aJ aD bZ bF=some r)/\aa (kq<=oz)/\aa (Kd.R Kd.string 9 w' w.heap.size (fun _=>True) (.slice ap3 MF.length ap4) MF)/\aa (w'.heap[Dk]? = some (.cells #[.string ak,.string au,.int .i64 az,.string aJ,.bool aD,(.slice o8 bZ.length o9),.string bF] 31 (0,0)))/\aa (Below w.heap.size w w'))
    case atStart=>exact⟨(0),bR,H,⟨Nat.le_refl _⟩,⟨qE⟩,⟨oQ⟩,⟨aX⟩⟩
    case round=>
     clear H;obtain⟨yF,rfl,HA,tO,HY,qI,HB⟩:=hrel;cases gk with
     |zero=>exact absurd HA.out (by simp[bN.l0])
     |succ k2=>
      have H:=HA.out;clear HA;simp only[bN.l0] at H;replace H:=gI H;rcases H with⟨-,yG,-,H⟩|⟨-,yG,-,H⟩
      ·replace H:=gN H;obtain⟨-,uu,-,H⟩:=H;replace H:=gN H;obtain⟨-,uw,-,H⟩:=H;replace H:=xE H;rcases H with⟨Wj,H⟩|⟨Wj,H⟩
       ·obtain rfl:=aI H;have ZQ:0<=(yF:Int):=ay bM;have ZR:yF<(MF.length:Int):=ay bM;obtain⟨atM,aqo,akb⟩:=Kd.eG (Kd.aH HY.out).2.2 yF ZQ ZR;cases aqo
        replace ZQ:=eq_true ZQ;replace ZR:=eq_true ZR;have _:=mI qI;have _:=nV qI;go_wp2_with(((with_reducible refine cZ 51 rfl ?_);refine iW 30 rfl Tryz.func51 (jM.calls k2 _ _ bZ (dh ByteArray.empty MF yF) true _ zs0 oh.out Wj.out) fun mP hb HB=>?_;replace HY:=aa.mk (Kd.bL adt hb);replace qI:=eF (g:=Dk) hb;clear hb));go_ret;exact⟨jv,aX⟩
       ·replace H:=aa.mk H;have ZQ:0<=(yF:Int):=ay bM;have ZR:yF<(MF.length:Int):=ay bM;obtain⟨atM,aqo,akb⟩:=Kd.eG (Kd.aH HY.out).2.2 yF ZQ ZR;cases aqo
        replace ZQ:=eq_true ZQ;replace ZR:=eq_true ZR;have _:=mI qI;have _:=nV qI;go_wp2_with(((with_reducible refine cZ 51 rfl ?_);refine iW 30 rfl Tryz.func51 (jM.calls k2 _ _ bZ (dh ByteArray.empty MF yF) false _ zs0 oh.out Wj.out) fun wS hb HB=>?_;replace HY:=aa.mk (Kd.bL adt hb);replace qI:=eF (g:=Dk) hb;clear hb));go_roundg k2
        case measure=>have:=tC.out;have:=tO.out;omega
        case rel=>exact⟨(wrap64 (yF+1)),bR,H,⟨Fj⟩,⟨qE⟩,⟨oQ⟩,⟨aX⟩⟩
      ·replace H:=gI H;rcases H with⟨c28,-,-,H⟩|⟨c28,-,-,H⟩
       ·obtain⟨Ov,Wl⟩:=kT c28;clear c28;replace H:=gI H;rcases H with⟨Sg,-,-,H⟩|⟨Sg,-,-,H⟩
        ·obtain⟨IU,IV⟩:=kT Sg;clear Sg;replace H:=xE H;rcases H with⟨ZP,H⟩|⟨ZP,H⟩
         ·replace H:=xE H;rcases H with⟨A32,H⟩|⟨A32,H⟩
          ·replace H:=gB H;rcases H with⟨rfl,H⟩|⟨rfl,H⟩
           ·replace H:=gI H;rcases H with⟨c35,-,-,H⟩|⟨c35,-,-,H⟩
            ·obtain⟨Wm,Wn⟩:=kT c35;clear c35;replace H:=xE H;rcases H with⟨A36,H⟩|⟨A36,H⟩
             ·replace H:=gD H;obtain⟨aqk,A38,H⟩:=H;exact bN.e1
             ·replace H:=gD H;obtain⟨aql,A41,H⟩:=H;exact bN.e1
            ·obtain⟨Wm,Wn⟩:=kU c35;exact bN.e1
           ·replace H:=xE H;rcases H with⟨A45,H⟩|⟨A45,H⟩
            ·exact bN.e1
            ·replace H:=gD H;obtain⟨aqm,A48,H⟩:=H;exact bN.e1
          ·exact bN.e1
         ·exact bN.e1
        ·obtain⟨IU,IV⟩:=kU Sg;obtain rfl:=aI H;have _:=mI qI;have _:=nV qI;go_wp2;go_ret;exact⟨jv,aX⟩
       ·obtain⟨Ov,Wl⟩:=kU c28;replace H:=xE H;rcases H with⟨A54,H⟩|⟨A54,H⟩
        ·replace H:=xE H;rcases H with⟨A56,H⟩|⟨A56,H⟩
         ·replace H:=gI H;rcases H with⟨c58,-,-,H⟩|⟨c58,-,-,H⟩
          ·obtain⟨aoj,aok⟩:=kT c58;clear c58;replace H:=gI H;rcases H with⟨c59,-,-,H⟩|⟨c59,-,-,H⟩
           ·obtain⟨atN,atO⟩:=kT c59;clear c59;replace H:=gB H;rcases H with⟨rfl,H⟩|⟨rfl,H⟩
            ·exact bN.e1
            ·replace H:=gD H;obtain⟨aqn,A62,H⟩:=H;exact bN.e1
           ·obtain⟨atN,atO⟩:=kU c59;exact bN.e1
          ·obtain⟨aoj,aok⟩:=kU c58;exact bN.e1
         ·exact bN.e1
        ·exact bN.e1


def qB.f (a0:ByteArray):Option (ByteArray×Int×ByteArray×ByteArray×Bool):=(strings_Cut.f a0 (⟨#[63]⟩:af)).bind fun agC=>(some ((⟨#[]⟩:af),0,agC.1,agC.2.1,agC.2.2))
theorem qB.calls (a0 r1:ByteArray) (r2:Int) (r3 r4:ByteArray) (r5:Bool) (w:World) (h:qB.f a0=some (r1,r2,r3,r4,r5)) (HT0:mX w) :
  Calls Tryz.prog 150 #[.string a0] w fun e w'=>e = .returned (.agg #[.string r1,.int .i64 r2,.string r3,.string r4,.bool r5])/\Below w.heap.size w w':=by
 have HT:=aa.mk HT0;clear HT0;have Ke:=Tryz.underlying92;have HB:=aa.mk (Below.refl w.heap.size w);have H:=aa.mk h;clear h;unfold qB.f at H;obtain⟨⟨atP,atQ,atS⟩,A2,H⟩:=nP H;dsimp only at H;simp only[Option.some.injEq,Prod.mk.injEq] at H;obtain⟨rfl,rfl,rfl,rfl,rfl⟩:=H;go_enter Tryz.func150,Tryz.ntmps150;go_wp2_with(first|((with_reducible refine lT 2 rfl ?_);refine Fp #[.string (⟨#[]⟩:af),.int .i64 0,.string (⟨#[]⟩:af),.string (⟨#[]⟩:af),.bool false] 92 ?_;clear HB;intro abz w3 Si aCA HB)|((with_reducible refine lT 3 rfl ?_);refine jL #[.string (⟨#[]⟩:af),.int .i64 0,.string (⟨#[]⟩:af),.string (⟨#[]⟩:af),.bool false] 92 ?_;intro atT hg w4 hbox hb;have Wo:=aa.mk (hbox);have aCB:=lJ hg;have Sj:=CZ (g:=abz) hg;have ad7:=DL Sj;replace Si:=eF (g:=abz) hb;replace HB:=fw hb;clear hb hbox hg)|((with_reducible refine cZ 86 rfl ?_);refine mM 6 rfl Tryz.func86 (strings_Cut.calls a0 (⟨#[63]⟩:af) atP atQ atS _ A2.out (dV HT)) fun nd=>?_;(try(rw[ko w4];generalize hq_:World.drewN w4 _=w4;have kR:aa (w4.heap[abz]? = some (.cells #[.string (⟨#[]⟩:af),.int .i64 0,.string (⟨#[]⟩:af),.string (⟨#[]⟩:af),.bool false] 92 (0,0))):=⟨by rw[<- hq_];exact(by(with_reducible repeat(first|refine kH ?_ _|refine eu ?_|refine lX ?_ _));exact Si.out)⟩;have lF:aa (w4.heap[atT]? = some (.cells #[.string (⟨#[]⟩:af),.int .i64 0,.string (⟨#[]⟩:af),.string (⟨#[]⟩:af),.bool false] 92 (0,0))):=⟨by rw[<- hq_];exact(by(with_reducible repeat(first|refine kH ?_ _|refine eu ?_|refine lX ?_ _));exact Wo.out)⟩;have uy:aa (Below w.heap.size w w4):=⟨by rw[<- hq_];exact aX⟩;clear Si Wo HB hq_;have Si:=kR;have Wo:=lF;have HB:=uy;clear kR lF uy));have ax4:=ad7.out;have ax5:=Sj.out;have _:=jK Wo;have _:=pJ Wo;have _:=jK Si;have _:=pJ Si));refine bodyPost_ret (results_cell_row rfl _ _ abz 92 #[.string (⟨#[]⟩:af),.int .i64 0,.string atP,.string atQ,.bool atS] (0,0) _ rfl gBz Tryz.underlying92 rfl dK) rfl ?_;exact⟨jv,aX⟩

def jW.f (a0:Int):Option (Bool):=(kZ.f a0).bind fun ayL=>(if ayL=true then(some true) else((lg.f a0).bind fun ayM=>(if ayM=true then(some true) else((eH.f a0).bind fun ayN=>(if ayN=true then(some true) else(if a0=45 then(some true) else(if a0=46 then(some true) else(if a0=95 then(some true) else(some (a0==126))))))))))
theorem jW.e0 {p:Prop} (h:p:=by
  obtain rfl:=aI H.out
  go_enter Tryz.func220,Tryz.ntmps220
  go_wp2_with(first|((with_reducible refine cZ 199 rfl ?_);refine mM 4 rfl Tryz.func199 (kZ.calls a0 false _ A2.out) fun nd=>?_)|(go_at_call 130;(with_reducible refine(lg.calls a0 false _ A4.out).mono ?_);rintro e w' ⟨rfl,⟨nd,rfl⟩⟩)|(go_at_call 166;(with_reducible refine(eH.calls a0 false _ A6.out).mono ?_);rintro e w' ⟨rfl,⟨nd,rfl⟩⟩)|(go_at_call 166;(with_reducible refine(eH.calls a0 true _ A6.out).mono ?_);rintro e w' ⟨rfl,⟨nd,rfl⟩⟩)|(go_at_call 130;(with_reducible refine(lg.calls a0 true _ A4.out).mono ?_);rintro e w' ⟨rfl,⟨nd,rfl⟩⟩)|((with_reducible refine cZ 199 rfl ?_);refine mM 4 rfl Tryz.func199 (kZ.calls a0 true _ A2.out) fun nd=>?_))
  go_ret
  exact⟨bR,iL⟩):p:=h
theorem jW.calls (a0:Int) (r:Bool) (w:World) (h:jW.f a0=some r) :
  Calls Tryz.prog 220 #[.int .u8 a0] w fun e w'=>e = .returned (.bool r)/\bH w w':=by
 have H:=aa.mk h;clear h;unfold jW.f at H;rcases lu H with⟨A2,H⟩|⟨A2,H⟩
 ·exact jW.e0
 ·rcases lu H with⟨A4,H⟩|⟨A4,H⟩
  ·exact jW.e0
  ·rcases lu H with⟨A6,H⟩|⟨A6,H⟩
   ·exact jW.e0
   ·rcases jw H with⟨c8,-,-,H⟩|⟨c8,-,-,H⟩
    ·obtain⟨mU,za⟩:=kT c8;clear c8;exact jW.e0
    ·obtain⟨mU,za⟩:=kU c8;rcases jw H with⟨c9,-,-,H⟩|⟨c9,-,-,H⟩
     ·obtain⟨pg,xy⟩:=kT c9;clear c9;exact jW.e0
     ·obtain⟨pg,xy⟩:=kU c9;rcases jw H with⟨c10,-,-,H⟩|⟨c10,-,-,H⟩
      ·obtain⟨pX,Aw⟩:=kT c10;clear c10;exact jW.e0
      ·obtain⟨pX,Aw⟩:=kU c10;exact jW.e0


mutual
def aG.l0 : Nat->ByteArray->List Int->Int->Option (ByteArray)
 |0,_,_,_=>none
 |k+1,x0,x3,x4=>if x4<(x0.size:Int) then(if 0<=x4 then(if(bt x0 x4)=37 then(if(wrap64 (x4+2))>=(x0.size:Int) then(aG.j1 k x0 x3 x4 true) else(if 0<=(wrap64 (x4+1)) then(if(wrap64 (x4+1))<(x0.size:Int) then((eT.f k (bt x0 (wrap64 (x4+1)))).bind fun akc=>(if akc<0 then(aG.j1 k x0 x3 x4 true) else(if 0<=(wrap64 (x4+2)) then(if(wrap64 (x4+2))<(x0.size:Int) then((eT.f k (bt x0 (wrap64 (x4+2)))).bind fun akd=>(aG.j1 k x0 x3 x4 (decide (akd<0)))) else(none)) else(none)))) else(none)) else(none))) else(aG.j1 k x0 x3 x4 true)) else(none)) else(some (strOfNums x3))
def aG.j1 : Nat->ByteArray->List Int->Int->Bool->Option (ByteArray)
 |0,_,_,_,_=>none
 |k+1,x0,x3,x4,x38=>if x38=true then(if 0<=x4 then(if x4<(x0.size:Int) then(if x3.length<140737488355328 then(aG.l0 k x0 (x3 ++ [bt x0 x4]) (wrap64 (x4+1))) else(none)) else(none)) else(none)) else(if 0<=(wrap64 (x4+1)) then(if(wrap64 (x4+1))<(x0.size:Int) then((eT.f k (bt x0 (wrap64 (x4+1)))).bind fun DI=>(if 0<=(wrap64 (x4+2)) then(if(wrap64 (x4+2))<(x0.size:Int) then((eT.f k (bt x0 (wrap64 (x4+2)))).bind fun DJ=>((jW.f ((wrap64 ((wrap64 (16*DI))+DJ))%256)).bind fun ayO=>(if ayO=true then(if x3.length<140737488355328 then(aG.l0 k x0 (x3 ++ [(wrap64 ((wrap64 (16*DI))+DJ))%256]) (wrap64 ((wrap64 (x4+2))+1))) else(none)) else(if 0<=(((wrap64 ((wrap64 (16*DI))+DJ))%256) / 16) then(if(((wrap64 ((wrap64 (16*DI))+DJ))%256) / 16)<16 then(if 0<=(Go.bits .and .u8 ((wrap64 ((wrap64 (16*DI))+DJ))%256) 15) then(if(Go.bits .and .u8 ((wrap64 ((wrap64 (16*DI))+DJ))%256) 15)<16 then((some (([37,bt (⟨#[48,49,50,51,52,53,54,55,56,57,65,66,67,68,69,70]⟩:af) (((wrap64 ((wrap64 (16*DI))+DJ))%256) / 16),bt (⟨#[48,49,50,51,52,53,54,55,56,57,65,66,67,68,69,70]⟩:af) (Go.bits .and .u8 ((wrap64 ((wrap64 (16*DI))+DJ))%256) 15)]:List Int):List Int)).bind fun Wp=>(if x3.length+Wp.length<140737488355328 then(aG.l0 k x0 (x3++Wp) (wrap64 ((wrap64 (x4+2))+1))) else(none))) else(none)) else(none)) else(none)) else(none))))) else(none)) else(none))) else(none)) else(none))
end
def aG.f (k:Nat) (a0:ByteArray):Option (ByteArray):=aG.l0 k a0 ([]:List Int) 0
def aG.T7 : Bool×List (List Nat×List Nat):=(true,[([],[]),([],[]),([1],[1]),([0,2],[0,2]),([3],[3]),([4],[4]),([],[]),([],[]),([7],[7]),([6,8],[6,8]),([9,4],[9]),([5,10],[5,10]),([11],[11]),([12,10,0,1,2,3,4,5,6,7,8,9,10,11,12],[12])])
def aG.B7 : List Nat:=[0,0,2,7,15,31,0,0,128,448,991,2047,4095,8191]
theorem aG.ad8 : nL .any (opsOf Tryz.f197 7)=aG.T7:=by kernel_rfl
theorem aG.Sk : jf aG.T7.2 aG.B7=true:=by kernel_rfl
def aG.T10 : Bool×List (List Nat×List Nat):=(true,[([],[]),([],[]),([1],[1]),([2],[2]),([],[]),([4],[4]),([5],[5]),([3,6],[3,6]),([0,7],[0,7]),([8,8,0,1,2,3,4,5,6,7,8],[0,8])])
def aG.B10 : List Nat:=[0,0,2,6,0,16,48,126,255,511]
theorem aG.atU : nL .any (opsOf Tryz.f197 10)=aG.T10:=by kernel_rfl
theorem aG.aqp : jf aG.T10.2 aG.B10=true:=by kernel_rfl
theorem aG.e0 {p:Prop} (h:p:=by
  replace H:=aa.mk H
  have p5:0<=(dH:Int):=ay bM
  have q5:dH<(a0.size:Int):=ay bM
  have hx5:=bO a0 dH
  replace p5:=eq_true p5
  replace q5:=eq_true q5
  go_wp2
  go_meet
  case rel=>exact⟨_,(true),bR,H,⟨Md⟩,⟨qE⟩,⟨aX⟩⟩):p:=h
theorem aG.calls (k:Nat) (a0 r:ByteArray) (w:World) (h:aG.f k a0=some r) :
  Calls Tryz.prog 197 #[.string a0] w fun e w'=>e = .returned (.string r)/\Below w.heap.size w w':=by
 have HB:=aa.mk (Below.refl w.heap.size w);have H:=h;clear h;unfold aG.f at H;replace H:=aa.mk H;go_enter Tryz.func197,Tryz.ntmps197;go_wp2;go_loopg [3,4] k (fun kq v3 v4 w'=>∃(dD:List Int) (dH:Int),v4 = .int .i64 dH/\aa (aG.l0 kq a0 dD dH=some r)/\aa (kq<=k)/\aa (Kd.R (Kd.int .u8) 5 w' w.heap.size (fun _=>True) v3 dD)/\aa (Below w.heap.size w w'))
 case atStart=>exact⟨(([]:List Int)),(0),bR,H,⟨Nat.le_refl _⟩,⟨Hz⟩,⟨aX⟩⟩
 case round=>
  clear H;obtain⟨dD,dH,rfl,HA,ig,iV,HB⟩:=hrel;cases gk with
  |zero=>exact absurd HA.out (by simp[aG.l0])
  |succ k1=>
   have H:=HA.out;clear HA;simp only[aG.l0] at H;replace H:=gI H;rcases H with⟨-,jc,-,H⟩|⟨-,jc,-,H⟩
   ·have ZT:=aa.mk H;clear H;go_upto_region 5 with(fail);go_cut [38] (fun v38 wc=>∃(kq:Nat) (agD:Bool),v38 = .bool agD/\aa (aG.j1 kq a0 dD dH agD=some r)/\aa (kq<=k1)/\aa (Kd.R (Kd.int .u8) 5 wc w.heap.size (fun _=>True) u3 dD)/\aa (Below w.heap.size w wc))
    case first=>
     have H:=ZT.out;clear ZT;replace H:=gN H;obtain⟨-,jr,-,H⟩:=H;(first|rw[jr]|(simp only[dU,fK];rw[jr])|skip)
     replace H:=gI H;rcases H with⟨c6,-,-,H⟩|⟨c6,-,-,H⟩
     ·obtain⟨jy,pq⟩:=kT c6;clear c6;replace H:=gI H;rcases H with⟨-,nR,-,H⟩|⟨-,nR,-,H⟩
      ·exact aG.e0
      ·obtain⟨ZU,Wq⟩:∃ j_:Int,(wrap64 (dH+1))=j_:=⟨_,rfl⟩;(first|rw[Wq] at H|simp only[Wq] at H ⊢)
       have atV:(IntKind.i64.wrap (dH+1))=ZU:=(dU _).trans Wq;replace H:=gN H;obtain⟨-,pg,-,H⟩:=H;replace H:=gN H;obtain⟨-,pX,-,H⟩:=H;replace H:=gD H;obtain⟨akc,JR,H⟩:=H;replace H:=gI H;rcases H with⟨-,qG,-,H⟩|⟨-,qG,-,H⟩
       ·replace H:=aa.mk H;have p5:0<=(dH:Int):=ay bM;have q5:dH<(a0.size:Int):=ay bM;have hx5:=bO a0 dH;replace p5:=eq_true p5;replace q5:=eq_true q5;have p11:0<=((ZU):Int):=ay bM;have q11:(ZU)<(a0.size:Int):=ay bM;have atW:=bO a0 (ZU);replace p11:=eq_true p11;replace q11:=eq_true q11;go_wp2_with((go_at_call 219;(with_reducible refine(eT.calls k1 (bt a0 (ZU)) akc _ JR.out).mono ?_);rintro e w' ⟨rfl,⟨nd,rfl⟩⟩));go_meet
        case rel=>exact⟨_,(true),bR,H,⟨Md⟩,⟨qE⟩,⟨aX⟩⟩
       ·obtain⟨agE,Ws⟩:∃ j_:Int,(wrap64 (dH+2))=j_:=⟨_,rfl⟩;(first|rw[Ws] at H|simp only[Ws] at H ⊢)
        (try rw[Ws] at nR)
        (try rw[Ws] at JR)
        have ayP:(IntKind.i64.wrap (dH+2))=agE:=(dU _).trans Ws;replace H:=gN H;obtain⟨-,sQ,-,H⟩:=H;replace H:=gN H;obtain⟨-,sS,-,H⟩:=H;replace H:=gD H;obtain⟨akd,ZV,H⟩:=H;replace H:=aa.mk H;have p5:0<=(dH:Int):=ay bM;have q5:dH<(a0.size:Int):=ay bM;have hx5:=bO a0 dH;replace p5:=eq_true p5;replace q5:=eq_true q5;have p11:0<=((ZU):Int):=ay bM;have q11:(ZU)<(a0.size:Int):=ay bM;have atW:=bO a0 (ZU);replace p11:=eq_true p11;replace q11:=eq_true q11;go_wp2_with(first|(go_at_call 219;(with_reducible refine(eT.calls k1 (bt a0 (ZU)) akc _ JR.out).mono ?_);rintro e w' ⟨rfl,⟨nd,rfl⟩⟩;have Sl:0<=((agE):Int):=ay bM;have Sm:(agE)<(a0.size:Int):=ay bM;have ad9:=bO a0 (agE);replace Sl:=eq_true Sl;replace Sm:=eq_true Sm)|(go_at_call 219;(with_reducible refine(eT.calls k1 (bt a0 (agE)) akd _ ZV.out).mono ?_);rintro e w' ⟨rfl,⟨nd,rfl⟩⟩));go_meet
        case rel=>exact⟨_,(decide (akd<0)),bR,H,⟨Md⟩,⟨qE⟩,⟨aX⟩⟩
     ·obtain⟨jy,pq⟩:=kU c6;exact aG.e0
    case rest=>
     clear ZT;try clear jc
     obtain⟨kq,agD,rfl,HA,HJ2,iV,HB⟩:=hcut;cases kq with
     |zero=>exact absurd HA.out (by simp[aG.j1])
     |succ GD=>
      have H:=HA.out;clear HA;simp only[aG.j1] at H;replace H:=gB H;rcases H with⟨rfl,H⟩|⟨rfl,H⟩
      ·replace H:=gN H;obtain⟨-,uu,-,H⟩:=H;replace H:=gN H;obtain⟨-,uw,-,H⟩:=H;replace H:=gN H;obtain⟨c23,-,-,H⟩:=H;have atX:=aa.mk c23;clear c23;obtain⟨atY,Wt⟩:∃ y_:List Int,y_=(dD ++ [bt a0 dH]):=⟨_,rfl⟩;replace H:(aG.l0 GD a0 atY (wrap64 (dH+1)))=some r:=by first|(rw[Wt];with_reducible exact H)|(have kP:=(ax _ _).symm.trans H;rw[Wt];with_reducible exact kP)|(have kP:=(ax _ _).symm.trans H;with_reducible exact kP)|with_reducible exact H|(rw[Wt];exact H)|exact H
       have atZ:=aa.mk Wt;clear Wt;replace H:=aa.mk H;have p22:0<=(dH:Int):=ay bM;have q22:dH<(a0.size:Int):=ay bM;have aFq:=bO a0 dH;replace p22:=eq_true p22;replace q22:=eq_true q22;go_wp2_with(((with_reducible refine fO (b:=.append) (xs:=#[.tmp 39,.tmp 43]) rfl ?_);(try(refine kK (by rfl) ?_;dsimp only));at_builtin;refine Kd.kJ (Kd.int .u8) (w0:=w) w.heap.size rfl (.tmp 39) (.tmp 43) 100 5 (.int .u8 0) 1 rfl Tryz.underlying100 info5 rfl aA ae u3 dD (bt a0 dH) [.int .u8 (bt a0 dH)] (fun _=>True) (fun _=>False) rfl rfl ?aP (fun _ hk=>hk.elim) ?aF ?aO ?aB ?aS ?aL ?_;(case aP=>exact rfl);(case aB=>exact aX);(case aF=>exact(fun _ _=>trivial));(case aO=>exact Ma);(case aS=>exact(aN aX));(case aL=>have:=atX.out;omega);intro aFr gG ho hb hg hat;rw[<- atZ.out] at ho;have Ea:=aa.mk (hb);have Eb:=aa.mk (ho);clear HB;clear iV;have HB:=Ea;have aCC:=Eb;clear Ea Eb;clear ho hb hg hat));go_roundg GD
       case measure=>have:=ig.out;have:=HJ2.out;omega
       case rel=>exact⟨(atY),(wrap64 (dH+1)),bR,H,⟨Zg⟩,⟨qE⟩,⟨aX⟩⟩
      ·obtain⟨Ow,Wu⟩:∃ j_:Int,(wrap64 (dH+1))=j_:=⟨_,rfl⟩;(first|rw[Wu] at H|simp only[Wu] at H ⊢)
       have ayQ:(IntKind.i64.wrap (dH+1))=Ow:=(dU _).trans Wu;replace H:=gN H;obtain⟨-,Ec,-,H⟩:=H;replace H:=gN H;obtain⟨-,IW,-,H⟩:=H;replace H:=gD H;obtain⟨DI,A29,H⟩:=H;obtain⟨Fs,Lc⟩:∃ j_:Int,(wrap64 (dH+2))=j_:=⟨_,rfl⟩;(first|rw[Lc] at H|simp only[Lc] at H ⊢)
       (try rw[Lc] at A29)
       have ayR:(IntKind.i64.wrap (dH+2))=Fs:=(dU _).trans Lc;replace H:=gN H;obtain⟨-,agF,-,H⟩:=H;replace H:=gN H;obtain⟨-,Sn,-,H⟩:=H;replace H:=gD H;obtain⟨DJ,YY,H⟩:=H;replace H:=xE H;rcases H with⟨A35,H⟩|⟨A35,H⟩
       ·replace H:=gN H;obtain⟨c37,-,-,H⟩:=H;have at0:=aa.mk c37;clear c37;obtain⟨at1,Wv⟩:∃ y_:List Int,y_=(dD ++ [(wrap64 ((wrap64 (16*DI))+DJ))%256]):=⟨_,rfl⟩;replace H:(aG.l0 GD a0 at1 (wrap64 ((Fs)+1)))=some r:=by first|(rw[Wv];with_reducible exact H)|(have kP:=(ax _ _).symm.trans H;rw[Wv];with_reducible exact kP)|(have kP:=(ax _ _).symm.trans H;with_reducible exact kP)|with_reducible exact H|(rw[Wv];exact H)|exact H
        have at5:=aa.mk Wv;clear Wv;replace H:=aa.mk H;try go_wp2
        replace iV:=aa.mk (Kd.dB iV.out);replace HB:=aa.mk (bE HB.out);have p28:0<=((Ow):Int):=ay bM;have q28:(Ow)<(a0.size:Int):=ay bM;have hx28:=bO a0 (Ow);replace p28:=eq_true p28;replace q28:=eq_true q28;have p33:0<=((Fs):Int):=ay bM;have q33:(Fs)<(a0.size:Int):=ay bM;have ayS:=bO a0 (Fs);replace p33:=eq_true p33;replace q33:=eq_true q33;refine jP (n:=14) (S:=fun w'=>True) (ds:=[]) trivial (fun hHeld=>?_);refine dw aG.ad8 aG.Sk (fun HT_ HW_=>?_);generalize wc.drew=jH at iV HB hHeld ⊢;repeat(first|refine lC ?_ (hy:=Or.inl ⟨by rfl,by intro w' _;go_simp;with_reducible rfl⟩)|refine dA ?_)
        refine bq 6 (some 51) ?_;refine bq 7 (some 52) ?_;refine bq 8 (some 53) ?_;refine fB 9 (some 54) (hy:=Or.inl ⟨by rfl,by intro w' _;go_simp;with_reducible rfl⟩) ?_;refine fG (fun K hK=>?_);refine jZ Tryz.func219 dK rfl #[.int .u8 (bt a0 (Ow))] (by rfl) rfl rfl (by(try simp only[List.map_toArray,List.map_cons,List.map_nil]);first|done|(simp only[Wu];rfl)|rfl|(simp only[List.length_drop,List.length_take];rfl)) ?_;(with_reducible refine(eT.calls GD (bt a0 (Ow)) DI _ A29.out).mono ?_);rintro e w' ⟨rfl,⟨nd,rfl⟩⟩;refine⟨_,rfl,?_⟩;refine hK.out _ _ trivial (fun hHeld=>?_);clear hK K;refine bY ?_;repeat(first|refine dA ?_)
        refine fG (fun K hK=>?_);refine jZ Tryz.func219 dK rfl #[.int .u8 (bt a0 (Fs))] (by rfl) rfl rfl (by(try simp only[List.map_toArray,List.map_cons,List.map_nil]);first|done|(simp only[Lc];rfl)|rfl|(simp only[List.length_drop,List.length_take];rfl)) ?_;(with_reducible refine(eT.calls GD (bt a0 (Fs)) DJ _ YY.out).mono ?_);rintro e w' ⟨rfl,⟨nd,rfl⟩⟩;refine⟨_,rfl,?_⟩;refine hK.out _ _ trivial (fun hHeld=>?_);clear hK K;refine bY ?_;repeat(first|refine dA ?_)
        refine kI (fP HT_.out dK) ?_;try go_wp2_with(first|((with_reducible refine cZ 220 rfl ?_);refine mM 59 rfl Tryz.func220 (jW.calls ((wrap64 ((wrap64 (16*DI))+DJ))%256) true _ A35.out) fun nd=>?_)|((with_reducible refine fO (b:=.append) (xs:=#[.tmp 60,.tmp 62]) rfl ?_);(try(refine kK (by rfl) ?_;dsimp only));at_builtin;refine Kd.kJ (Kd.int .u8) (w0:=w) w.heap.size rfl (.tmp 60) (.tmp 62) 100 5 (.int .u8 0) 1 rfl Tryz.underlying100 info5 rfl aA ae u3 dD ((wrap64 ((wrap64 (16*DI))+DJ))%256) [.int .u8 ((wrap64 ((wrap64 (16*DI))+DJ))%256)] (fun _=>True) (fun _=>False) rfl rfl ?aP (fun _ hk=>hk.elim) ?aF ?aO ?aB ?aS ?aL ?_;(case aP=>exact rfl);(case aB=>exact aX);(case aF=>exact(fun _ _=>trivial));(case aO=>exact Ma);(case aS=>exact(aN aX));(case aL=>have:=at0.out;omega);intro aFs mP ho hb hg hat;rw[<- at5.out] at ho;have xP:=aa.mk (hb);have Ed:=aa.mk (ho);clear HB;clear iV;have HB:=xP;have aCD:=Ed;clear xP Ed;clear ho hb hg hat))
        go_roundg GD
        case measure=>have:=ig.out;have:=HJ2.out;omega
        case rel=>exact⟨(at1),(wrap64 ((Fs)+1)),(by first|rfl|(simp;done)|(simp only[<- Lc] <;> (first|rfl|simp))|(simp[*];done)),H,⟨Zg⟩,⟨qE⟩,⟨aX⟩⟩
       ·obtain⟨Ww,Wx⟩:∃ j_:Int,(((wrap64 ((wrap64 (16*DI))+DJ))%256) / 16)=j_:=⟨_,rfl⟩;(first|rw[Wx] at H|simp only[Wx] at H ⊢)
        (try rw[Wx] at A29)
        (try rw[Wx] at YY)
        (try rw[Wx] at A35)
        replace H:=gN H;obtain⟨-,aol,-,H⟩:=H;replace H:=gN H;obtain⟨-,aom,-,H⟩:=H;obtain⟨Wy,Wz⟩:∃ j_:Int,(Go.bits .and .u8 ((wrap64 ((wrap64 (16*DI))+DJ))%256) 15)=j_:=⟨_,rfl⟩;(first|rw[Wz] at H|simp only[Wz] at H ⊢)
        (try rw[Wz] at A29)
        (try rw[Wz] at YY)
        (try rw[Wz] at A35)
        replace H:=gN H;obtain⟨-,aCE,-,H⟩:=H;replace H:=gN H;obtain⟨-,aon,-,H⟩:=H;obtain⟨Wp,WA⟩:∃ y_:List Int,y_=(([37,bt (⟨#[48,49,50,51,52,53,54,55,56,57,65,66,67,68,69,70]⟩:af) (Ww),bt (⟨#[48,49,50,51,52,53,54,55,56,57,65,66,67,68,69,70]⟩:af) (Wy)]:List Int)):=⟨_,rfl⟩;replace H:(if dD.length+Wp.length<140737488355328 then(aG.l0 GD a0 (dD++Wp) (wrap64 ((Fs)+1))) else(none))=some r:=by first|(rw[WA];with_reducible exact H)|(have kP:=(ax _ _).symm.trans H;rw[WA];with_reducible exact kP)|(have kP:=(ax _ _).symm.trans H;with_reducible exact kP)|with_reducible exact H|(rw[WA];exact H)|exact H
        have aoo:=aa.mk WA;clear WA;replace H:=gN H;obtain⟨c48,-,-,H⟩:=H;have at6:=aa.mk c48;clear c48;obtain⟨at7,WB⟩:∃ y_:List Int,y_=(dD++Wp):=⟨_,rfl⟩;replace H:(aG.l0 GD a0 at7 (wrap64 ((Fs)+1)))=some r:=by first|(rw[WB];with_reducible exact H)|(have kP:=(ax _ _).symm.trans H;rw[WB];with_reducible exact kP)|(have kP:=(ax _ _).symm.trans H;with_reducible exact kP)|with_reducible exact H|(rw[WB];exact H)|exact H
        have aua:=aa.mk WB;clear WB;replace H:=aa.mk H;try go_wp2
        replace iV:=aa.mk (Kd.dB iV.out);replace HB:=aa.mk (bE HB.out);have p28:0<=((Ow):Int):=ay bM;have q28:(Ow)<(a0.size:Int):=ay bM;have hx28:=bO a0 (Ow);replace p28:=eq_true p28;replace q28:=eq_true q28;have p33:0<=((Fs):Int):=ay bM;have q33:(Fs)<(a0.size:Int):=ay bM;have ayS:=bO a0 (Fs);replace p33:=eq_true p33;replace q33:=eq_true q33;refine jP (n:=14) (S:=fun w'=>True) (ds:=[]) trivial (fun hHeld=>?_);refine dw aG.ad8 aG.Sk (fun HT_ HW_=>?_);generalize wc.drew=jH at iV HB hHeld ⊢;repeat(first|refine lC ?_ (hy:=Or.inl ⟨by rfl,by intro w' _;go_simp;with_reducible rfl⟩)|refine dA ?_)
        refine bq 6 (some 51) ?_;refine bq 7 (some 52) ?_;refine bq 8 (some 53) ?_;refine fB 9 (some 54) (hy:=Or.inl ⟨by rfl,by intro w' _;go_simp;with_reducible rfl⟩) ?_;refine fG (fun K hK=>?_);refine jZ Tryz.func219 dK rfl #[.int .u8 (bt a0 (Ow))] (by rfl) rfl rfl (by(try simp only[List.map_toArray,List.map_cons,List.map_nil]);first|done|(simp only[Wu];rfl)|rfl|(simp only[List.length_drop,List.length_take];rfl)) ?_;(with_reducible refine(eT.calls GD (bt a0 (Ow)) DI _ A29.out).mono ?_);rintro e w' ⟨rfl,⟨nd,rfl⟩⟩;refine⟨_,rfl,?_⟩;refine hK.out _ _ trivial (fun hHeld=>?_);clear hK K;refine bY ?_;repeat(first|refine dA ?_)
        refine fG (fun K hK=>?_);refine jZ Tryz.func219 dK rfl #[.int .u8 (bt a0 (Fs))] (by rfl) rfl rfl (by(try simp only[List.map_toArray,List.map_cons,List.map_nil]);first|done|(simp only[Lc];rfl)|rfl|(simp only[List.length_drop,List.length_take];rfl)) ?_;(with_reducible refine(eT.calls GD (bt a0 (Fs)) DJ _ YY.out).mono ?_);rintro e w' ⟨rfl,⟨nd,rfl⟩⟩;refine⟨_,rfl,?_⟩;refine hK.out _ _ trivial (fun hHeld=>?_);clear hK K;refine bY ?_;repeat(first|refine dA ?_)
        refine kI (fP HT_.out dK) ?_;try go_wp2_with(((with_reducible refine cZ 220 rfl ?_);refine mM 59 rfl Tryz.func220 (jW.calls ((wrap64 ((wrap64 (16*DI))+DJ))%256) false _ A35.out) fun nd=>?_))
        try simp only[show ∀(w:World) (a b:Nat),(w.drewN a).drewN b=w.drewN (a+b) from fun w a b=>by unfold World.drewN;simp[Nat.add_assoc]]
        (try(rw[ko jH];generalize hq_:World.drewN jH _=jH;have uW:aa (Kd.R (Kd.int .u8) 5 jH w.heap.size (fun _=>True) u3 dD):=⟨by rw[<- hq_];exact Ma⟩;have Ld:aa (Below w.heap.size w jH):=⟨by rw[<- hq_];exact aX⟩;clear iV HB hq_;have iV:=uW;have HB:=Ld;clear uW Ld))
        replace iV:=aa.mk (Kd.dB iV.out);replace HB:=aa.mk (bE HB.out);have p43:0<=((Ww):Int):=ay bM;have q43:(Ww)<(16:Int):=ay bM;have aFt:=bO (⟨#[48,49,50,51,52,53,54,55,56,57,65,66,67,68,69,70]⟩:af) (Ww);replace p43:=eq_true p43;replace q43:=eq_true q43;have p47:0<=((Wy):Int):=ay bM;have q47:(Wy)<(16:Int):=ay bM;have aFu:=bO (⟨#[48,49,50,51,52,53,54,55,56,57,65,66,67,68,69,70]⟩:af) (Wy);replace p47:=eq_true p47;replace q47:=eq_true q47;try simp only[show ∀ n:Int,IntKind.u8.wrap n=n%256 from fun _=>rfl]
        refine jP (n:=10) (S:=fun w'=>True) (ds:=[]) trivial (fun hHeld=>?_);refine dw aG.atU aG.aqp (fun HT_ HW_=>?_);generalize jH.drew=uo at iV HB hHeld ⊢;repeat(first|refine lC ?_ (hy:=Or.inl ⟨by rfl,by intro w' _;go_simp;with_reducible rfl⟩)|refine dA ?_)
        refine Fh (i:=7) (N:=some 71) #[true,true,true,true,true,true,true,true,false,false] rfl rfl (vJ HT_.out dK) aA (fun K hK=>?_);refine Kd.Cc (Kd.int .u8) _ 5 ?hg (N:=71) ?hd (xs:=([37,bt (⟨#[48,49,50,51,52,53,54,55,56,57,65,66,67,68,69,70]⟩:af) (Ww),bt (⟨#[48,49,50,51,52,53,54,55,56,57,65,66,67,68,69,70]⟩:af) (Wy)]:List Int)) (inner:=[.int .u8 37,.int .u8 (bt (⟨#[48,49,50,51,52,53,54,55,56,57,65,66,67,68,69,70]⟩:af) (Ww)),.int .u8 (bt (⟨#[48,49,50,51,52,53,54,55,56,57,65,66,67,68,69,70]⟩:af) (Wy))]) (ok:=fun _=>True) (okp:=fun _=>True) ?hr ?hp (fun _ hk=>hk) trivial (Below.refl _ _) (Nat.le_refl _) (by simp) ?_;(case hd=>rfl);(case hg=>rfl);(case hr=>first|(go_simp;done)|(go_simp;rfl));(case hp=>exact(fI.one (show Kd.M (Kd.int .u8) _ _ _ 37 [.int .u8 37] from rfl) (fI.one (show Kd.M (Kd.int .u8) _ _ _ (bt (⟨#[48,49,50,51,52,53,54,55,56,57,65,66,67,68,69,70]⟩:af) (Ww)) [.int .u8 (bt (⟨#[48,49,50,51,52,53,54,55,56,57,65,66,67,68,69,70]⟩:af) (Ww))] from rfl) (fI.one (show Kd.M (Kd.int .u8) _ _ _ (bt (⟨#[48,49,50,51,52,53,54,55,56,57,65,66,67,68,69,70]⟩:af) (Wy)) [.int .u8 (bt (⟨#[48,49,50,51,52,53,54,55,56,57,65,66,67,68,69,70]⟩:af) (Wy))] from rfl) (fI.none _ _)))));intro aFv Af aea hb hg_ hnew_;clear hg_ hnew_;(first|rw[<- aoo.out] at aea|(simp only[Int.reduceToNat] at aea;rw[<- aoo.out] at aea))
        have Sq:=aa.mk (Kd.gu (Kd.rq aea (Kd.vI Ma)) (aN aX));replace iV:=aa.mk (Kd.zh Ma (Kd.qo aea) hb);replace HB:=fw hb;clear hb aea;obtain⟨aub,auc,ake⟩:=Kd.eD Sq.out;(first|subst ake|(injection ake with IC Uu IE;have Uv:=IC.symm;have Uw:=IE.symm;clear IC Uu IE;subst Uv;subst Uw))
        refine hK.out _ _ trivial (fun hHeld=>?_);clear hK K;refine zk (some 71) ?_;refine Fh (i:=8) (N:=some 72) #[true,true,true,true,true,true,true,true,true,false] rfl rfl (vJ HT_.out dK) aA (fun K hK=>?_);refine Kd.zi (Kd.int .u8) (w0:=w) w.heap.size (by rfl) (.tmp 64) (.tmp 71) 100 5 (.int .u8 0) 1 rfl Tryz.underlying100 info5 rfl aA ae u3 dD Wp _ _ _ (fun k_=>some k_≠(.slice aub Wp.length auc:Value).ownBlock) (fun _=>False) rfl rfl ?aO ?aR (fun _ _ h=>h) (fun _ h=>h.elim) ?aF ?aB ?aS ?aL ?_;(case aR=>repeat(first|exact(Kd.aH Sq.out).2.2|(with_reducible refine Kd.lK ?_ _)|(with_reducible refine Kd.lL ?_ _)|(with_reducible refine Kd.nM ?_)))
        (case aB=>exact aX)
        (case aF=>exact(fun k_ hk=>Kd.fresh' (Kd.vI (by(with_reducible repeat(first|apply Kd.cK|apply Kd.cz|apply Kd.dB));exact Sq.out)) k_ hk))
        (case aO=>exact(by(with_reducible repeat(first|apply Kd.cK|apply Kd.cz|apply Kd.dB));exact Kd.kg iV.out (fun _ hk=>hk.2)))
        (case aS=>exact(aN aX))
        (case aL=>have:=at6.out;omega)
        intro aFw Cu ho hb hg hat;rw[<- aua.out] at ho;have uW:=aa.mk (Kd.xD (ok:=(fun _=>True)) (by(with_reducible repeat(first|apply Kd.cK|apply Kd.cz|apply Kd.dB));exact Sq.out) hg hat);have Ld:=aa.mk (hb);have aop:=aa.mk (ho);clear Sq;clear HB;clear iV;have Sq:=uW;have HB:=Ld;have aud:=aop;clear uW Ld aop;clear ho hb hg hat;refine hK.out _ _ trivial (fun hHeld=>?_);clear hK K;refine zk (some 72) ?_;repeat(first|refine dA ?_)
        refine kI (fP HT_.out dK) ?_;try go_wp2
        go_roundg GD
        case measure=>have:=ig.out;have:=HJ2.out;omega
        case rel=>exact⟨(at7),(wrap64 ((Fs)+1)),(by first|rfl|(simp;done)|(simp only[<- Lc] <;> (first|rfl|simp))|(simp[*];done)),H,⟨Zg⟩,⟨by(with_reducible repeat(first|apply Kd.cK|apply Kd.cz|apply Kd.dB));exact Kd.kg aud.out (fun _ hk=>trivial)⟩,⟨aX⟩⟩
   ·obtain rfl:=aI H;have aCF:=sJ (P:=Tryz.prog) Tryz.underlying100 Tryz.underlying5 Tryz.underlying9 (Kd.vH iV.out);go_wp2;go_ret;exact⟨jv,aX⟩

theorem obE {A:Option Addr} {n c m d:Nat}:(Value.slice A n c).ownBlock=(Value.slice A m d).ownBlock:=by cases A <;> rfl
theorem WC {α:Type} {d:Kd α} {e:Nat} {w:World} {base n m c c2:Nat} {A:Option Addr} {v:Value} {xs:List α} (h:d.R e w base (fun k=>some k≠(Value.slice A n c).ownBlock) v xs):d.R e w base (fun k=>some k≠(Value.slice A m c2).ownBlock) v xs:=
 Kd.kg h (fun k hk=>by rw[obE (m:=n) (d:=c)];exact hk)

mutual
def aY.j0 : Nat->ByteArray->Bool->Option (ByteArray)
 |0,_,_=>none
 |k+1,x0,x24=>if x24=true then(some (⟨#[]⟩:af)) else((aG.f k x0).bind fun ZW=>(if 1<=(ZW.size:Int) then((strings_Split.f (ZW.extract 1 ZW.size) (⟨#[47]⟩:af)).bind fun sH=>(aY.l0 k ([]:List ByteArray) sH sH (sH.length:Int) 0)) else(none)))
def aY.l0 : Nat->List ByteArray->List ByteArray->List ByteArray->Int->Int->Option (ByteArray)
 |0,_,_,_,_,_=>none
 |k+1,x3,x4,x29,x30,x31=>if x31<x30 then(if 0<=x31 then(if x31<(x29.length:Int) then(if(dh ByteArray.empty x29 x31).toList=([46]:aQ) then(aY.l0 k x3 x4 x29 x30 (wrap64 (x31+1))) else(if(dh ByteArray.empty x29 x31).toList=([46,46]:aQ) then(if 0<=(mx 0 (wrap64 ((x3.length:Int)-1))) then(if(mx 0 (wrap64 ((x3.length:Int)-1)))<=(x3.length:Int) then(aY.l0 k (x3.take ((mx 0 (wrap64 ((x3.length:Int)-1))):Int).toNat) x4 x29 x30 (wrap64 (x31+1))) else(none)) else(none)) else(if x3.length<8796093022208 then(aY.l0 k (x3 ++ [dh ByteArray.empty x29 x31]) x4 x29 x30 (wrap64 (x31+1))) else(none)))) else(none)) else(none)) else(if 0<=(wrap64 ((x4.length:Int)-1)) then(if(wrap64 ((x4.length:Int)-1))<(x4.length:Int) then(if(dh ByteArray.empty x4 (wrap64 ((x4.length:Int)-1))).toList=([46]:aQ) then(if x3.length<8796093022208 then((strings_Join.f (x3 ++ [(⟨#[]⟩:af)]) (⟨#[47]⟩:af)).bind fun ZX=>(if 1+ZX.size<=9223372036854775807 then(some ((⟨#[47]⟩:af)++ZX)) else(none))) else(none)) else(if(dh ByteArray.empty x4 (wrap64 ((x4.length:Int)-1))).toList=([46,46]:aQ) then(if x3.length<8796093022208 then((strings_Join.f (x3 ++ [(⟨#[]⟩:af)]) (⟨#[47]⟩:af)).bind fun ZY=>(if 1+ZY.size<=9223372036854775807 then(some ((⟨#[47]⟩:af)++ZY)) else(none))) else(none)) else((strings_Join.f x3 (⟨#[47]⟩:af)).bind fun akf=>(if 1+akf.size<=9223372036854775807 then(some ((⟨#[47]⟩:af)++akf)) else(none))))) else(none)) else(none))
end
def aY.f (k:Nat) (a0:ByteArray):Option (ByteArray):=(strings_HasPrefix.f a0 (⟨#[47]⟩:af)).bind fun ayT=>(if ayT=true then(if(a0.size:Int)>200 then(aY.j0 k a0 true) else((aK.f k a0).bind fun ayU=>(if ayU=true then((strings_ContainsAny.f a0 (⟨#[35,63]⟩:af)).bind fun akg=>(aY.j0 k a0 akg)) else(aY.j0 k a0 true)))) else(aY.j0 k a0 true))
theorem aY.e0 {p:Prop} (h:p:=by
  replace H:=aa.mk H
  go_wp2_with(first|((with_reducible refine cZ 194 rfl ?_);refine mM 9 rfl Tryz.func194 (strings_HasPrefix.calls a0 (⟨#[47]⟩:af) false _ A3.out) fun nd=>?_)|((with_reducible refine cZ 194 rfl ?_);refine mM 9 rfl Tryz.func194 (strings_HasPrefix.calls a0 (⟨#[47]⟩:af) true _ A3.out) fun nd=>?_)|(go_at_call 107;(with_reducible refine(aK.calls k a0  false _ A6.out).mono ?_);rintro e w' ⟨rfl,⟨nd,rfl⟩⟩))
  go_meet
  case rel=>exact⟨_,(true),bR,H,⟨tT⟩,⟨aX⟩⟩):p:=h
theorem aY.e1 {p:Prop} (h:p:=by
  obtain rfl:=aI H
  have ZZ:0<=((Z0):Int):=ay bM
  have Z4:(Z0)<(sH.length:Int):=ay bM
  obtain⟨WE,aqr,akh⟩:=Kd.eG (Kd.aH rJ.out).2.2 (Z0) ZZ Z4
  cases aqr
  replace ZZ:=eq_true ZZ
  replace Z4:=eq_true Z4
  go_wp2_with(first|((with_reducible refine fO (b:=.append) (xs:=#[.tmp 63,.tmp 64]) rfl ?_);(try(refine kK (by rfl) ?_;dsimp only));at_builtin;refine Kd.kJ Kd.string (w0:=w) w.heap.size rfl (.tmp 63) (.tmp 64) 76 9 (.string ⟨#[]⟩) 16 rfl Tryz.underlying76 Bg rfl aA ae u3 lZ (⟨#[]⟩:af) [.string (⟨#[]⟩:af)] (fun k_=>some k_≠(.slice (some WE) sH.length QQ:Value).ownBlock/\some k_≠(.slice (some WE) sH.length QQ:Value).ownBlock) (fun _=>False) rfl rfl ?aP (fun _ hk=>hk.elim) ?aF ?aO ?aB ?aS ?aL ?_;(case aP=>exact rfl);(case aB=>exact aX);(case aF=>exact(fun k_ hk=>⟨Kd.fresh' (Kd.vI Qs) k_ hk,Kd.fresh' (Kd.vI adu) k_ hk⟩));(case aO=>exact Ma);(case aS=>exact(aN aX));(case aL=>have:=WG.out;omega);intro aFx uo ho hb hg hat;rw[<- aue.out] at ho;have WH:=aa.mk (Kd.xD (ok:=(fun _=>True)) ae2 hg hat);have WI:=aa.mk (Kd.xD (ok:=(fun _=>True)) (by(with_reducible repeat(first|apply Kd.cK|apply Kd.cz|apply Kd.dB));exact Kd.kg xL.out (fun _ hk=>⟨trivial,hk⟩)) hg hat);have WJ:=aa.mk (hb);have aoq:=aa.mk (ho);clear rJ;clear xL;clear HB;clear iV;have rJ:=WH;have xL:=WI;have HB:=WJ;have Vw:=aoq;clear WH WI WJ aoq;clear ho hb hg hat;obtain⟨ayV,ayW,ayX⟩:=Kd.eD Vw.out;subst ayX)|((with_reducible refine cZ 169 rfl ?_);refine iW (args:=#[.slice ayV aqs.length ayW,.string (⟨#[47]⟩:af)]) 67 rfl Tryz.func169 (strings_Join.calls _ _ aqs (⟨#[47]⟩:af) ZY _ zs8 ((Kd.aH Vw.out).2.1) A41.out) fun Af hb _=>?_;replace rJ:=aa.mk (Kd.bL Qs hb);replace xL:=aa.mk (Kd.bL adu hb);replace Vw:=aa.mk (Kd.bL (by(with_reducible repeat(first|apply Kd.cK|apply Kd.cz|apply Kd.dB));exact Vw.out) hb);replace HB:=fw hb;(try clear hb);(try clear hk))|((with_reducible refine fO (b:=.append) (xs:=#[.tmp 63,.tmp 64]) rfl ?_);(try(refine kK (by rfl) ?_;dsimp only));at_builtin;refine Kd.kJ Kd.string (w0:=w) w.heap.size rfl (.tmp 63) (.tmp 64) 76 9 (.string ⟨#[]⟩) 16 rfl Tryz.underlying76 Bg rfl aA ae u3 lZ (⟨#[]⟩:af) [.string (⟨#[]⟩:af)] (fun k_=>some k_≠(.slice (some WE) sH.length QQ:Value).ownBlock/\some k_≠(.slice (some WE) sH.length QQ:Value).ownBlock) (fun _=>False) rfl rfl ?aP (fun _ hk=>hk.elim) ?aF ?aO ?aB ?aS ?aL ?_;(case aP=>exact rfl);(case aB=>exact aX);(case aF=>exact(fun k_ hk=>⟨Kd.fresh' (Kd.vI Qs) k_ hk,Kd.fresh' (Kd.vI adu) k_ hk⟩));(case aO=>exact Ma);(case aS=>exact(aN aX));(case aL=>have:=auf.out;omega);intro aFy mP ho hb hg hat;rw[<- aug.out] at ho;have xP:=aa.mk (Kd.xD (ok:=(fun _=>True)) ae2 hg hat);have Ed:=aa.mk (Kd.xD (ok:=(fun _=>True)) (by(with_reducible repeat(first|apply Kd.cK|apply Kd.cz|apply Kd.dB));exact Kd.kg xL.out (fun _ hk=>⟨trivial,hk⟩)) hg hat);have WK:=aa.mk (hb);have aor:=aa.mk (ho);clear rJ;clear xL;clear HB;clear iV;have rJ:=xP;have xL:=Ed;have HB:=WK;have Vx:=aor;clear xP Ed WK aor;clear ho hb hg hat;obtain⟨auh,aui,aki⟩:=Kd.eD Vx.out;subst aki)|((with_reducible refine cZ 169 rfl ?_);refine iW (args:=#[.slice auh aqt.length aui,.string (⟨#[47]⟩:af)]) 67 rfl Tryz.func169 (strings_Join.calls _ _ aqt (⟨#[47]⟩:af) ZX _ zs9 ((Kd.aH Vx.out).2.1) YY.out) fun wS hb _=>?_;replace rJ:=aa.mk (Kd.bL Qs hb);replace xL:=aa.mk (Kd.bL adu hb);replace Vx:=aa.mk (Kd.bL (by(with_reducible repeat(first|apply Kd.cK|apply Kd.cz|apply Kd.dB));exact Vx.out) hb);replace HB:=fw hb;(try clear hb);(try clear hk)))
  go_ret
  exact⟨by first|rfl|(simp[dP,dQ] <;> rfl)|(simp only[<- WL];first|rfl|(simp[dP,dQ] <;> rfl))|(simp[*,dP,dQ] <;> rfl),aX⟩):p:=h
theorem aY.calls (k:Nat) (a0 r:ByteArray) (w:World) (h:aY.f k a0=some r) :
  Calls Tryz.prog 152 #[.string a0] w fun e w'=>e = .returned (.string r)/\Below w.heap.size w w':=by
 have HB:=aa.mk (Below.refl w.heap.size w);have H:=h;clear h;unfold aY.f at H;have qz:=aa.mk H;clear H;go_enter Tryz.func152,Tryz.ntmps152;go_upto_region 1 with(fail);go_cut [24] (fun v24 wc=>∃(kq:Nat) (agG:Bool),v24 = .bool agG/\aa (aY.j0 kq a0 agG=some r)/\aa (kq<=k)/\aa (Below w.heap.size w wc))
 case first=>
  have H:=qz.out;clear qz;replace H:=xE H;rcases H with⟨A3,H⟩|⟨A3,H⟩
  ·replace H:=gI H;rcases H with⟨c5,-,-,H⟩|⟨c5,-,-,H⟩
   ·have jV:decide (200<(a0.size:Int))=true:=bK c5;have rO:decide (200<a0.size)=true:=bK ae;clear c5;(first|rw[jV]|(simp only[dU,fK];rw[jV])|skip)
    exact aY.e0
   ·have jV:decide (200<(a0.size:Int))=false:=bQ c5;have rO:decide (200<a0.size)=false:=bQ ae;clear c5;(first|rw[jV]|(simp only[dU,fK];rw[jV])|skip)
    replace H:=xE H;rcases H with⟨A6,H⟩|⟨A6,H⟩
    ·replace H:=gD H;obtain⟨akg,A8,H⟩:=H;replace H:=aa.mk H;go_wp2_with(first|((with_reducible refine cZ 194 rfl ?_);refine mM 9 rfl Tryz.func194 (strings_HasPrefix.calls a0 (⟨#[47]⟩:af) true _ A3.out) fun nd=>?_)|(go_at_call 107;(with_reducible refine(aK.calls k a0  true _ A6.out).mono ?_);rintro e w' ⟨rfl,⟨nd,rfl⟩⟩)|(go_at_call 195;(with_reducible refine(strings_ContainsAny.calls a0 (⟨#[35,63]⟩:af) akg _ A8.out).mono ?_);rintro e gG ⟨rfl,hb⟩;replace HB:=fw hb;clear hb));go_meet
     case rel=>exact⟨_,(akg),bR,H,⟨tT⟩,⟨aX⟩⟩
    ·exact aY.e0
  ·exact aY.e0
 case rest=>
  clear qz;obtain⟨kq,agG,rfl,HA,tC,HB⟩:=hcut;cases kq with
  |zero=>exact absurd HA.out (by simp[aY.j0])
  |succ oz=>
   have H:=HA.out;clear HA;simp only[aY.j0] at H;replace H:=gB H;rcases H with⟨rfl,H⟩|⟨rfl,H⟩
   ·obtain rfl:=aI H;go_wp2;go_ret;exact⟨jv,aX⟩
   ·replace H:=gD H;obtain⟨ZW,M3,H⟩:=H;replace H:=gI H;rcases H with⟨-,yH,nS,H⟩|⟨c12,-,-,H⟩
    ·replace H:=gD H;obtain⟨sH,K5,H⟩:=H;replace H:=aa.mk H;go_wp2_with(first|((with_reducible refine cZ 197 rfl ?_);refine iW 26 rfl Tryz.func197 (aG.calls oz a0 ZW _ M3.out) fun w14 hb HB=>?_;clear hb)|((with_reducible refine cZ 196 rfl ?_);refine NL 28 rfl Tryz.func196 (strings_Split.calls (ZW.extract 1 ZW.size) (⟨#[47]⟩:af) sH _ K5.out) ?_;rintro e w15 ⟨aFz,rfl,ho0,hb⟩;refine⟨_,rfl,?_⟩;have agH:=aa.mk (Kd.gu ho0 (aN aX));replace HB:=fw hb;clear hb;(try clear ho0);obtain⟨akj,QQ,ayY⟩:=Kd.eD agH.out;subst ayY));go_loopg [3,31] oz (fun kq v3 v31 w'=>∃(lZ:List ByteArray) (uX:Int),v31 = .int .i64 uX/\aa (aY.l0 kq lZ sH sH (sH.length:Int) uX=some r)/\aa (kq<=oz)/\aa (Kd.R Kd.string 9 w' w.heap.size (fun k_=>some k_≠((.slice akj sH.length QQ):Value).ownBlock/\some k_≠((.slice akj sH.length QQ):Value).ownBlock) v3 lZ)/\aa (Kd.R Kd.string 9 w' w.heap.size (fun k_=>some k_≠(v3:Value).ownBlock) (.slice akj sH.length QQ) sH)/\aa (Kd.R Kd.string 9 w' w.heap.size (fun k_=>some k_≠(v3:Value).ownBlock) (.slice akj sH.length QQ) sH)/\aa (Below w.heap.size w w'))
     case atStart=>exact⟨(([]:List ByteArray)),(0),bR,H,⟨Nat.le_refl _⟩,⟨Hz⟩,⟨by(with_reducible repeat(first|apply Kd.cK|apply Kd.cz|apply Kd.dB));exact Kd.kg agH.out (fun _ hk=>(by simp[Value.ownBlock]))⟩,⟨by(with_reducible repeat(first|apply Kd.cK|apply Kd.cz|apply Kd.dB));exact Kd.kg agH.out (fun _ hk=>(by simp[Value.ownBlock]))⟩,⟨aX⟩⟩
     case round=>
      clear H;try clear c12
      try clear nS
      try clear yH
      obtain⟨lZ,uX,rfl,HA,tO,iV,rJ,xL,HB⟩:=hrel;cases gk with
      |zero=>exact absurd HA.out (by simp[aY.l0])
      |succ k2=>
       have H:=HA.out;clear HA;simp only[aY.l0] at H;replace H:=gI H;rcases H with⟨-,sP,-,H⟩|⟨-,sP,-,H⟩
       ·replace H:=gN H;obtain⟨-,FP,-,H⟩:=H;replace H:=gN H;obtain⟨-,yG,-,H⟩:=H;replace H:=gI H;rcases H with⟨c20,-,-,H⟩|⟨c20,-,-,H⟩
        ·obtain⟨uu,Dl⟩:=kT c20;clear c20;replace H:=aa.mk H;have Ox:0<=(uX:Int):=ay bM;have Oy:uX<(sH.length:Int):=ay bM;obtain⟨abA,agI,abB⟩:=Kd.eG (Kd.aH xL.out).2.2 uX Ox Oy;cases agI
         replace Ox:=eq_true Ox;replace Oy:=eq_true Oy;go_wp2;go_roundg k2
         case measure=>have:=tC.out;have:=tO.out;omega
         case rel=>exact⟨(lZ),(wrap64 (uX+1)),bR,H,⟨Fj⟩,⟨qE⟩,⟨qE⟩,⟨qE⟩,⟨aX⟩⟩
        ·obtain⟨uu,Dl⟩:=kU c20;replace H:=gI H;rcases H with⟨c21,-,-,H⟩|⟨c21,-,-,H⟩
         ·obtain⟨uw,Dm⟩:=kT c21;clear c21;obtain⟨aeb,agJ⟩:∃ j_:Int,(mx 0 (wrap64 ((lZ.length:Int)-1)))=j_:=⟨_,rfl⟩;(first|rw[agJ] at H|simp only[agJ] at H ⊢)
          have ayZ:(if 0<(wrap64 ((lZ.length:Int)-1)) then(wrap64 ((lZ.length:Int)-1)) else 0)=aeb:=agJ;replace H:=gN H;obtain⟨-,Sr,Le,H⟩:=H;replace H:=gN H;obtain⟨-,IX,yI,H⟩:=H;obtain⟨aqu,WM⟩:∃ y_:List ByteArray,y_=(lZ.take ((aeb):Int).toNat):=⟨_,rfl⟩;replace H:(aY.l0 k2 aqu sH sH (sH.length:Int) (wrap64 (uX+1)))=some r:=by first|(rw[WM];with_reducible exact H)|(have kP:=(ax _ _).symm.trans H;rw[WM];with_reducible exact kP)|(have kP:=(ax _ _).symm.trans H;with_reducible exact kP)|with_reducible exact H|(rw[WM];exact H)|exact H
          have aos:=aa.mk WM;clear WM;replace H:=aa.mk H;have Ox:0<=(uX:Int):=ay bM;have Oy:uX<(sH.length:Int):=ay bM;obtain⟨abA,agI,abB⟩:=Kd.eG (Kd.aH xL.out).2.2 uX Ox Oy;cases agI
          replace Ox:=eq_true Ox;replace Oy:=eq_true Oy;obtain⟨auj,auk,aqv⟩:=Kd.eD iV.out;subst aqv;have q26:((aeb):Int)<=((lZ.length:Int):Int):=ay bM;obtain⟨aFA,aot,_,aul,_⟩:=info_parts Bg;have aqw:=aeP (P:=Tryz.prog) 76 9 .i64 Tryz.underlying76 aot auj lZ.length auk (aeb) (ay bM) q26 (Kd.aH iV.out).2.1;have akk:=Kd.aeR (m:=((aeb):Int).toNat) iV.out ae;have aum:aqu.length=((aeb):Int).toNat:=(by rw[aos.out,List.length_take];omega);rw[<- aos.out] at akk;rw[<- aum] at akk aqw;clear aum aot aul iV;have aCG:=aa.mk akk;clear akk;replace q26:=eq_true q26;go_wp2;go_roundg k2
          case measure=>have:=tC.out;have:=tO.out;omega
          case rel=>exact⟨(aqu),(wrap64 (uX+1)),bR,H,⟨Fj⟩,⟨by first|exact qE|exact WC (aa.out (by assumption))⟩,⟨by first|exact qE|exact WC (aa.out (by assumption))⟩,⟨by first|exact qE|exact WC (aa.out (by assumption))⟩,⟨aX⟩⟩
         ·obtain⟨uw,Dm⟩:=kU c21;replace H:=gN H;obtain⟨YZ,-,-,H⟩:=H;have agK:=aa.mk YZ;clear YZ;obtain⟨aun,WN⟩:∃ y_:List ByteArray,y_=(lZ ++ [dh ByteArray.empty sH uX]):=⟨_,rfl⟩;replace H:(aY.l0 k2 aun sH sH (sH.length:Int) (wrap64 (uX+1)))=some r:=by first|(rw[WN];with_reducible exact H)|(have kP:=(ax _ _).symm.trans H;rw[WN];with_reducible exact kP)|(have kP:=(ax _ _).symm.trans H;with_reducible exact kP)|with_reducible exact H|(rw[WN];exact H)|exact H
          have auo:=aa.mk WN;clear WN;replace H:=aa.mk H;have Ox:0<=(uX:Int):=ay bM;have Oy:uX<(sH.length:Int):=ay bM;obtain⟨abA,agI,abB⟩:=Kd.eG (Kd.aH xL.out).2.2 uX Ox Oy;cases agI
          replace Ox:=eq_true Ox;replace Oy:=eq_true Oy;go_wp2_with(((with_reducible refine fO (b:=.append) (xs:=#[.tmp 36,.tmp 38]) rfl ?_);(try(refine kK (by rfl) ?_;dsimp only));at_builtin;refine Kd.kJ Kd.string (w0:=w) w.heap.size rfl (.tmp 36) (.tmp 38) 76 9 (.string ⟨#[]⟩) 16 rfl Tryz.underlying76 Bg rfl aA ae u3 lZ (dh ByteArray.empty sH uX) [.string (dh ByteArray.empty sH uX)] (fun k_=>some k_≠(.slice (some abA) sH.length QQ:Value).ownBlock/\some k_≠(.slice (some abA) sH.length QQ:Value).ownBlock) (fun _=>False) rfl rfl ?aP (fun _ hk=>hk.elim) ?aF ?aO ?aB ?aS ?aL ?_;(case aP=>exact rfl);(case aB=>exact aX);(case aF=>exact(fun k_ hk=>⟨Kd.fresh' (Kd.vI Qs) k_ hk,Kd.fresh' (Kd.vI adu) k_ hk⟩));(case aO=>exact Ma);(case aS=>exact(aN aX));(case aL=>have:=agK.out;omega);intro aFB jH ho hb hg hat;rw[<- auo.out] at ho;have Ee:=aa.mk (Kd.xD (ok:=(fun _=>True)) ae2 hg hat);have Ef:=aa.mk (Kd.xD (ok:=(fun _=>True)) (by(with_reducible repeat(first|apply Kd.cK|apply Kd.cz|apply Kd.dB));exact Kd.kg xL.out (fun _ hk=>⟨trivial,hk⟩)) hg hat);have WO:=aa.mk (hb);have aou:=aa.mk (ho);clear rJ;clear xL;clear HB;clear iV;have rJ:=Ee;have xL:=Ef;have HB:=WO;have aCH:=aou;clear Ee Ef WO aou;clear ho hb hg hat));go_roundg k2
          case measure=>have:=tC.out;have:=tO.out;omega
          case rel=>exact⟨(aun),(wrap64 (uX+1)),bR,H,⟨Fj⟩,⟨qE⟩,⟨by(with_reducible repeat(first|apply Kd.cK|apply Kd.cz|apply Kd.dB));exact Kd.kg rJ.out (fun _ hk=>hk.2)⟩,⟨by(with_reducible repeat(first|apply Kd.cK|apply Kd.cz|apply Kd.dB));exact Kd.kg xL.out (fun _ hk=>hk.2)⟩,⟨aX⟩⟩
       ·obtain⟨Z0,WL⟩:∃ j_:Int,(wrap64 ((sH.length:Int)-1))=j_:=⟨_,rfl⟩;(first|rw[WL] at H|simp only[WL] at H ⊢)
        have ay0:(IntKind.i64.wrap ((sH.length:Int)-1))=Z0:=(dU _).trans WL;replace H:=gN H;obtain⟨-,IY,-,H⟩:=H;replace H:=gN H;obtain⟨-,agF,-,H⟩:=H;replace H:=gI H;rcases H with⟨c32,-,-,H⟩|⟨c32,-,-,H⟩
        ·obtain⟨Sn,WQ⟩:=kT c32;clear c32;replace H:=gN H;obtain⟨c33,-,-,H⟩:=H;have auf:=aa.mk c33;clear c33;obtain⟨aqt,WR⟩:∃ y_:List ByteArray,y_=(lZ ++ [(⟨#[]⟩:af)]):=⟨_,rfl⟩;replace H:((strings_Join.f aqt (⟨#[47]⟩:af)).bind fun ZX=>(if 1+ZX.size<=9223372036854775807 then(some ((⟨#[47]⟩:af)++ZX)) else(none)))=some r:=by first|(rw[WR];with_reducible exact H)|(have kP:=(ax _ _).symm.trans H;rw[WR];with_reducible exact kP)|(have kP:=(ax _ _).symm.trans H;with_reducible exact kP)|with_reducible exact H|(rw[WR];exact H)|exact H
         have aug:=aa.mk WR;clear WR;replace H:=gD H;obtain⟨ZX,YY,H⟩:=H;replace H:=gN H;obtain⟨c35,Wn,Wm,H⟩:=H;try have aup:=eq_false (Nat.not_lt.2 c35)
         exact aY.e1
        ·obtain⟨Sn,WQ⟩:=kU c32;replace H:=gI H;rcases H with⟨MG,-,-,H⟩|⟨MG,-,-,H⟩
         ·obtain⟨Dn,FQ⟩:=kT MG;clear MG;replace H:=gN H;obtain⟨c40,-,-,H⟩:=H;have WG:=aa.mk c40;clear c40;obtain⟨aqs,WS⟩:∃ y_:List ByteArray,y_=(lZ ++ [(⟨#[]⟩:af)]):=⟨_,rfl⟩;replace H:((strings_Join.f aqs (⟨#[47]⟩:af)).bind fun ZY=>(if 1+ZY.size<=9223372036854775807 then(some ((⟨#[47]⟩:af)++ZY)) else(none)))=some r:=by first|(rw[WS];with_reducible exact H)|(have kP:=(ax _ _).symm.trans H;rw[WS];with_reducible exact kP)|(have kP:=(ax _ _).symm.trans H;with_reducible exact kP)|with_reducible exact H|(rw[WS];exact H)|exact H
          have aue:=aa.mk WS;clear WS;replace H:=gD H;obtain⟨ZY,A41,H⟩:=H;replace H:=gN H;obtain⟨c42,aCI,aom,H⟩:=H;try have aCJ:=eq_false (Nat.not_lt.2 c42)
          exact aY.e1
         ·obtain⟨Dn,FQ⟩:=kU MG;replace H:=gD H;obtain⟨akf,A46,H⟩:=H;replace H:=gN H;obtain⟨Y0,abC,Ay,H⟩:=H;try have aCK:=eq_false (Nat.not_lt.2 Y0)
          obtain rfl:=aI H;have ZZ:0<=((Z0):Int):=ay bM;have Z4:(Z0)<(sH.length:Int):=ay bM;obtain⟨WE,aqr,akh⟩:=Kd.eG (Kd.aH rJ.out).2.2 (Z0) ZZ Z4;cases aqr
          replace ZZ:=eq_true ZZ;replace Z4:=eq_true Z4;obtain⟨ay1,ay2,ay3⟩:=Kd.eD iV.out;subst ay3;go_wp2_with(((with_reducible refine cZ 169 rfl ?_);refine iW (args:=#[.slice ay1 lZ.length ay2,.string (⟨#[47]⟩:af)]) 67 rfl Tryz.func169 (strings_Join.calls _ _ lZ (⟨#[47]⟩:af) akf _ apF ((Kd.aH iV.out).2.1) A46.out) fun Cu hb HB=>?_;replace iV:=aa.mk (Kd.bL Ma hb);replace rJ:=aa.mk (Kd.bL Qs hb);replace xL:=aa.mk (Kd.bL adu hb);clear hb));go_ret;exact⟨by first|rfl|(simp[dP,dQ] <;> rfl)|(simp only[<- WL];first|rfl|(simp[dP,dQ] <;> rfl))|(simp[*,dP,dQ] <;> rfl),aX⟩
    ·exact absurd H (by simp)


def j6.f (a0:Int):Option (Bool):=(kZ.f a0).bind fun ay4=>(if ay4=true then(some true) else((eH.f a0).bind fun ay5=>(if ay5=true then(some true) else(if a0=45 then(some true) else(some (a0==46))))))
theorem j6.e0 {p:Prop} (h:p:=by
  obtain rfl:=aI H.out
  go_enter Tryz.func221,Tryz.ntmps221
  go_wp2_with(first|((with_reducible refine cZ 199 rfl ?_);refine mM 4 rfl Tryz.func199 (kZ.calls a0 false _ A2.out) fun nd=>?_)|(go_at_call 166;(with_reducible refine(eH.calls a0 false _ A4.out).mono ?_);rintro e w' ⟨rfl,⟨nd,rfl⟩⟩)|(go_at_call 166;(with_reducible refine(eH.calls a0 true _ A4.out).mono ?_);rintro e w' ⟨rfl,⟨nd,rfl⟩⟩)|((with_reducible refine cZ 199 rfl ?_);refine mM 4 rfl Tryz.func199 (kZ.calls a0 true _ A2.out) fun nd=>?_))
  go_ret
  exact⟨bR,iL⟩):p:=h
theorem j6.calls (a0:Int) (r:Bool) (w:World) (h:j6.f a0=some r) :
  Calls Tryz.prog 221 #[.int .u8 a0] w fun e w'=>e = .returned (.bool r)/\bH w w':=by
 have H:=aa.mk h;clear h;unfold j6.f at H;rcases lu H with⟨A2,H⟩|⟨A2,H⟩
 ·exact j6.e0
 ·rcases lu H with⟨A4,H⟩|⟨A4,H⟩
  ·exact j6.e0
  ·rcases jw H with⟨c6,-,-,H⟩|⟨c6,-,-,H⟩
   ·obtain⟨jy,pq⟩:=kT c6;clear c6;exact j6.e0
   ·obtain⟨jy,pq⟩:=kU c6;exact j6.e0

def dz.l0 : Nat->ByteArray->Int->Option (Bool)
 |0,_,_=>none
 |k+1,x0,x5=>if x5<(x0.size:Int) then(if 0<=x5 then((j6.f (bt x0 x5)).bind fun ay6=>(if ay6=true then(dz.l0 k x0 (wrap64 (x5+1))) else(some false))) else(none)) else(some true)
def dz.f (k:Nat) (a0:ByteArray)  : Option (Bool):=dz.l0 k a0 0
theorem dz.calls (k:Nat) (a0:ByteArray)  (r:Bool) (w:World) (h:dz.f k a0=some r) :
  Calls Tryz.prog 107 #[.string a0,.func (.func 221) #[] #[]] w fun e w'=>e = .returned (.bool r)/\bH w w':=by
 have H:=aa.mk h;clear h;unfold dz.f at H;go_enter Tryz.func107,Tryz.ntmps107;go_wp2;go_loopg [5] k (fun kq v5 w'=>∃(bu:Int),v5 = .int .i64 bu/\aa (dz.l0 kq a0 bu=some r)/\aa (kq<=k)/\bH w w')
 case atStart=>exact⟨(0),bR,H,⟨Nat.le_refl _⟩,iL⟩
 case round=>
  clear H;obtain⟨bu,rfl,HA,ig,⟨m1,rfl⟩⟩:=hrel;cases gk with
  |zero=>exact absurd HA.out (by simp[dz.l0])
  |succ k1=>
   have H:=HA;clear HA;simp only[dz.l0] at H;rcases jw H with⟨-,cB,-,H⟩|⟨-,cB,-,H⟩
   ·obtain⟨-,jr,-,H⟩:=nZ H;rcases lu H with⟨A6,H⟩|⟨A6,H⟩
    ·have p5:0<=(bu:Int):=ay bM;have q5:bu<(a0.size:Int):=ay bM;have hx5:=bO a0 bu;replace p5:=eq_true p5;replace q5:=eq_true q5;go_wp2_with((go_at_call 221;(with_reducible refine(j6.calls (bt a0 bu) true _ A6.out).mono ?_);rintro e w' ⟨rfl,⟨nd,rfl⟩⟩));go_roundg k1
     case measure=>have:=ig.out;omega
     case rel=>exact⟨(wrap64 (bu+1)),bR,H,⟨by have:=ig.out;omega⟩,iL⟩
    ·obtain rfl:=aI H.out;have p5:0<=(bu:Int):=ay bM;have q5:bu<(a0.size:Int):=ay bM;have hx5:=bO a0 bu;replace p5:=eq_true p5;replace q5:=eq_true q5;go_wp2_with((go_at_call 221;(with_reducible refine(j6.calls (bt a0 bu) false _ A6.out).mono ?_);rintro e w' ⟨rfl,⟨nd,rfl⟩⟩));go_ret;exact⟨bR,iL⟩
   ·obtain rfl:=aI H.out;go_wp2;go_ret;exact⟨bR,iL⟩

def jB.j0 : Nat->ByteArray->Bool->Option (Bool)
 |0,_,_=>none
 |k+1,x0,x11=>if x11=true then(some false) else((strings_Split.f x0 (⟨#[46]⟩:af)).bind fun agL=>((gZ.f k agL (⟨#[]⟩:af)).bind fun aqx=>(some (!aqx))))
def jB.f (k:Nat) (a0:ByteArray):Option (Bool):=(bG.f (a0.size:Int) 1 60).bind fun ay7=>(if ay7=true then((dz.f k a0).bind fun akl=>(jB.j0 k a0 (!akl))) else(jB.j0 k a0 true))
theorem jB.calls (k:Nat) (a0:ByteArray) (r:Bool) (w:World) (h:jB.f k a0=some r) :
  Calls Tryz.prog 198 #[.string a0] w fun e w'=>e = .returned (.bool r)/\Below w.heap.size w w':=by
 have HB:=aa.mk (Below.refl w.heap.size w);have H:=h;clear h;unfold jB.f at H;have qz:=aa.mk H;clear H;go_enter Tryz.func198,Tryz.ntmps198;go_upto_region 1 with(fail);go_cut [11] (fun v11 wc=>∃(kq:Nat) (Oz:Bool),v11 = .bool Oz/\aa (jB.j0 kq a0 Oz=some r)/\aa (kq<=k)/\aa (Below w.heap.size w wc))
 case first=>
  have H:=qz.out;clear qz;replace H:=xE H;rcases H with⟨A3,H⟩|⟨A3,H⟩
  ·replace H:=gD H;obtain⟨akl,A5,H⟩:=H;replace H:=aa.mk H;go_wp2_with(first|((with_reducible refine cZ 65 rfl ?_);refine mM 5 rfl Tryz.func65 (bG.calls (a0.size:Int) 1 60 true _ A3.out) fun nd=>?_)|(go_at_call 107;(with_reducible refine(dz.calls k a0  akl _ A5.out).mono ?_);rintro e w' ⟨rfl,⟨nd,rfl⟩⟩));go_meet
   case rel=>exact⟨_,(!akl),bR,H,⟨tT⟩,⟨aX⟩⟩
  ·replace H:=aa.mk H;go_wp2_with(((with_reducible refine cZ 65 rfl ?_);refine mM 5 rfl Tryz.func65 (bG.calls (a0.size:Int) 1 60 false _ A3.out) fun nd=>?_));go_meet
   case rel=>exact⟨_,(true),bR,H,⟨tT⟩,⟨aX⟩⟩
 case rest=>
  clear qz;obtain⟨kq,Oz,rfl,HA,tC,HB⟩:=hcut;cases kq with
  |zero=>exact absurd HA.out (by simp[jB.j0])
  |succ oz=>
   have H:=HA.out;clear HA;simp only[jB.j0] at H;replace H:=gB H;rcases H with⟨rfl,H⟩|⟨rfl,H⟩
   ·obtain rfl:=aI H;go_wp2;go_ret;exact⟨jv,aX⟩
   ·replace H:=gD H;obtain⟨agL,A7,H⟩:=H;replace H:=gD H;obtain⟨aqx,A8,H⟩:=H;obtain rfl:=aI H;go_wp2_with(first|((with_reducible refine cZ 196 rfl ?_);refine NL 13 rfl Tryz.func196 (strings_Split.calls a0 (⟨#[46]⟩:af) agL _ A7.out) ?_;rintro e gG ⟨aFC,rfl,ho0,hb⟩;refine⟨_,rfl,?_⟩;have afa:=aa.mk (Kd.gu ho0 (aN aX));replace HB:=fw hb;clear hb;(try clear ho0);obtain⟨aqy,adY,VV⟩:=Kd.eD afa.out;subst VV)|((with_reducible refine cZ 222 rfl ?_);refine mM (args:=#[.slice aqy agL.length adY,.string (⟨#[]⟩:af)]) 14 rfl Tryz.func222 (gZ.calls oz _ _ agL (⟨#[]⟩:af) aqx _ axJ ((Kd.aH afa.out).2.1) A8.out) fun nd=>?_));go_ret;exact⟨jv,aX⟩

def mg.f (ak:ByteArray) (au:Int) (az:ByteArray) (aJ:ByteArray) (aD:Bool):Option (ByteArray):=if au=80 then(some (⟨#[]⟩:af)) else((fT.f au).bind fun akm=>(if 1+akm.size<=9223372036854775807 then(some ((⟨#[58]⟩:af)++akm)) else(none)))
theorem mg.e0 {p:Prop} (h:p:=by
  obtain rfl:=aI H.out
  go_enter Tryz.func154,Tryz.ntmps154
  go_wp2_with(first|((with_reducible refine lT 1 rfl ?_);refine jL #[.string ak,.int .i64 au,.string az,.string aJ,.bool aD] 92 ?_;intro auq hg gG hbox hb;have agM:=aa.mk (hbox);have aCL:=lJ hg;replace HB:=fw hb;clear hb hbox hg;have _:=jK agM;have _:=pJ agM)|((with_reducible refine cZ 111 rfl ?_);refine iW 8 rfl Tryz.func111 (fT.calls au akm _ A5.out (dV HT)) fun jH hb HB=>?_;replace agM:=eF (g:=auq) hb;clear hb))
  go_ret
  exact⟨jv,aX⟩):p:=h
theorem mg.calls (ak:ByteArray) (au:Int) (az aJ:ByteArray) (aD:Bool) (r:ByteArray) (w:World) (h:mg.f ak au az aJ aD=some r) (HT0:mX w) :
  Calls Tryz.prog 154 #[.agg #[.string ak,.int .i64 au,.string az,.string aJ,.bool aD]] w fun e w'=>e = .returned (.string r)/\Below w.heap.size w w':=by
 have HT:=aa.mk HT0;clear HT0;have Ke:=Tryz.underlying92;have HB:=aa.mk (Below.refl w.heap.size w);have H:=aa.mk h;clear h;unfold mg.f at H;rcases jw H with⟨c2,-,-,H⟩|⟨c2,-,-,H⟩
 ·obtain⟨jc,nD⟩:=kT c2;clear c2;exact mg.e0
 ·obtain⟨jc,nD⟩:=kU c2;obtain⟨akm,A5,H⟩:=nP H;rcases jw H with⟨c6,pq,jy,H⟩|⟨c6,-,-,H⟩
  ·try have agN:=eq_false (Nat.not_lt.2 c6)
   exact mg.e0
  ·exact absurd H.out (by simp)

def ni.f (ak:ByteArray) (au:Int) (az:ByteArray) (aJ:ByteArray) (aD:Bool):Option (ByteArray):=if aD=true then(if az.size+1<=9223372036854775807 then(if(az++(⟨#[63]⟩:af)).size+aJ.size<=9223372036854775807 then(some ((az++(⟨#[63]⟩:af))++aJ)) else(none)) else(none)) else(some az)
theorem ni.e0 {p:Prop} (h:p:=by
  obtain rfl:=aI H
  go_enter Tryz.func155,Tryz.ntmps155
  go_wp2_with(first|((with_reducible refine lT 1 rfl ?_);refine jL #[.string ak,.int .i64 au,.string az,.string aJ,.bool false] 92 ?_;intro aur hg jH hbox hb;have WT:=aa.mk (hbox);have aus:=lJ hg;replace HB:=fw hb;clear hb hbox hg;have _:=jK WT;have _:=pJ WT)|((with_reducible refine lT 1 rfl ?_);refine jL #[.string ak,.int .i64 au,.string az,.string aJ,.bool true] 92 ?_;intro aur hg gG hbox hb;have WT:=aa.mk (hbox);have aus:=lJ hg;replace HB:=fw hb;clear hb hbox hg;have _:=jK WT;have _:=pJ WT))
  go_ret
  exact⟨jv,aX⟩):p:=h
theorem ni.calls (ak:ByteArray) (au:Int) (az aJ:ByteArray) (aD:Bool) (r:ByteArray) (w:World) (h:ni.f ak au az aJ aD=some r) :
  Calls Tryz.prog 155 #[.agg #[.string ak,.int .i64 au,.string az,.string aJ,.bool aD]] w fun e w'=>e = .returned (.string r)/\Below w.heap.size w w':=by
 have Ke:=Tryz.underlying92;have HB:=aa.mk (Below.refl w.heap.size w);have H:=h;clear h;unfold ni.f at H;replace H:=gB H;rcases H with⟨rfl,H⟩|⟨rfl,H⟩
 ·replace H:=gN H;obtain⟨c3,nE,cB,H⟩:=H;try have Mv:=eq_false (Nat.not_lt.2 c3)
  replace H:=gN H;obtain⟨c4,qy,jr,H⟩:=H;try have WU:=eq_false (Nat.not_lt.2 c4)
  try(have GG:=c4;simp only[ByteArray.size_append,si,List.length_cons,List.length_nil,Nat.zero_add,Nat.reduceAdd] at GG;replace GG:=eq_false (Nat.not_lt.2 GG))
  exact ni.e0
 ·exact ni.e0


def iC.f (ak:ByteArray) (au:Int) (az:ByteArray) (aJ:ByteArray) (aD:Bool):Option (ByteArray):=if 7+ak.size<=9223372036854775807 then((mg.f ak au az aJ aD).bind fun agO=>(if((⟨#[104,116,116,112,58,47,47]⟩:af)++ak).size+agO.size<=9223372036854775807 then((ni.f ak au az aJ aD).bind fun akn=>(if(((⟨#[104,116,116,112,58,47,47]⟩:af)++ak)++agO).size+akn.size<=9223372036854775807 then(some ((((⟨#[104,116,116,112,58,47,47]⟩:af)++ak)++agO)++akn)) else(none))) else(none))) else(none)
def iC.T1 : Bool×List (List Nat×List Nat):=(true,[([],[]),([0],[0]),([1],[1]),([],[]),([3],[3]),([2,4],[2,4]),([],[]),([6,4],[6]),([5,7],[5,7]),([8,7,0,1,2,3,4,5,6,7,8],[8])])
def iC.B1 : List Nat:=[0,1,3,0,8,31,0,88,255,511]
theorem iC.yo : nL .any (opsOf Tryz.f105 1)=iC.T1:=by kernel_rfl
theorem iC.rP : jf iC.T1.2 iC.B1=true:=by kernel_rfl
theorem iC.calls (ak:ByteArray) (au:Int) (az aJ:ByteArray) (aD:Bool) (r:ByteArray) (w:World) (h:iC.f ak au az aJ aD=some r) (HT0:mX w) :
  Calls Tryz.prog 105 #[.agg #[.string ak,.int .i64 au,.string az,.string aJ,.bool aD]] w fun e w'=>e = .returned (.string r)/\Below w.heap.size w w':=by
 have HT:=aa.mk HT0;clear HT0;have Ke:=Tryz.underlying92;have HB:=aa.mk (Below.refl w.heap.size w);have H:=aa.mk h;clear h;unfold iC.f at H;rcases jw H with⟨c2,nD,jc,H⟩|⟨c2,-,-,H⟩
 ·try have agP:=eq_false (Nat.not_lt.2 c2)
  obtain⟨agO,A3,H⟩:=nP H;obtain⟨c4,qy,jr,H⟩:=nZ H;try have WU:=eq_false (Nat.not_lt.2 c4)
  try(have GG:=c4;simp only[ByteArray.size_append,si,List.length_cons,List.length_nil,Nat.zero_add,Nat.reduceAdd] at GG;replace GG:=eq_false (Nat.not_lt.2 GG))
  obtain⟨akn,A5,H⟩:=nP H;obtain⟨c6,pq,jy,H⟩:=nZ H;try have agN:=eq_false (Nat.not_lt.2 c6)
  try(have OA:=c6;simp only[ByteArray.size_append,si,List.length_cons,List.length_nil,Nat.zero_add,Nat.reduceAdd] at OA;replace OA:=eq_false (Nat.not_lt.2 OA))
  obtain rfl:=aI H.out;go_enter Tryz.func105,Tryz.ntmps105;try go_wp2_with(((with_reducible refine lT 1 rfl ?_);refine Fp #[.string ak,.int .i64 au,.string az,.string aJ,.bool aD] 92 ?_;clear HB;intro OB gG Lf aCM HB))
  replace Lf:=aa.mk (eu Lf.out);replace HB:=aa.mk (bE HB.out);refine jP (n:=10) (S:=fun w'=>w'.cell? ⟨OB,0,none⟩=some (.string ak)/\w'.cell? ⟨OB,1,none⟩=some (.int .i64 au)/\w'.cell? ⟨OB,2,none⟩=some (.string az)/\w'.cell? ⟨OB,3,none⟩=some (.string aJ)/\w'.cell? ⟨OB,4,none⟩=some (.bool aD)) (ds:=[]) (jK Lf) (fun hHeld=>?_);refine dw iC.yo iC.rP (fun HT_ HW_=>?_);generalize gG.drew=jH at Lf HB hHeld ⊢;repeat(first|refine lC ?_ (hy:=Or.inl ⟨by rfl,xK⟩)|refine dA ?_)
  refine fB 6 (some 9) (hy:=Or.inl ⟨by rfl,xK⟩) ?_;refine fG (fun K hK=>?_);refine EY Tryz.func154 (mg.calls ak au az aJ aD agO _ A3.out (dV HT)) fun mP hb=>?_;replace Lf:=eF (g:=OB) hb;replace HB:=fw hb;(try clear hb)
  refine hK.out _ _ (jK Lf) (fun hHeld=>?_);clear hK K;refine bY ?_;repeat(first|refine dA ?_)
  refine fG (fun K hK=>?_);refine EY Tryz.func155 (ni.calls ak au az aJ aD akn _ A5.out) fun mP hb=>?_;replace Lf:=eF (g:=OB) hb;replace HB:=fw hb;(try clear hb)
  refine hK.out _ _ (jK Lf) (fun hHeld=>?_);clear hK K;refine bY ?_;repeat(first|refine dA ?_)
  refine kI (fP HT_.out dK) ?_;try go_wp2
  go_ret;exact⟨jv,aX⟩
 ·exact absurd H.out (by simp)


def dG.j0 : Nat->Bool->ByteArray->Int->ByteArray->ByteArray->Bool->Option (Bool)
 |0,_,_,_,_,_,_=>none
 |k+1,x25,abD,abE,abF,IZ,UF=>if x25=true then(some false) else((aK.f k IZ).bind fun ay8=>(if ay8=true then((strings_Contains.f IZ (⟨#[35]⟩:af)).bind fun ay9=>(if ay9=true then(some false) else(if UF=true then((iC.f abD abE abF IZ UF).bind fun aqz=>(some (decide ((aqz.size:Int)<=200)))) else(if IZ.toList=([]:aQ) then((iC.f abD abE abF IZ UF).bind fun aqA=>(some (decide ((aqA.size:Int)<=200)))) else(some false))))) else(some false)))
def dG.f (k:Nat) (ak:ByteArray) (au:Int) (az:ByteArray) (aJ:ByteArray) (aD:Bool):Option (Bool):=(jB.f k ak).bind fun aza=>(if aza=true then((bG.f au 1 65535).bind fun azb=>(if azb=true then(if az.toList=([]:aQ) then(dG.j0 k true ak au az aJ aD) else((aY.f k az).bind fun ako=>(dG.j0 k (ako.toList != az.toList) ak au az aJ aD))) else(dG.j0 k true ak au az aJ aD))) else(dG.j0 k true ak au az aJ aD))
def dG.T1 : Bool×List (List Nat×List Nat):=(true,[([],[]),([0],[0]),([1],[1]),([2],[2]),([3,2],[3]),([4],[4]),([5,4],[4,5]),([6,4,4],[4,6]),([7,4],[4,7]),([4,8],[4,8]),([9,7],[9]),([10],[10]),([11,10],[10,11]),([12,10],[10,12]),([10,13],[10,13]),([14,10],[14]),([15],[15]),([16,15],[15,16]),([17,15,15],[15,17]),([15],[15]),([19,15],[15,19]),([18,20,15],[15,18,20]),([15,21],[15,21])])
def dG.B1 : List Nat:=[0,1,3,7,15,31,63,127,255,511,1023,2047,4095,8191,16383,32767,65535,131071,262143,65535,589823,2097151,4194303]
theorem dG.yo : nL .any (opsOf Tryz.f153 1)=dG.T1:=by kernel_rfl
theorem dG.rP : jf dG.T1.2 dG.B1=true:=by kernel_rfl
theorem dG.e0 {p:Prop} (h:p:=by
  replace H:=aa.mk H
  try go_wp2
  replace sw:=aa.mk (eu sw.out)
  replace HB:=aa.mk (bE HB.out)
  refine jP (n:=23) (S:=fun w'=>w'.cell? ⟨xQ,0,none⟩=some (.string ak)/\w'.cell? ⟨xQ,1,none⟩=some (.int .i64 au)/\w'.cell? ⟨xQ,2,none⟩=some (.string az)/\w'.cell? ⟨xQ,3,none⟩=some (.string aJ)/\w'.cell? ⟨xQ,4,none⟩=some (.bool aD)) (ds:=[]) (jK sw) (fun hHeld=>?_);refine dw dG.yo dG.rP (fun HT_ HW_=>?_)
  generalize w3.drew=gG at sw HB hHeld ⊢
  repeat(first|refine lC ?_ (hy:=Or.inl ⟨by rfl,xK⟩)|refine dA ?_|(refine fG (fun K hK=>?_);refine jZ Tryz.func198 dK rfl #[.string ak] (by rfl) rfl rfl Bd ?_;(with_reducible refine(jB.calls k ak false _ A4.out).mono ?_);rintro e wS ⟨rfl,hb⟩;refine⟨_,rfl,?_⟩;replace sw:=eF (g:=xQ) hb;replace HB:=fw hb;clear hb;refine hK.out _ _ (jK sw) (fun hHeld=>?_);clear hK K;refine bY ?_)|(refine fG (fun K hK=>?_);refine jZ Tryz.func198 dK rfl #[.string ak] (by rfl) rfl rfl Bd ?_;(with_reducible refine(jB.calls k ak true _ A4.out).mono ?_);rintro e jH ⟨rfl,hb⟩;refine⟨_,rfl,?_⟩;replace sw:=eF (g:=xQ) hb;replace HB:=fw hb;clear hb;refine hK.out _ _ (jK sw) (fun hHeld=>?_);clear hK K;refine bY ?_)|(refine fG (fun K hK=>?_);refine jZ Tryz.func65 dK rfl #[.int .i64 au,.int .i64 1,.int .i64 65535] (by rfl) rfl rfl Bd ?_;(with_reducible refine(bG.calls au 1 65535 false _ A6.out).mono ?_);rintro e w' ⟨rfl,⟨nd,rfl⟩⟩;refine⟨_,rfl,?_⟩;refine hK.out _ _ (jK sw) (fun hHeld=>?_);clear hK K;refine bY ?_)|(refine fG (fun K hK=>?_);refine jZ Tryz.func65 dK rfl #[.int .i64 au,.int .i64 1,.int .i64 65535] (by rfl) rfl rfl Bd ?_;(with_reducible refine(bG.calls au 1 65535 true _ A6.out).mono ?_);rintro e w' ⟨rfl,⟨nd,rfl⟩⟩;refine⟨_,rfl,?_⟩;refine hK.out _ _ (jK sw) (fun hHeld=>?_);clear hK K;refine bY ?_))
  refine kI (fP HT_.out dK) ?_
  try go_wp2
  go_meet
  case rel=>exact⟨_,(true),bR,H,⟨tT⟩,⟨oQ⟩,⟨aX⟩⟩):p:=h
theorem dG.e1 {p:Prop} (h:p:=by
  obtain rfl:=aI H
  have _:=jK sw
  have _:=pJ sw
  go_wp2_with(first|((with_reducible refine cZ 107 rfl ?_);refine mM 28 rfl Tryz.func107 (aK.calls oz aJ  false _ A20.out) fun nd=>?_)|((with_reducible refine cZ 107 rfl ?_);refine mM 28 rfl Tryz.func107 (aK.calls oz aJ  true _ A20.out) fun nd=>?_)|(go_at_call 148;(with_reducible refine(strings_Contains.calls aJ (⟨#[35]⟩:af) false _ Wj.out ?hT).mono ?_);(case hT=>exact dV HT);rintro e w' ⟨rfl,⟨nd,rfl⟩⟩)|((with_reducible refine cZ 105 rfl ?_);refine iW 46 rfl Tryz.func105 (iC.calls ak au az aJ false aqA _ ZP.out (dV HT)) fun Af hb HB=>?_;replace sw:=eF (g:=xQ) hb;clear hb)|((with_reducible refine cZ 105 rfl ?_);refine iW 46 rfl Tryz.func105 (iC.calls ak au az aJ true aqz _ A26.out (dV HT)) fun uo hb HB=>?_;replace sw:=eF (g:=xQ) hb;clear hb)|(go_at_call 148;(with_reducible refine(strings_Contains.calls aJ (⟨#[35]⟩:af) true _ Wj.out ?hT).mono ?_);(case hT=>exact dV HT);rintro e w' ⟨rfl,⟨nd,rfl⟩⟩))
  go_ret
  exact⟨jv,aX⟩):p:=h
theorem dG.calls (k:Nat) (ak:ByteArray) (au:Int) (az aJ:ByteArray) (aD r:Bool) (w:World) (h:dG.f k ak au az aJ aD=some r) (HT0:mX w) :
  Calls Tryz.prog 153 #[.agg #[.string ak,.int .i64 au,.string az,.string aJ,.bool aD]] w fun e w'=>e = .returned (.bool r)/\Below w.heap.size w w':=by
 have HT:=aa.mk HT0;clear HT0;have Ke:=Tryz.underlying92;have HB:=aa.mk (Below.refl w.heap.size w);have H:=h;clear h;unfold dG.f at H;have qz:=aa.mk H;clear H;go_enter Tryz.func153,Tryz.ntmps153;go_upto_region 1 with(first|((with_reducible refine lT 1 rfl ?_);refine Fp #[.string ak,.int .i64 au,.string az,.string aJ,.bool aD] 92 ?_;clear HB;intro xQ w3 sw aCN HB));(try simp only[Act.put,List.setIfInBounds_toArray,List.set_cons_zero,List.set_cons_succ])
 go_cut [25] (fun v25 wc=>∃(kq:Nat) (agQ:Bool),v25 = .bool agQ/\aa (dG.j0 kq agQ ak au az aJ aD=some r)/\aa (kq<=k)/\aa (wc.heap[xQ]? = some (.cells #[.string ak,.int .i64 au,.string az,.string aJ,.bool aD] 92 (0,0)))/\aa (Below w.heap.size w wc))
 case first=>
  have H:=qz.out;clear qz;replace H:=xE H;rcases H with⟨A4,H⟩|⟨A4,H⟩
  ·replace H:=xE H;rcases H with⟨A6,H⟩|⟨A6,H⟩
   ·replace H:=gI H;rcases H with⟨c8,-,-,H⟩|⟨c8,-,-,H⟩
    ·have mU:(az.toList==([]:aQ))=true:=beq_iff_eq.mpr c8;have Z5:az.toList.isEmpty=true:=List.isEmpty_iff.mpr c8;have za:(az.toList != ([]:aQ))=false:=bne_eq_false_iff_eq.mpr c8;clear c8;(first|rw[mU]|rw[Z5]|(simp only[dU,fK];rw[mU])|skip)
     exact dG.e0
    ·have mU:(az.toList==([]:aQ))=false:=beq_eq_false_iff_ne.mpr c8;have Z5:az.toList.isEmpty=false:=Bool.eq_false_iff.mpr (fun h_=>c8 (List.isEmpty_iff.mp h_));have za:(az.toList != ([]:aQ))=true:=bne_iff_ne.mpr c8;(first|rw[mU]|rw[Z5]|(simp only[dU,fK];rw[mU])|skip)
     replace H:=gD H;obtain⟨ako,M3,H⟩:=H;replace H:=aa.mk H;try go_wp2
     replace sw:=aa.mk (eu sw.out);replace HB:=aa.mk (bE HB.out);refine jP (n:=23) (S:=fun w'=>w'.cell? ⟨xQ,0,none⟩=some (.string ak)/\w'.cell? ⟨xQ,1,none⟩=some (.int .i64 au)/\w'.cell? ⟨xQ,2,none⟩=some (.string az)/\w'.cell? ⟨xQ,3,none⟩=some (.string aJ)/\w'.cell? ⟨xQ,4,none⟩=some (.bool aD)) (ds:=[]) (jK sw) (fun hHeld=>?_);refine dw dG.yo dG.rP (fun HT_ HW_=>?_);generalize w3.drew=gG at sw HB hHeld ⊢;repeat(first|refine lC ?_ (hy:=Or.inl ⟨by rfl,xK⟩)|refine dA ?_)
     refine fG (fun K hK=>?_);refine EY Tryz.func198 (jB.calls k ak true _ A4.out) fun mP hb=>?_;replace sw:=eF (g:=xQ) hb;replace HB:=fw hb;(try clear hb)
     refine hK.out _ _ (jK sw) (fun hHeld=>?_);clear hK K;refine bY ?_;repeat(first|refine lC ?_ (hy:=Or.inl ⟨by rfl,xK⟩)|refine dA ?_)
     refine fG (fun K hK=>?_);refine BZ Tryz.func65 (bG.calls au 1 65535 true _ A6.out) fun nd=>?_;refine hK.out _ _ (jK sw) (fun hHeld=>?_);clear hK K;refine bY ?_;repeat(first|refine lC ?_ (hy:=Or.inl ⟨by rfl,xK⟩)|refine dA ?_)
     refine bq 19 (some 22) ?_;refine fB 20 (some 23) (hy:=Or.inl ⟨by rfl,xK⟩) ?_;refine fG (fun K hK=>?_);refine EY Tryz.func152 (aY.calls k az ako _ M3.out) fun mP hb=>?_;replace sw:=eF (g:=xQ) hb;replace HB:=fw hb;(try clear hb)
     refine hK.out _ _ (jK sw) (fun hHeld=>?_);clear hK K;refine bY ?_;repeat(first|refine dA ?_)
     refine kI (fP HT_.out dK) ?_;try go_wp2
     go_meet
     case rel=>exact⟨_,((ako.toList != az.toList)),bR,H,⟨tT⟩,⟨oQ⟩,⟨aX⟩⟩
   ·exact dG.e0
  ·exact dG.e0
 case rest=>
  clear qz;obtain⟨kq,agQ,rfl,HA,tC,sw,HB⟩:=hcut;cases kq with
  |zero=>exact absurd HA.out (by simp[dG.j0])
  |succ oz=>
   have H:=HA.out;clear HA;simp only[dG.j0] at H;replace H:=gB H;rcases H with⟨rfl,H⟩|⟨rfl,H⟩
   ·obtain rfl:=aI H;go_wp2;go_ret;exact⟨jv,aX⟩
   ·replace H:=xE H;rcases H with⟨A20,H⟩|⟨A20,H⟩
    ·replace H:=xE H;rcases H with⟨Wj,H⟩|⟨Wj,H⟩
     ·exact dG.e1
     ·replace H:=gB H;rcases H with⟨rfl,H⟩|⟨rfl,H⟩
      ·replace H:=gD H;obtain⟨aqz,A26,H⟩:=H;exact dG.e1
      ·replace H:=gI H;rcases H with⟨Sg,-,-,H⟩|⟨Sg,-,-,H⟩
       ·obtain⟨IU,IV⟩:=kT Sg;clear Sg;replace H:=gD H;obtain⟨aqA,ZP,H⟩:=H;exact dG.e1
       ·obtain⟨IU,IV⟩:=kU Sg;exact dG.e1
    ·exact dG.e1


mutual
def aU.j0 : Nat->ByteArray->Bool->Option (ByteArray×Int×ByteArray×ByteArray×Bool×Bool)
 |0,_,_=>none
 |k+1,x0,x34=>if x34=true then(some ((⟨#[]⟩:af),0,(⟨#[]⟩:af),(⟨#[]⟩:af),false,false)) else(if 7<=(x0.size:Int) then((strings_IndexAny.f (x0.extract 7 x0.size) (⟨#[47,63]⟩:af)).bind fun agR=>(if agR<0 then(aU.j1 k (x0.extract 7 x0.size) ((x0.extract 7 x0.size).size:Int)) else(aU.j1 k (x0.extract 7 x0.size) agR))) else(none))
def aU.j1 : Nat->ByteArray->Int->Option (ByteArray×Int×ByteArray×ByteArray×Bool×Bool)
 |0,_,_=>none
 |k+1,x4,x5=>if 0<=x5 then(if x5<=(x4.size:Int) then((strings_Cut.f (x4.extract 0 (x5:Int).toNat) (⟨#[58]⟩:af)).bind fun agS=>((qB.f (x4.extract (x5:Int).toNat x4.size)).bind fun Su=>((jF.f agS.1).bind fun GH=>(if agS.2.2=true then((lS.f agS.2.1).bind fun aov=>(if aov.2=true then(aU.j2 k GH aov.1 Su.2.2.1 Su.2.2.2.1 Su.2.2.2.2) else(some ((⟨#[]⟩:af),0,(⟨#[]⟩:af),(⟨#[]⟩:af),false,false)))) else(aU.j2 k GH 80 Su.2.2.1 Su.2.2.2.1 Su.2.2.2.2))))) else(none)) else(none)
def aU.j2 : Nat->ByteArray->Int->ByteArray->ByteArray->Bool->Option (ByteArray×Int×ByteArray×ByteArray×Bool×Bool)
 |0,_,_,_,_,_=>none
 |k+1,I1,I4,M8,I5,I6=>if M8.toList=([]:aQ) then(aU.j3 k I1 I4 (⟨#[47]⟩:af) I5 I6) else(aU.j3 k I1 I4 M8 I5 I6)
def aU.j3 : Nat->ByteArray->Int->ByteArray->ByteArray->Bool->Option (ByteArray×Int×ByteArray×ByteArray×Bool×Bool)
 |0,_,_,_,_,_=>none
 |k+1,I1,I4,M8,I5,I6=>(aY.f k M8).bind fun QR=>((dG.f k I1 I4 QR I5 I6).bind fun azc=>(if azc=true then(some (I1,I4,QR,I5,I6,true)) else(some ((⟨#[]⟩:af),0,(⟨#[]⟩:af),(⟨#[]⟩:af),false,false))))
end
def aU.f (k:Nat) (a0:ByteArray):Option (ByteArray×Int×ByteArray×ByteArray×Bool×Bool):=if(a0.size:Int)>200 then(aU.j0 k a0 true) else((aK.f k a0).bind fun azd=>(if azd=true then((strings_Contains.f a0 (⟨#[35]⟩:af)).bind fun aze=>(if aze=true then(aU.j0 k a0 true) else(if(a0.size:Int)<7 then(aU.j0 k a0 true) else(if 0<=7 then(if 7<=(a0.size:Int) then((jF.f (a0.extract 0 7)).bind fun akp=>(aU.j0 k a0 (akp.toList != ([104,116,116,112,58,47,47]:aQ)))) else(none)) else(none))))) else(aU.j0 k a0 true)))
theorem aU.e0 {p:Prop} (h:p:=by
  replace H:=aa.mk H
  go_wp2_with(first|(go_at_call 107;(with_reducible refine(aK.calls k a0  false _ A5.out).mono ?_);rintro e w' ⟨rfl,⟨nd,rfl⟩⟩)|(go_at_call 107;(with_reducible refine(aK.calls k a0  true _ A5.out).mono ?_);rintro e w' ⟨rfl,⟨nd,rfl⟩⟩)|(go_at_call 148;(with_reducible refine(strings_Contains.calls a0 (⟨#[35]⟩:af) false _ A7.out ?hT).mono ?_);(case hT=>exact dV HT);rintro e w' ⟨rfl,⟨nd,rfl⟩⟩)|(go_at_call 148;(with_reducible refine(strings_Contains.calls a0 (⟨#[35]⟩:af) true _ A7.out ?hT).mono ?_);(case hT=>exact dV HT);rintro e w' ⟨rfl,⟨nd,rfl⟩⟩))
  go_meet
  case rel=>exact⟨_,(true),bR,H,⟨tT⟩,⟨oQ⟩,⟨aX⟩⟩):p:=h
theorem aU.e1 {p:Prop} (h:p:=by
  go_wp2_with(first|((with_reducible refine cZ 152 rfl ?_);refine iW 77 rfl Tryz.func152 (aY.calls akq zK QR _ A50.out) fun wS hb HB=>?_;replace oW:=eF (g:=uY) hb;replace oZ:=eF (g:=I7) hb;clear hb;have _:=jK oZ;have _:=pJ oZ)|((with_reducible refine cZ 153 rfl ?_);refine iW 80 rfl Tryz.func153 (dG.calls akq GH qC QR Kh Ki false _ A51.out (dV HT)) fun Af hb HB=>?_;replace oW:=eF (g:=uY) hb;replace oZ:=eF (g:=I7) (o:=.cells #[.string GH,.int .i64 qC,.string QR,.string Kh,.bool Ki] 92 (0,0)) hb;clear hb;have _:=jK oW;have _:=pJ oW)|((with_reducible refine cZ 151 rfl ?_);refine iW 63 rfl Tryz.func151 (lS.calls aqB aqC false _ A36.out (dV HT)) fun mP hb HB=>?_;replace oW:=eF (g:=uY) hb;replace oZ:=eF (g:=I7) (o:=.cells #[.string GH,.int .i64 80,.string Kj,.string Kh,.bool Ki] 92 (0,0)) hb;clear hb;have aCO:=xz.out;have aCP:=xA.out;have _:=jK oW;have _:=pJ oW))
  refine TD uY 92 #[.string (⟨#[]⟩:af),.int .i64 0,.string (⟨#[]⟩:af),.string (⟨#[]⟩:af),.bool false] Tryz.underlying92 ?_
  exact⟨jv,aX⟩):p:=h
theorem aU.calls (k:Nat) (a0 r1:ByteArray) (r2:Int) (r3 r4:ByteArray) (r5 r6:Bool) (w:World) (h:aU.f k a0=some (r1,r2,r3,r4,r5,r6)) (HT0:mX w) :
  Calls Tryz.prog 104 #[.string a0] w fun e w'=>e = .returned (.tuple #[.agg #[.string r1,.int .i64 r2,.string r3,.string r4,.bool r5],.bool r6])/\Below w.heap.size w w':=by
 have HT:=aa.mk HT0;clear HT0;have Ke:=Tryz.underlying92;have HB:=aa.mk (Below.refl w.heap.size w);have H:=h;clear h;unfold aU.f at H;have qz:=aa.mk H;clear H;go_enter Tryz.func104,Tryz.ntmps104;go_upto_region 1 with(first|((with_reducible refine lT 2 rfl ?_);refine yM #[.string (⟨#[]⟩:af),.int .i64 0,.string (⟨#[]⟩:af),.string (⟨#[]⟩:af),.bool false] 92 ?_;intro uY hg w3 hbox hb;have oW:=aa.mk (hbox);have aCQ:=lJ hg;replace HB:=fw hb;clear hb hbox hg));(try simp only[Act.put,List.setIfInBounds_toArray,List.set_cons_zero,List.set_cons_succ])
 go_cut [34] (fun v34 wc=>∃(kq:Nat) (agT:Bool),v34 = .bool agT/\aa (aU.j0 kq a0 agT=some (r1,r2,r3,r4,r5,r6))/\aa (kq<=k)/\aa (wc.heap[uY]? = some (.cells #[.string (⟨#[]⟩:af),.int .i64 0,.string (⟨#[]⟩:af),.string (⟨#[]⟩:af),.bool false] 92 (0,0)))/\aa (Below w.heap.size w wc))
 case first=>
  have H:=qz.out;clear qz;replace H:=gI H;rcases H with⟨c4,-,-,H⟩|⟨c4,-,-,H⟩
  ·have jr:decide (200<(a0.size:Int))=true:=bK c4;have qy:decide (200<a0.size)=true:=bK ae;clear c4;(first|rw[jr]|(simp only[dU,fK];rw[jr])|skip)
   replace H:=aa.mk H;go_wp2;go_meet
   case rel=>exact⟨_,(true),bR,H,⟨tT⟩,⟨oQ⟩,⟨aX⟩⟩
  ·have jr:decide (200<(a0.size:Int))=false:=bQ c4;have qy:decide (200<a0.size)=false:=bQ ae;clear c4;(first|rw[jr]|(simp only[dU,fK];rw[jr])|skip)
   replace H:=xE H;rcases H with⟨A5,H⟩|⟨A5,H⟩
   ·replace H:=xE H;rcases H with⟨A7,H⟩|⟨A7,H⟩
    ·exact aU.e0
    ·replace H:=gI H;rcases H with⟨c9,pg,-,H⟩|⟨c9,pg,-,H⟩
     ·have xy:decide (a0.size<7)=true:=bK ae;clear c9;exact aU.e0
     ·have xy:decide (a0.size<7)=false:=bQ ae;clear c9;replace H:=gN H;obtain⟨-,Aw,pX,H⟩:=H;replace H:=gN H;obtain⟨-,Aq,oV,H⟩:=H;replace H:=gD H;obtain⟨akp,JR,H⟩:=H;replace H:=aa.mk H;go_wp2_with(first|(go_at_call 107;(with_reducible refine(aK.calls k a0  true _ A5.out).mono ?_);rintro e w' ⟨rfl,⟨nd,rfl⟩⟩)|(go_at_call 148;(with_reducible refine(strings_Contains.calls a0 (⟨#[35]⟩:af) false _ A7.out ?hT).mono ?_);(case hT=>exact dV HT);rintro e w' ⟨rfl,⟨nd,rfl⟩⟩)|(go_at_call 89;(with_reducible refine(jF.calls (a0.extract 0 7) akp _ JR.out).mono ?_);rintro e gG ⟨rfl,hb⟩;replace oW:=eF (g:=uY) hb;replace HB:=fw hb;clear hb));go_meet
      case rel=>exact⟨_,((akp.toList != ([104,116,116,112,58,47,47]:aQ))),bR,H,⟨tT⟩,⟨oQ⟩,⟨aX⟩⟩
   ·exact aU.e0
 case rest=>
  clear qz;obtain⟨kq,agT,rfl,HA,tC,oW,HB⟩:=hcut;cases kq with
  |zero=>exact absurd HA.out (by simp[aU.j0])
  |succ oz=>
   have H:=HA.out;clear HA;simp only[aU.j0] at H;replace H:=gB H;rcases H with⟨rfl,H⟩|⟨rfl,H⟩
   ·simp only[Option.some.injEq,Prod.mk.injEq] at H;obtain⟨rfl,rfl,rfl,rfl,rfl,rfl⟩:=H;have _:=jK oW;have _:=pJ oW;go_wp2;refine TD uY 92 #[.string (⟨#[]⟩:af),.int .i64 0,.string (⟨#[]⟩:af),.string (⟨#[]⟩:af),.bool false] Tryz.underlying92 ?_;exact⟨jv,aX⟩
   ·obtain⟨GI,aqD⟩:∃ z_:ByteArray,a0.extract 7 a0.size=z_:=⟨_,rfl⟩;rw[aqD] at H;replace H:=gI H;rcases H with⟨-,Bu,sS,H⟩|⟨c16,-,-,H⟩
    ·replace H:=gD H;obtain⟨agR,WV,H⟩:=H;have aqE:=aa.mk H;clear H;go_upto_if 41 with(first|((with_reducible refine cZ 149 rfl ?_);refine iW 39 rfl Tryz.func149 (strings_IndexAny.calls GI (⟨#[47,63]⟩:af) agR _ WV.out) fun w19 hb _=>?_;have kR:=eF (g:=uY) hb;have lF:=fw hb;clear oW;clear HB;have oW:=kR;have HB:=lF;clear kR lF;(try clear hb)));(try simp only[Act.put,List.setIfInBounds_toArray,List.set_cons_zero,List.set_cons_succ])
     go_cut [5] (fun v5 wc=>∃(kq:Nat) (OC:Int),v5 = .int .i64 OC/\aa (aU.j1 kq GI OC=some (r1,r2,r3,r4,r5,r6))/\aa (kq<=oz)/\aa (wc.heap[uY]? = some (.cells #[.string (⟨#[]⟩:af),.int .i64 0,.string (⟨#[]⟩:af),.string (⟨#[]⟩:af),.bool false] 92 (0,0)))/\aa (Below w.heap.size w wc))
     case first=>
      have H:=aqE.out;clear aqE;replace H:=gI H;rcases H with⟨-,uu,-,H⟩|⟨-,uu,-,H⟩
      ·(first|rw[uu]|(simp only[dU,fK];rw[uu])|skip)
       replace H:=aa.mk H;go_wp2;go_meet
       case rel=>exact⟨_,((GI.size:Int)),bR,H,⟨Qt⟩,⟨oQ⟩,⟨aX⟩⟩
      ·(first|rw[uu]|(simp only[dU,fK];rw[uu])|skip)
       replace H:=aa.mk H;go_wp2;go_meet
       case rel=>exact⟨_,(agR),bR,H,⟨Qt⟩,⟨oQ⟩,⟨aX⟩⟩
     case rest=>
      clear aqE;try clear c16
      try clear sS
      try clear Bu
      obtain⟨kq,OC,rfl,HA,akr,oW,HB⟩:=hcut;cases kq with
      |zero=>exact absurd HA.out (by simp[aU.j1])
      |succ azf=>
       have H:=HA.out;clear HA;simp only[aU.j1] at H;replace H:=gN H;obtain⟨-,Dm,uw,H⟩:=H;replace H:=gN H;obtain⟨-,Sv,Lg,H⟩:=H;replace H:=gD H;obtain⟨⟨aut,aqB,azg⟩,A23,H⟩:=H;dsimp only at H;have yI:=eq_true (ay bM:0<=OC);have wz:=eq_true (ay bM:OC<=(GI.size:Int));replace H:=gD H;obtain⟨⟨auu,auv,Kj,Kh,Ki⟩,A26,H⟩:=H;dsimp only at H;replace H:=gD H;obtain⟨GH,A27,H⟩:=H;have aqF:=aa.mk H;clear H;go_upto_if 60 with(first|((with_reducible refine cZ 86 rfl ?_);refine mM 48 rfl Tryz.func86 (strings_Cut.calls (GI.extract 0 (OC:Int).toNat) (⟨#[58]⟩:af) aut aqB azg _ A23.out (dV HT)) fun nd=>?_;(try(rw[ko wc];generalize hq_:World.drewN wc _=wc;have kR:aa (wc.heap[uY]? = some (.cells #[.string (⟨#[]⟩:af),.int .i64 0,.string (⟨#[]⟩:af),.string (⟨#[]⟩:af),.bool false] 92 (0,0))):=⟨by rw[<- hq_];exact(by(with_reducible repeat(first|refine kH ?_ _|refine eu ?_|refine lX ?_ _));exact oW.out)⟩;have lF:aa (Below w.heap.size w wc):=⟨by rw[<- hq_];exact aX⟩;clear oW HB hq_;have oW:=kR;have HB:=lF;clear kR lF)))|((with_reducible refine cZ 150 rfl ?_);refine iW 55 rfl Tryz.func150 (qB.calls (GI.extract (OC:Int).toNat GI.size) auu auv Kj Kh Ki _ A26.out (dV HT)) fun w29 hb _=>?_;have kR:=eF (g:=uY) hb;have lF:=fw hb;clear oW;clear HB;have oW:=kR;have HB:=lF;clear kR lF;(try clear hb))|((with_reducible refine lT 9 rfl ?_);refine yM #[.string (⟨#[]⟩:af),.int .i64 0,.string (⟨#[]⟩:af),.string (⟨#[]⟩:af),.bool false] 92 ?_;intro I7 hg w30 hbox hb;have kR:=eF (g:=uY) hb;have lF:=fw hb;have uy:=aa.mk (hbox);have OD:=lJ hg;have n4_:=lJ hg;have n5_:=CZ (g:=uY) hg;have n6_:=DL n5_;clear oW;clear HB;have oW:=kR;have HB:=lF;have oZ:=uy;have aCR:=OD;have aCS:=n4_;have xz:=n5_;have xA:=n6_;clear kR lF uy OD n4_ n5_ n6_;clear hb hbox hg;have aCT:=xA.out;have aCU:=xz.out;have _:=jK oZ;have _:=pJ oZ)|((with_reducible refine cZ 89 rfl ?_);refine iW 57 rfl Tryz.func89 (jF.calls aut GH _ A27.out) fun w33 hb _=>?_;have kR:=eF (g:=uY) hb;have lF:=eF (g:=I7) (o:=.cells #[.string auu,.int .i64 auv,.string Kj,.string Kh,.bool Ki] 92 (0,0)) hb;have uy:=fw hb;clear oW;clear oZ;clear HB;have oW:=kR;have oZ:=lF;have HB:=uy;clear kR lF uy;(try clear hb);have _:=jK oZ;have _:=pJ oZ));(try simp only[Act.put,List.setIfInBounds_toArray,List.set_cons_zero,List.set_cons_succ])
       go_cut [] (fun wc=>∃(kq:Nat) (GJ:ByteArray) (GK:Int) (GL:ByteArray) (GM:ByteArray) (GN:Bool) (qC:Int),aa (aU.j2 kq GH qC Kj Kh Ki=some (r1,r2,r3,r4,r5,r6))/\aa (kq<=azf)/\aa (wc.heap[uY]? = some (.cells #[.string GJ,.int .i64 GK,.string GL,.string GM,.bool GN] 92 (0,0)))/\aa (wc.heap[I7]? = some (.cells #[.string GH,.int .i64 qC,.string Kj,.string Kh,.bool Ki] 92 (0,0)))/\aa (Below w.heap.size w wc))
       case first=>
        have H:=aqF.out;clear aqF;replace H:=gB H;rcases H with⟨rfl,H⟩|⟨rfl,H⟩
        ·replace H:=gD H;obtain⟨⟨aqC,aFD⟩,A36,H⟩:=H;dsimp only at H;replace H:=gB H;rcases H with⟨rfl,H⟩|⟨rfl,H⟩
         ·replace H:=aa.mk H;go_wp2_with(((with_reducible refine cZ 151 rfl ?_);refine iW 63 rfl Tryz.func151 (lS.calls aqB aqC true _ A36.out (dV HT)) fun jH hb HB=>?_;replace oW:=eF (g:=uY) hb;replace oZ:=eF (g:=I7) (o:=.cells #[.string GH,.int .i64 80,.string Kj,.string Kh,.bool Ki] 92 (0,0)) hb;clear hb;have aCV:=xA.out;have aCW:=xz.out;have _:=jK oZ;have _:=pJ oZ));go_meet
          case rel=>exact⟨_,((⟨#[]⟩:af)),(0),((⟨#[]⟩:af)),((⟨#[]⟩:af)),(false),(aqC),H,⟨by have:=tC.out;have:=akr.out;first|omega|exact Nat.le_refl _⟩,⟨oQ⟩,⟨oQ⟩,⟨aX⟩⟩
         ·simp only[Option.some.injEq,Prod.mk.injEq] at H;obtain⟨rfl,rfl,rfl,rfl,rfl,rfl⟩:=H;exact aU.e1
        ·replace H:=aa.mk H;go_wp2;go_meet
         case rel=>exact⟨_,((⟨#[]⟩:af)),(0),((⟨#[]⟩:af)),((⟨#[]⟩:af)),(false),(80),H,⟨by have:=tC.out;have:=akr.out;first|omega|exact Nat.le_refl _⟩,⟨oQ⟩,⟨oQ⟩,⟨aX⟩⟩
       case rest=>
        clear aqF;try clear c16
        try clear sS
        try clear Bu
        try clear uw
        try clear Dm
        try clear Lg
        try clear Sv
        try clear yI
        try clear wz
        obtain⟨kq,GJ,GK,GL,GM,GN,qC,HA,auw,oW,oZ,HB⟩:=hcut;cases kq with
        |zero=>exact absurd HA.out (by simp[aU.j2])
        |succ azh=>
         have H:=HA.out;clear HA;simp only[aU.j2] at H;have aqG:=aa.mk H;clear H;have atu:=xA.out;have atv:=xz.out;have _:=jK oZ;have _:=pJ oZ;go_upto_if 73 with(fail);go_cut [] (fun wc=>∃(kq:Nat) (zK:ByteArray),aa (aU.j3 kq GH qC zK Kh Ki=some (r1,r2,r3,r4,r5,r6))/\aa (kq<=azh)/\aa (wc.heap[uY]? = some (.cells #[.string GJ,.int .i64 GK,.string GL,.string GM,.bool GN] 92 (0,0)))/\aa (wc.heap[I7]? = some (.cells #[.string GH,.int .i64 qC,.string zK,.string Kh,.bool Ki] 92 (0,0)))/\aa (Below w.heap.size w wc))
         case first=>
          have H:=aqG.out;clear aqG;replace H:=gI H;rcases H with⟨Y0,-,-,H⟩|⟨Y0,-,-,H⟩
          ·have Ay:(Kj.toList==([]:aQ))=true:=beq_iff_eq.mpr Y0;have agU:Kj.toList.isEmpty=true:=List.isEmpty_iff.mpr Y0;have abC:(Kj.toList != ([]:aQ))=false:=bne_eq_false_iff_eq.mpr Y0;clear Y0;(first|rw[Ay]|rw[agU]|(simp only[dU,fK];rw[Ay])|skip)
           replace H:=aa.mk H;have aCX:=xA.out;have aCY:=xz.out;have _:=jK oZ;have _:=pJ oZ;go_wp2;go_meet
           case rel=>exact⟨_,((⟨#[47]⟩:af)),H,⟨by have:=tC.out;have:=akr.out;have:=auw.out;first|omega|exact Nat.le_refl _⟩,⟨oQ⟩,⟨oQ⟩,⟨aX⟩⟩
          ·have Ay:(Kj.toList==([]:aQ))=false:=beq_eq_false_iff_ne.mpr Y0;have agU:Kj.toList.isEmpty=false:=Bool.eq_false_iff.mpr (fun h_=>Y0 (List.isEmpty_iff.mp h_));have abC:(Kj.toList != ([]:aQ))=true:=bne_iff_ne.mpr Y0;(first|rw[Ay]|rw[agU]|(simp only[dU,fK];rw[Ay])|skip)
           replace H:=aa.mk H;go_wp2;go_meet
           case rel=>exact⟨_,(Kj),H,⟨by have:=tC.out;have:=akr.out;have:=auw.out;first|omega|exact Nat.le_refl _⟩,⟨oQ⟩,⟨oQ⟩,⟨aX⟩⟩
         case rest=>
          clear aqG;try clear c16
          try clear sS
          try clear Bu
          try clear uw
          try clear Dm
          try clear Lg
          try clear Sv
          try clear yI
          try clear wz
          obtain⟨kq,zK,HA,aFE,oW,oZ,HB⟩:=hcut;cases kq with
          |zero=>exact absurd HA.out (by simp[aU.j3])
          |succ akq=>
           have H:=HA.out;clear HA;simp only[aU.j3] at H;replace H:=gD H;obtain⟨QR,A50,H⟩:=H;replace H:=xE H;rcases H with⟨A51,H⟩|⟨A51,H⟩
           ·simp only[Option.some.injEq,Prod.mk.injEq] at H;obtain⟨rfl,rfl,rfl,rfl,rfl,rfl⟩:=H;have aCZ:=xA.out;have aC0:=xz.out;have _:=jK oZ;have _:=pJ oZ;go_wp2_with(first|((with_reducible refine cZ 152 rfl ?_);refine iW 77 rfl Tryz.func152 (aY.calls akq zK QR _ A50.out) fun wS hb HB=>?_;replace oW:=eF (g:=uY) hb;replace oZ:=eF (g:=I7) hb;clear hb;have _:=jK oZ;have _:=pJ oZ)|((with_reducible refine cZ 153 rfl ?_);refine iW 80 rfl Tryz.func153 (dG.calls akq GH qC QR Kh Ki true _ A51.out (dV HT)) fun uo hb HB=>?_;replace oW:=eF (g:=uY) hb;replace oZ:=eF (g:=I7) (o:=.cells #[.string GH,.int .i64 qC,.string QR,.string Kh,.bool Ki] 92 (0,0)) hb;clear hb;have _:=jK oZ;have _:=pJ oZ;have _:=jK oW;have _:=pJ oW));refine TD uY 92 #[.string GH,.int .i64 qC,.string QR,.string Kh,.bool Ki] Tryz.underlying92 ?_;exact⟨jv,aX⟩
           ·simp only[Option.some.injEq,Prod.mk.injEq] at H;obtain⟨rfl,rfl,rfl,rfl,rfl,rfl⟩:=H;have aC1:=xA.out;have aC2:=xz.out;have _:=jK oZ;have _:=pJ oZ;exact aU.e1
    ·exact absurd H (by simp)

end Go.Proofs.YtfhllanhldbkkaaGreatDoor.P
