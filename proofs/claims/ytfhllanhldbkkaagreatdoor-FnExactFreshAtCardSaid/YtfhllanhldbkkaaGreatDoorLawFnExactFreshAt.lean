/- The law FnExactFreshAt: its row and its tied card: the program's FreshAt answers what the reference's answers, whatever the arguments; its condition: the library's tables and errors read as the program's text lays them (the card ties that). -/
import Derived.Test.YtfhllanhldbkkaaGreatDoorCards
import Derived.Test.YtfhllanhldbkkaaGreatDoorTie
import Derived.Test.YtfhllanhldbkkaaGreatDoorOpE
import Derived.Test.YtfhllanhldbkkaaGreatDoorPureFnExactFreshAt
import Derived.Carry
import Derived.Lay
import Derived.Stop.Joined
import Derived.Stop.LaidErr
import Derived.SevenTiedAt
namespace Go.Proofs.YtfhllanhldbkkaaGreatDoor.fnExactFreshAt
open Go.ChangeShapes Go.WideShapes Go.ChangeAt Go.RowKit
open Go.ChangeMaps (open_string shut_string)
set_option linter.unusedVariables false
theorem own : ownKnob Tryz.prog.godebug=none:=by kernel_rfl
theorem laidOut : laidOutB Tryz.prog=true:=by kernel_rfl
noncomputable abbrev Dj : List (String × DataW Unit) := [("math/bits.deBruijn32tab", Rows.laid_math_bits_deBruijn32tab), ("math/bits.deBruijn64tab", Rows.laid_math_bits_deBruijn64tab), ("internal/strconv.uint64pow10", Rows.laid_internal_strconv_uint64pow10), ("unicode/utf8.acceptRanges", Rows.laid_unicode_utf8_acceptRanges), ("strconv.ErrRange", Rows.laid_strconv_ErrRange), ("strconv.ErrSyntax", Rows.laid_strconv_ErrSyntax), ("unicode/utf8.first", Rows.laid_unicode_utf8_first)]
theorem Z5 : "*" ++ "errors.errorString" = "*errors.errorString" := by decide
theorem agQ (u : TypeId) (h : Tryz.prog.typeName? 3 u = some "*errors.errorString") : u = 185 :=
  typeName_ptr_named (nm := "errors.errorString") (by rw [Z5]; kernel_rfl) (by kernel_rfl) (by decide) u (by rw [Z5]; exact h)
theorem Ju {W:World} (hL:laidMet Tryz.prog Dj W) (hsh:W.ShapedOpen Tryz.prog):P.nN W:=by
  have h2 : laidMet Tryz.prog [("internal/strconv.uint64pow10", Lib.tabData .u64 Lib.pow10Tab), ("unicode/utf8.acceptRanges", Rows.laid_unicode_utf8_acceptRanges), ("strconv.ErrRange", Rows.laid_strconv_ErrRange), ("strconv.ErrSyntax", Rows.laid_strconv_ErrSyntax), ("unicode/utf8.first", Rows.laid_unicode_utf8_first)] W := hL.tail.tail
  have h4:=h2.tail.tail
  have h5:=h4.tail
  obtain⟨a1,_,hv1,_⟩:=laid_sentinel h4 (g:=3) (ti:=104) (tp:=185) (te:=187) (by kernel_rfl) (by kernel_rfl) Tryz.underlying104 agQ Tryz.underlying185 Tryz.underlying187 rfl rfl Tryz.underlying9 (by kernel_rfl) (by kernel_rfl)
  obtain⟨a2,_,hv2,_⟩:=laid_sentinel h5 (g:=2) (ti:=104) (tp:=185) (te:=187) (by kernel_rfl) (by kernel_rfl) Tryz.underlying104 agQ Tryz.underlying185 Tryz.underlying187 rfl rfl Tryz.underlying9 (by kernel_rfl) (by kernel_rfl)
  have hml:∃ m:Int,W.cell? ⟨0,0,none⟩=some (.int .i64 m):=cell_of_shapedOpen_int (P:=Tryz.prog) (g:=0) (t:=3) (zero:=#[.int .i64 0]) hsh (of_decide_eq_true (by kernel_rfl)) (by kernel_rfl) rfl (by kernel_rfl) (by kernel_rfl) Tryz.underlying3
  refine⟨hml,?_,⟨_,_,by simpa using World.var?_cell (g:=2) (by kernel_rfl) hv2 0⟩,⟨_,_,by simpa using World.var?_cell (g:=3) (by kernel_rfl) hv1 0⟩⟩
  obtain⟨ps,⟨g',t',cs,fuel,p,q,hg',ht',hvar,hd,_,_⟩,_⟩:=h2
  have hg : Tryz.prog.globalNamed "internal/strconv.uint64pow10" = some 1 := by kernel_rfl
  have hty:(Tryz.prog.globals[1]?).map (·.type)=some 173:=by kernel_rfl
  obtain rfl:=Option.some.inj (hg.symm.trans hg')
  obtain rfl:=Option.some.inj (hty.symm.trans ht')
  unfold Lib.TabIs
  rw[hvar,<- Lib.cells_of_tab (n:=20) (e:=156) (by kernel_rfl) (by kernel_rfl) (by kernel_rfl) (by kernel_rfl) hd]
theorem Tx (os:Os) (args:Array Value):laidMetH Tryz.prog Dj ((World.laidAll Tryz.prog os Dj).forCall (fun _ _=>0) ⟨#[],args,[]⟩).memory:=by
  rw[MakeChecks.laidMetH_plain _ _ _ (by kernel_rfl)]
  exact laidMet_laidAll _ (by kernel_rfl) (by kernel_rfl)
set_option maxRecDepth 100000 in
theorem lifted (os:Os) (started:os.Started) (H:Type) (enc:TypeId×Value->H) :
    ReturnsInHanded {} Tryz.checked os 8 .any (fun w args=>(Rows.fnExactFreshAtSpec.pre enc Tryz.prog Tryz.f8 [] false w args/\laidMetH Tryz.prog Dj w)/\sizedMet enc Tryz.prog Tryz.f8 (OpenSpec.ofChange Rows.fnExactFreshAtSpec) false w args)
      (Rows.fnExactFreshAtSpec.post enc Tryz.prog Tryz.f8 false true false false):=by
  refine P.ES (C:=Tryz.checked) (X:=fun w _=>laidMetH Tryz.prog Dj w) (fun _ _ _ hh h=>h.of_heap hh) own started (by kernel_rfl) Tryz.func8
    (ChangeSpec.witness_shaped (enc:=enc) (C:=Tryz.checked) (os:=os) (X:=fun w _=>laidMetH Tryz.prog Dj w) false (World.laidAll Tryz.prog os Dj) #[.agg #[.string ByteArray.empty,.int .i64 0,.int .i64 0,.slice none 0 0,.string ByteArray.empty,.string ByteArray.empty,.int .i64 0,.string ByteArray.empty,.bool false,.slice none 0 0,.string ByteArray.empty],.int .i64 0] 8 (World.laidAll_os _ _ _) (World.shaped_of_ZipB (by kernel_rfl) (by kernel_rfl)) (by kernel_rfl) (by kernel_rfl) (by kernel_rfl) (Tx os _)) ?_
  intro W base args ds gs before hval0 hW hcnd hsz0 hL hsh _
  have hsz:(DataW.weightsEach Tryz.prog (Tryz.f8.params.toList++Rows.fnExactFreshAtSpec.plain.varTypes Tryz.prog) (ds++gs)).all (·<=reachBytes)=true:=hsz0
  have hval:∀(j:Nat) t v,Tryz.f8.params[j]? = some t->args[j]? = some v->Value.okWide Tryz.prog W .any base t v:=hval0
  have hW':=hW
  obtain⟨p,q,hA0,hV,rfl,hfz,hnd⟩:=hW
  have hA:DataW.TrodAll enc Tryz.prog W 0 (fun _=>true) true Tryz.f8.params.toList args.toList ds p:=hA0
  rw[Tryz.params8] at hA hval hsz
  obtain⟨v0,vs0,d0,ds0,p0,q0,hargs,rfl,rfl,h0,r0⟩:=trodAll_cons hA
  obtain⟨v1,vs1,d1,ds1,p1,q1,rfl,rfl,rfl,h1,r1⟩:=trodAll_cons r0
  obtain⟨rfl,rfl,rfl⟩:=trodAll_nil r1
  obtain rfl:args = #[v0,v1]:=by cases args;simp_all
  obtain⟨rfl,rfl⟩:=trodVars_none hV
  have kk0:=h0
  have lt0:∀ x∈p0,x.block<W.heap.size:=by obtain⟨m,hm⟩:=kk0;exact DataW.trod_lt m _ _ _ hm
  obtain⟨cs0,qb,rfl,ht0⟩:=P.NF Tryz.underlying26 (hval 0 26 v0 rfl rfl) h0
  obtain⟨a0,a1,a2,A3,c3,l3,a4,a5,a6,a7,a8,A9,c9,l9,WM,rfl,⟨hC3,hc3,hb3,_⟩,⟨hC9,hc9,hb9,_⟩,z0,z1,z2,_⟩:=P.W9 qb cs0 _ ht0 (P.Xa hsz (j:=0) (t:=26) rfl rfl)
  obtain⟨now,rfl,rfl,rfl,w1⟩:=open_int Tryz.underlying3 (hval 1 3 v1 rfl rfl) h1
  clear hA0 hval0 hsz0 hsz
  have hL2:laidMetH Tryz.prog Dj W:=hL
  rw[MakeChecks.laidMetH_plain _ _ _ (by kernel_rfl)] at hL2
  have htab:=Ju hL2 hsh
  obtain⟨k,hk⟩:=Pure.FnExactFreshAt a0 a1 a2 l3 a4 a5 a6 a7 a8 l9 WM now z0 z1 z2 hb3 hb9 w1
  refine(P.ic.calls k a0 a1 a2 _ _ l3 a4 a5 a6 a7 a8 _ _ l9 WM now true W hC3 hc3 hC9 hc9 hk htab).mono fun e W' ⟨he,bel⟩=>?_
  subst he
  exact⟨_,rfl,_,_,_,[],_,[],hW',trodAll_mk1 (shut_bool Tryz.underlying4 _),(trodAll_cons_mk (Below.trod laidOut (by kernel_rfl) (of_decide_eq_true (by kernel_rfl)) kk0 bel lt0) (trodAll_cons_mk (shut_int Tryz.underlying3 w1) trodAll_mk0)),rfl,bel.frame _,fun h=>by cases h⟩
theorem row_holds : Rows.FnExactFreshAtSaid:=
  OpenClaim.holds_of_wide 8 Tryz.f8 rfl rfl rfl rfl rfl rfl rfl ⟨rfl,rfl,rfl,rfl,rfl⟩ rfl rfl rfl rfl rfl (by kernel_rfl) Tryz.func8 (by kernel_rfl)
    (of_decide_eq_true (by kernel_rfl)) (by unfold Func.isWrapper;first|(rw[if_pos (by decide +kernel)];kernel_rfl)|(rw[if_neg (by decide +kernel)];exact⟨rfl,rfl⟩))
    (fun os started H enc _=>lifted os started H enc)
theorem card_holds : Rows.FnExactFreshAtCardSaid:=
  Claim7.holds_tied_plain_at .later [] [.data, .data, .data, .data, .sentinel, .sentinel, .pinned] true (true, "bddcde135e9c0ca02eed9bb89ab5a5ef7e25ae5db270f3084ef9de104a1cf258") true
    row_holds (fun _ h=>by cases h) (by kernel_rfl) (fun _ h=>by cases h) fnExactFreshAt_row_tie rfl ⟨rfl,rfl⟩ (by kernel_rfl) rfl
    (fun f fn hf hfn=>by
      obtain rfl : f = 8 := Option.some.inj ((show Tryz.prog.funcNamed "loop.example/g00651/laws.FnExactFreshAt" = some 8 by kernel_rfl).symm.trans hf) |>.symm
      obtain rfl:fn=Tryz.f8:=(Option.some.inj (Tryz.func8.symm.trans hfn)).symm
      exact⟨by kernel_rfl,fun j t ht=>by
        rw[Tryz.params8] at ht
        have hm:t∈[26,3]:=by simpa using Array.mem_of_getElem? ht
        have hall:([26,3].all fun u=>!Tryz.prog.wantsStandIn u)=true:=by kernel_rfl
        exact(show Tryz.prog.wantsStandIn t=false by simpa using List.all_eq_true.1 hall t hm)⟩)
    (by kernel_rfl)
#print axioms card_holds
end Go.Proofs.YtfhllanhldbkkaaGreatDoor.fnExactFreshAt
namespace Go.Proofs.YtfhllanhldbkkaaGreatDoor
theorem fnExactFreshAt_holds : Rows.FnExactFreshAtCardSaid:=fnExactFreshAt.card_holds
end Go.Proofs.YtfhllanhldbkkaaGreatDoor
