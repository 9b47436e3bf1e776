import Derived.Test.YtfhllanhldbkkaaGreatDoorOpen
import Derived.Test.YtfhllanhldbkkaaGreatDoorPx0
import Derived.Handed
import Derived.Shelf.Vars
namespace Go.Proofs.YtfhllanhldbkkaaGreatDoor.P
open Go Go.RowKit Go.ChangeShapes Go.WideShapes Go.Deep Go.Proofs.YtfhllanhldbkkaaGreatDoorW.aW Go.Proofs.YtfhllanhldbkkaaGreatDoorW.eQ
set_option linter.unusedVariables false
set_option linter.unusedSimpArgs false
set_option maxRecDepth 100000
set_option maxHeartbeats 2000000
def G69 (x:ET):Prop:=True
def Z69 (x:ET):Prop:=x.f0.size<=140737488351232/\x.f1.size<=140737488351232/\True
theorem EU {H:Type} {n:Nat} {s:ByteArray} (hw:∀ m,m∈(DataW.lit (H:=H) (.string s.data.toList)).weights Tryz.prog 9->m<=140737488351232):s.size<=140737488351232:=by
  have:=hw s.data.toList.length (by simp[DataW.weights,Tryz.underlying9])
  rwa [fP] at this
section
variable {H:Type} {enc:TypeId×Value->H} {w:World} {spare:Nat->Bool} {held:Bool}
theorem ak7 (n:Nat) (cs:List Value) (x:DataW H×List MemPlace) (h:DataW.trod enc Tryz.prog w 0 spare held n 69 cs=some x) :
    ∃ v:ET,WJ.K w v cs/\G69 v/\((∀ m,m∈x.1.weights Tryz.prog 69->m<=140737488351232)->Z69 v):=by
  obtain⟨xs,n',rfl,rfl,hl0,agR,hf⟩:=DataW.trod_struct Tryz.underlying69 h
  have hl:cs.length=2:=hl0.trans (by kernel_rfl)
  have hxl:xs.length=2:=agR
  have q9:Tryz.prog.cellsOf 9=1:=by kernel_rfl
  match cs,hl with
  |[c0,c1],_=>
    match xs,hxl with
    |[y0,y1],_=>
      have g0:DataW.trod enc Tryz.prog w 0 spare held n' 9 [c0]=some y0:=by have g_:=hf 0 _ rfl;simpa [q9] using g_
      have g1:DataW.trod enc Tryz.prog w 0 spare held n' 9 [c1]=some y1:=by have g_:=hf 1 _ rfl;simpa [q9] using g_
      obtain⟨s0,e0,rfl,b0⟩:=DataW.trod_string Tryz.underlying9 g0
      obtain⟨s1,e1,rfl,b1⟩:=DataW.trod_string Tryz.underlying9 g1
      obtain rfl:=List.singleton_inj.1 e0
      obtain rfl:=List.singleton_inj.1 e1
      refine⟨⟨s0,s1⟩,ar3 w _,trivial,fun hw=>⟨?_,?_,trivial⟩⟩
      · have:=hw s0.data.toList.length (by simp[DataW.weights,Tryz.underlying69,DataW.weightsEach,Tryz.underlying9]);rwa [fP] at this
      · have:=hw s1.data.toList.length (by simp[DataW.weights,Tryz.underlying69,DataW.weightsEach,Tryz.underlying9]);rwa [fP] at this
theorem Ty (n:Nat) (c:Value) (y:DataW H×List MemPlace) (h:DataW.trod enc Tryz.prog w 0 spare held n 22 [c]=some y) (hw:∀ m,m∈y.1.weights Tryz.prog 22->m<=140737488351232) :
    ∃(A:Option Addr) (c':Nat) (l:List ET),c = .slice A l.length c'/\WJ.C w A l.length l/\l.length<=c'/\l.length*32<=140737488351232/\∀ x∈l,Z69 x:=by
  have key:∀(A:Option Addr) (len cap:Nat),c = .slice A len cap->∃(A:Option Addr) (c':Nat) (l:List ET),c = .slice A l.length c'/\WJ.C w A l.length l/\l.length<=c'/\l.length*32<=140737488351232/\∀ x∈l,Z69 x:=by
    rintro A len cap rfl
    obtain⟨l,rfl,hC,hc,hb,hz⟩:=af3 (ps:=y.2) WJ G69 Z69 Tryz.underlying22 (by kernel_rfl) (of_decide_eq_true (by kernel_rfl)) (fun n cs x h=>ak7 n cs x h) hw ⟨n,by simpa [Value.cells] using h⟩
    exact⟨A,cap,l,rfl,hC,hc,(by rw[show Tryz.prog.bytesOf 69=32 from(by kernel_rfl)] at hb;exact hb),fun x hx=>(hz x hx).2⟩
  rcases DataW.trod_slice Tryz.underlying22 h with⟨hc,_⟩|⟨a,len,cap,_,_,_,_,hc,_⟩
  · exact key _ _ _ (List.singleton_inj.1 hc)
  · exact key _ _ _ (List.singleton_inj.1 hc)
theorem W9 (n:Nat) (cs:List Value) (x:DataW H×List MemPlace) (h:DataW.trod enc Tryz.prog w 0 spare held n 26 cs=some x) (hw:∀ m,m∈x.1.weights Tryz.prog 26->m<=140737488351232) :
    ∃(a0:ByteArray) (a1 a2:Int) (A3:Option Addr) (c3:Nat) (l3:List ET) (a4 a5:ByteArray) (a6:Int) (a7:ByteArray) (a8:Bool) (A9:Option Addr) (c9:Nat) (l9:List ET) (WM:ByteArray),
      cs = [.string a0,.int .i64 a1,.int .i64 a2,.slice A3 l3.length c3,.string a4,.string a5,.int .i64 a6,.string a7,.bool a8,.slice A9 l9.length c9,.string WM]/\
      (WJ.C w A3 l3.length l3/\l3.length<=c3/\l3.length*32<=140737488351232/\∀ x∈l3,Z69 x)/\(WJ.C w A9 l9.length l9/\l9.length<=c9/\l9.length*32<=140737488351232/\∀ x∈l9,Z69 x)/\
      a0.size<=140737488351232/\(Lit.int .i64 a1).wf=true/\(Lit.int .i64 a2).wf=true/\a4.size<=140737488351232/\a5.size<=140737488351232/\(Lit.int .i64 a6).wf=true/\a7.size<=140737488351232/\WM.size<=140737488351232:=by
  obtain⟨xs,n',rfl,rfl,hl0,agR,hf⟩:=DataW.trod_struct Tryz.underlying26 h
  have hl:cs.length=11:=hl0.trans (by kernel_rfl)
  have hxl:xs.length=5:=agR
  have q9:Tryz.prog.cellsOf 9=1:=by kernel_rfl
  have q3:Tryz.prog.cellsOf 3=1:=by kernel_rfl
  have q4:Tryz.prog.cellsOf 4=1:=by kernel_rfl
  have qs:Tryz.prog.cellsOf 22=1:=by kernel_rfl
  have qm:Tryz.prog.cellsOf 24=7:=by kernel_rfl
  match cs,hl with
  |[c0,c1,c2,c3,c4,c5,c6,c7,c8,c9,c10],_=>
    match xs,hxl with
    |[y0,y1,y2,y3,y4],_=>
      have g0:DataW.trod enc Tryz.prog w 0 spare held n' 9 [c0]=some y0:=by have g_:=hf 0 _ rfl;simpa [q9] using g_
      have g1:DataW.trod enc Tryz.prog w 0 spare held n' 3 [c1]=some y1:=by have g_:=hf 1 _ rfl;simpa [q3] using g_
      have g2:DataW.trod enc Tryz.prog w 0 spare held n' 3 [c2]=some y2:=by have g_:=hf 2 _ rfl;simpa [q3] using g_
      have g3:DataW.trod enc Tryz.prog w 0 spare held n' 22 [c3]=some y3:=by have g_:=hf 3 _ rfl;simpa [qs] using g_
      have g4:DataW.trod enc Tryz.prog w 0 spare held n' 24 [c4,c5,c6,c7,c8,c9,c10]=some y4:=by have g_:=hf 4 _ rfl;simpa [qm] using g_
      have hw3:∀ m,m∈y3.1.weights Tryz.prog 22->m<=140737488351232:=fun m hm=>hw m (by simp[DataW.weights,Tryz.underlying26,DataW.weightsEach,hm])
      have hw4:∀ m,m∈y4.1.weights Tryz.prog 24->m<=140737488351232:=fun m hm=>hw m (by simp[DataW.weights,Tryz.underlying26,DataW.weightsEach,hm])
      have hw0:∀ m,m∈y0.1.weights Tryz.prog 9->m<=140737488351232:=fun m hm=>hw m (by simp[DataW.weights,Tryz.underlying26,DataW.weightsEach,hm])
      obtain⟨a0,e0,rfl,_⟩:=DataW.trod_string Tryz.underlying9 g0
      obtain⟨a1,e1,rfl,w1⟩:=DataW.trod_int Tryz.underlying3 g1
      obtain⟨a2,e2,rfl,w2⟩:=DataW.trod_int Tryz.underlying3 g2
      obtain rfl:=List.singleton_inj.1 e0
      obtain rfl:=List.singleton_inj.1 e1
      obtain rfl:=List.singleton_inj.1 e2
      obtain⟨A3,c3',l3,rfl,hC3,hc3,hb3,hz3⟩:=Ty n' c3 y3 g3 hw3
      obtain⟨zs,n'',rfl,rfl,_,azZ,hg⟩:=DataW.trod_struct Tryz.underlying24 g4
      have hzl:zs.length=7:=azZ
      match zs,hzl with
      |[z0,z1,z2,z3,z4,z5,z6],_=>
        have k0:DataW.trod enc Tryz.prog w 0 spare held n'' 9 [c4]=some z0:=by have g_:=hg 0 _ rfl;simpa [q9] using g_
        have k1:DataW.trod enc Tryz.prog w 0 spare held n'' 9 [c5]=some z1:=by have g_:=hg 1 _ rfl;simpa [q9] using g_
        have k2:DataW.trod enc Tryz.prog w 0 spare held n'' 3 [c6]=some z2:=by have g_:=hg 2 _ rfl;simpa [q3] using g_
        have k3:DataW.trod enc Tryz.prog w 0 spare held n'' 9 [c7]=some z3:=by have g_:=hg 3 _ rfl;simpa [q9] using g_
        have k4:DataW.trod enc Tryz.prog w 0 spare held n'' 4 [c8]=some z4:=by have g_:=hg 4 _ rfl;simpa [q4] using g_
        have k5:DataW.trod enc Tryz.prog w 0 spare held n'' 22 [c9]=some z5:=by have g_:=hg 5 _ rfl;simpa [qs] using g_
        have k6:DataW.trod enc Tryz.prog w 0 spare held n'' 9 [c10]=some z6:=by have g_:=hg 6 _ rfl;simpa [q9] using g_
        have v0:∀ m,m∈z0.1.weights Tryz.prog 9->m<=140737488351232:=fun m hm=>hw4 m (by simp[DataW.weights,Tryz.underlying24,DataW.weightsEach,hm])
        have v1:∀ m,m∈z1.1.weights Tryz.prog 9->m<=140737488351232:=fun m hm=>hw4 m (by simp[DataW.weights,Tryz.underlying24,DataW.weightsEach,hm])
        have v3:∀ m,m∈z3.1.weights Tryz.prog 9->m<=140737488351232:=fun m hm=>hw4 m (by simp[DataW.weights,Tryz.underlying24,DataW.weightsEach,hm])
        have v5:∀ m,m∈z5.1.weights Tryz.prog 22->m<=140737488351232:=fun m hm=>hw4 m (by simp[DataW.weights,Tryz.underlying24,DataW.weightsEach,hm])
        have v6:∀ m,m∈z6.1.weights Tryz.prog 9->m<=140737488351232:=fun m hm=>hw4 m (by simp[DataW.weights,Tryz.underlying24,DataW.weightsEach,hm])
        obtain⟨a4,e4,rfl,_⟩:=DataW.trod_string Tryz.underlying9 k0
        obtain⟨a5,e5,rfl,_⟩:=DataW.trod_string Tryz.underlying9 k1
        obtain⟨a6,e6,rfl,w6⟩:=DataW.trod_int Tryz.underlying3 k2
        obtain⟨a7,e7,rfl,_⟩:=DataW.trod_string Tryz.underlying9 k3
        obtain⟨a8,e8,rfl⟩:=DataW.trod_bool Tryz.underlying4 k4
        obtain⟨A9,c9',l9,rfl,hC9,hc9,hb9,hz9⟩:=Ty n'' c9 z5 k5 v5
        obtain⟨WM,e10,rfl,_⟩:=DataW.trod_string Tryz.underlying9 k6
        obtain rfl:=List.singleton_inj.1 e4
        obtain rfl:=List.singleton_inj.1 e5
        obtain rfl:=List.singleton_inj.1 e6
        obtain rfl:=List.singleton_inj.1 e7
        obtain rfl:=List.singleton_inj.1 e8
        obtain rfl:=List.singleton_inj.1 e10
        exact⟨a0,a1,a2,A3,c3',l3,a4,a5,a6,a7,a8,A9,c9',l9,WM,rfl,⟨hC3,hc3,hb3,hz3⟩,⟨hC9,hc9,hb9,hz9⟩,EU (n:=0) hw0,w1,w2,EU (n:=0) v0,EU (n:=0) v1,w6,EU (n:=0) v3,EU (n:=0) v6⟩
end
theorem agS {H:Type} {enc:TypeId×Value->H} {w:World} {spare:Nat->Bool} {held:Bool} (n:Nat) (cs:List Value) (x:DataW H×List MemPlace) (h:DataW.trod enc Tryz.prog w 0 spare held n 42 cs=some x) :
    ∃(b0 b1 b2 b3 b4 b5:Bool) (n6 n7 n8 n9:Int),cs = [.bool b0,.bool b1,.bool b2,.bool b3,.bool b4,.bool b5,.int .i64 n6,.int .i64 n7,.int .i64 n8,.int .i64 n9]/\(Lit.int .i64 n6).wf=true/\(Lit.int .i64 n7).wf=true/\(Lit.int .i64 n8).wf=true/\(Lit.int .i64 n9).wf=true:=by
  obtain⟨xs,n',rfl,rfl,hl0,agR,hf⟩:=DataW.trod_struct Tryz.underlying42 h
  have hl:cs.length=10:=hl0.trans (by kernel_rfl)
  have hxl:xs.length=10:=agR
  have q3:Tryz.prog.cellsOf 3=1:=by kernel_rfl
  have q4:Tryz.prog.cellsOf 4=1:=by kernel_rfl
  match cs,hl with
  |[c0,c1,c2,c3,c4,c5,c6,c7,c8,c9],_=>
    match xs,hxl with
    |[y0,y1,y2,y3,y4,y5,y6,y7,y8,y9],_=>
      have g0:DataW.trod enc Tryz.prog w 0 spare held n' 4 [c0]=some y0:=by have g_:=hf 0 _ rfl;simpa [q4] using g_
      have g1:DataW.trod enc Tryz.prog w 0 spare held n' 4 [c1]=some y1:=by have g_:=hf 1 _ rfl;simpa [q4] using g_
      have g2:DataW.trod enc Tryz.prog w 0 spare held n' 4 [c2]=some y2:=by have g_:=hf 2 _ rfl;simpa [q4] using g_
      have g3:DataW.trod enc Tryz.prog w 0 spare held n' 4 [c3]=some y3:=by have g_:=hf 3 _ rfl;simpa [q4] using g_
      have g4:DataW.trod enc Tryz.prog w 0 spare held n' 4 [c4]=some y4:=by have g_:=hf 4 _ rfl;simpa [q4] using g_
      have g5:DataW.trod enc Tryz.prog w 0 spare held n' 4 [c5]=some y5:=by have g_:=hf 5 _ rfl;simpa [q4] using g_
      have g6:DataW.trod enc Tryz.prog w 0 spare held n' 3 [c6]=some y6:=by have g_:=hf 6 _ rfl;simpa [q3] using g_
      have g7:DataW.trod enc Tryz.prog w 0 spare held n' 3 [c7]=some y7:=by have g_:=hf 7 _ rfl;simpa [q3] using g_
      have g8:DataW.trod enc Tryz.prog w 0 spare held n' 3 [c8]=some y8:=by have g_:=hf 8 _ rfl;simpa [q3] using g_
      have g9:DataW.trod enc Tryz.prog w 0 spare held n' 3 [c9]=some y9:=by have g_:=hf 9 _ rfl;simpa [q3] using g_
      obtain⟨b0,e0,rfl⟩:=DataW.trod_bool Tryz.underlying4 g0
      obtain⟨b1,e1,rfl⟩:=DataW.trod_bool Tryz.underlying4 g1
      obtain⟨b2,e2,rfl⟩:=DataW.trod_bool Tryz.underlying4 g2
      obtain⟨b3,e3,rfl⟩:=DataW.trod_bool Tryz.underlying4 g3
      obtain⟨b4,e4,rfl⟩:=DataW.trod_bool Tryz.underlying4 g4
      obtain⟨b5,e5,rfl⟩:=DataW.trod_bool Tryz.underlying4 g5
      obtain⟨n6,e6,rfl,w6⟩:=DataW.trod_int Tryz.underlying3 g6
      obtain⟨n7,e7,rfl,w7⟩:=DataW.trod_int Tryz.underlying3 g7
      obtain⟨n8,e8,rfl,w8⟩:=DataW.trod_int Tryz.underlying3 g8
      obtain⟨n9,e9,rfl,w9⟩:=DataW.trod_int Tryz.underlying3 g9
      obtain rfl:=List.singleton_inj.1 e0
      obtain rfl:=List.singleton_inj.1 e1
      obtain rfl:=List.singleton_inj.1 e2
      obtain rfl:=List.singleton_inj.1 e3
      obtain rfl:=List.singleton_inj.1 e4
      obtain rfl:=List.singleton_inj.1 e5
      obtain rfl:=List.singleton_inj.1 e6
      obtain rfl:=List.singleton_inj.1 e7
      obtain rfl:=List.singleton_inj.1 e8
      obtain rfl:=List.singleton_inj.1 e9
      exact⟨b0,b1,b2,b3,b4,b5,n6,n7,n8,n9,rfl,w6,w7,w8,w9⟩

theorem ES {H:Type} {enc:TypeId×Value->H} {a:Assume} {C:Checked} {os:Os} {f:FuncId} {fn:Func} {s:ChangeSpec} {conds:List PathCond} {apart fresh handsOn again:Bool} {X:World->Array Value->Prop}
    (hX:∀(w w':World) (args:Array Value),w.heap=w'.heap->X w args->X w' args)
    (own:ownKnob C.prog.godebug=none) (started:os.Started) (noInit:C.prog.inits.idxOf? f=none) (hfn:C.prog.funcs[f]? = some fn)
    (witness:∃(w:World) (tape:Tape) (i:Input),w.os=os/\(w.forCall tape i).Shaped C.prog/\i.vars = []/\Input.okWide C.prog (w.forCall tape i) .any w.heap.size f i/\
      ((s.pre enc C.prog fn conds apart (w.forCall tape i).memory i.args/\X (w.forCall tape i).memory i.args)/\sizedMet enc C.prog fn (OpenSpec.ofChange s) apart (w.forCall tape i).memory i.args)/\a.holds C.prog (lone (Frame.enter C.prog f i.args .normal) [] (w.forCall tape i)))
    (contract:∀(W:World) (base:Nat) (args:Array Value) (ds gs:List (DataW H)) (before:List MemPlace),
      (∀(j:Nat) t v,fn.params[j]? = some t->args[j]? = some v->Value.okWide C.prog W .any base t v)->
      DataW.Whole enc C.prog fn.params.toList s.vars apart W args.toList ds gs before->
      conds.all (PathCond.test C.prog ⟨fn.params.toList,ds,s.plain.varTypes C.prog,gs⟩)=true->
      (DataW.weightsEach C.prog (fn.params.toList++s.plain.varTypes C.prog) (ds++gs)).all (·<=reachBytes)=true->X W args->W.ShapedOpen C.prog->
      a.holds C.prog (lone (Frame.enter C.prog f args .normal) [] W)->
      Calls C.prog f args W fun e W'=>∃ v,e = .returned v/\s.post enc C.prog fn apart fresh handsOn again W args v W') :
    ReturnsInHanded a C os f .any (fun w args=>(s.pre enc C.prog fn conds apart w args/\X w args)/\sizedMet enc C.prog fn (OpenSpec.ofChange s) apart w args) (s.post enc C.prog fn apart fresh handsOn again):=by
  refine returnsInHanded_of_calls own started noInit witness ?_
  intro w tape i _ hsh _ hok hpre hholds
  obtain⟨_,_,_,fn',hfn',_,_,_,_,hval⟩:=hok
  have e:fn'=fn:=Option.some.inj (hfn'.symm.trans hfn)
  subst e
  obtain⟨⟨⟨ds,gs,before,hw,hc⟩,hx⟩,hz⟩:=hpre
  have hw':=DataW.Whole.of_heap (w':=w.forCall tape i) (by rfl) hw
  refine(contract (w.forCall tape i) w.heap.size i.args ds gs before hval hw' hc (hz.weights hw) (hX _ _ _ (by rfl) hx) hsh hholds).mono fun e W' ⟨v,he,hp⟩=>?_
  subst he
  exact ChangeSpec.post_blind hp
end Go.Proofs.YtfhllanhldbkkaaGreatDoor.P
