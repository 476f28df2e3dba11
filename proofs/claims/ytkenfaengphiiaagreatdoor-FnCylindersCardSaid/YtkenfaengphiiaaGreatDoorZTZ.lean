/- The law FnCylinders gives true, whatever bytes come in, where the listed tables hold what the program's text lays. The card: the tables tied to the text. No other conditions. (One of the texts of its proof, put together by a program of this session.) -/
import Derived.Test.YtkenfaengphiiaaGreatDoorZEC
import Derived.Test.YtkenfaengphiiaaGreatDoorChecked
import Derived.Test.YtkenfaengphiiaaGreatDoorRows
import Derived.ProofKit
import Derived.LaidMore
import Derived.Lay
import Derived.OpenShut
import Derived.OpenVars
import Derived.Shelf.Vars
import Derived.Lib.LaidTab
import Derived.Lib.ItoaNum
import Derived.ChangeArms
import Derived.Stop.Joined
import Derived.KernelRfl
set_option linter.unusedSectionVars false
set_option linter.unusedSimpArgs false
set_option linter.unusedVariables false
namespace Go.Proofs.YtkenfaengphiiaaGreatDoor
open Go.ChangeShapes Go.WideShapes Go.ChangeAt Go.RowKit
theorem zFy:ownKnob Tryz.prog.godebug=none:=by kernel_rfl
theorem zFz:laidOutB Tryz.prog=true:=by kernel_rfl
theorem zGf : Tryz.prog.globalNamed "loop.example/g00880/impl.projectionNames" = some 0 := by kernel_rfl
theorem zIs:(Tryz.prog.globals[0]?).map (·.type)=some 90:=by kernel_rfl
theorem zJi:Tryz.prog.cellsOf 9=1:=by kernel_rfl
theorem zH5:Tryz.prog.cellsOf 90=17:=by kernel_rfl
theorem zCG:(Rows.laid_loop_example_g00880_impl_projectionNames:DataW Unit)= .agg (Ev.names.map fun s=> .lit (.string s.data.toList)):=by kernel_rfl
theorem zBk : varsRowed Tryz.prog ["loop.example/g00880/impl.projectionNames"] = true := by kernel_rfl
theorem zJm {a b:ByteArray} (h:a.data.toList=b.data.toList):a=b:=by
 cases a;cases b
 simp only at h
 rw [Array.ext' h]
theorem zEs {enc:TypeId×Value->Unit} {w:World} {sp:Nat->Bool} {m:Nat} {L:List ByteArray} {cs:List Value} {xs:List (DataW Unit×List MemPlace)} (hlen:cs.length=L.length)
  (hx:xs.map (·.1)=L.map fun s=> .lit (.string s.data.toList)) (hel:∀i,i<L.length->DataW.trod enc Tryz.prog w 0 sp false m 9 ((cs.drop i).take 1)=xs[i]?):cs=L.map Value.string:=by
 apply List.ext_getElem?
 intro i
 by_cases hi:i<L.length
 ·have hc:i<cs.length:=by omega
  have h1:=hel i hi
  have hxl:xs.length=L.length:=by have:=congrArg List.length hx;simpa using this
  have hxi:xs[i]?=some xs[i]:=List.getElem?_eq_getElem (by omega)
  rw [hxi] at h1
  obtain ⟨s,e1,e2,_⟩:=DataW.trod_string Tryz.underlying9 h1
  have e3:(cs.drop i).take 1= [cs[i]]:=by
   rw [List.drop_eq_getElem_cons hc,List.take_succ_cons,List.take_zero]
  rw [e3] at e1
  have e4:cs[i]= .string s:=by simpa using e1
  have e5:(xs.map (·.1))[i]?=some (.lit (.string s.data.toList)):=by
   rw [List.getElem?_map,hxi,e2];rfl
  rw [hx,List.getElem?_map,List.getElem?_eq_getElem hi] at e5
  simp only [Option.map_some,Option.some.injEq,DataW.lit.injEq,Lit.string.injEq] at e5
  rw [List.getElem?_eq_getElem hc,e4,List.getElem?_map,List.getElem?_eq_getElem hi,zJm e5]
  rfl
 ·rw [List.getElem?_eq_none (by omega),List.getElem?_eq_none (by simp;omega)]
theorem gTab : Tryz.prog.globalNamed "internal/strconv.uint64pow10" = some 6 := by kernel_rfl
theorem tTab:(Tryz.prog.globals[6]?).map (·.type)=some 176:=by kernel_rfl
theorem uTab:∃e,Tryz.prog.underlying 176=some (.array 20 e)/\Tryz.prog.underlying e=some (.int .u64)/\Tryz.prog.cellsOf e=1:=⟨76,by kernel_rfl,by kernel_rfl,by kernel_rfl⟩
theorem cTab:Tryz.prog.cellsOf 176=20:=by kernel_rfl
theorem dTab:(Rows.laid_internal_strconv_uint64pow10:DataW Unit)=Lib.tabData .u64 Lib.pow10Tab:=by kernel_rfl
theorem zG3:(Ev.zzY.map fun x=>Value.int .u64 x.val)=Lib.pow10Tab.map fun z=>Value.int .u64 z:=by kernel_rfl
def zyi : List (String × DataW Unit) := [("math/bits.deBruijn32tab", Rows.laid_math_bits_deBruijn32tab), ("math/bits.deBruijn64tab", Rows.laid_math_bits_deBruijn64tab), ("internal/strconv.uint64pow10", Rows.laid_internal_strconv_uint64pow10), ("unicode/utf8.acceptRanges", Rows.laid_unicode_utf8_acceptRanges), ("strconv.ErrRange", Rows.laid_strconv_ErrRange), ("strconv.ErrSyntax", Rows.laid_strconv_ErrSyntax), ("loop.example/g00880/impl.projectionNames", Rows.laid_loop_example_g00880_impl_projectionNames), ("unicode/utf8.first", Rows.laid_unicode_utf8_first)]
theorem gMax:(1:Nat)<Tryz.prog.globals.size:=by decide +kernel
theorem zI2 : Tryz.prog.globalNamed "strconv.ErrSyntax" = some 2 := by kernel_rfl
theorem zI3 : Tryz.prog.globalNamed "strconv.ErrRange" = some 3 := by kernel_rfl
theorem zKP:(Tryz.prog.globals[2]?).map (·.type)=some 84:=by kernel_rfl
theorem zKQ:(Tryz.prog.globals[3]?).map (·.type)=some 84:=by kernel_rfl
theorem uErr:∃ms,Tryz.prog.underlying 84=some (.interface ms):=⟨_,Tryz.underlying84⟩
theorem uMax:Tryz.prog.underlying 3=some (.int .i64):=by kernel_rfl
theorem zMax:∃zero,((begin Tryz.prog (fun _ _=>0) default).world.heap[1]?).bind Obj.row?=some (zero,3)/\zero.size=1:=⟨#[.int .i64 0],by kernel_rfl,rfl⟩
theorem bMax:Tryz.prog.buildable 3=true:=by kernel_rfl
theorem cMax:Tryz.prog.cellTypes Tryz.prog.depth 3=some [3]:=by kernel_rfl
theorem zCh {W:World} {n:String} {g:Nat} {cs:Array Value} {L:List Value} (hg:Tryz.prog.globalNamed n=some g) (hv:W.var? Tryz.prog n=some cs) (hcs:cs.toList=L) (hL:0<L.length)
  (hz:∃c t,W.heap[g]?=some (.cells c t (0,0))):∃t,W.heap[g]?=some (.cells L.toArray t (0,0)):=by
 obtain ⟨c,t,hc⟩:=hz
 have:cs=c:=by
  simp only [World.var?,hg,Option.bind_some,hc,Option.some.injEq] at hv
  exact hv.symm
 subst this
 exact ⟨t,by rw [hc,<- hcs,Array.toArray_toList]⟩
theorem zxm {w:World} (h:w.ShapedOpen Tryz.prog):Ev.RowX w 1 Ev.isInt:=by
 obtain ⟨zero,h0,hz⟩:=zMax
 obtain ⟨cs,hh,hs,hr⟩:=h.1 1 zero 3 gMax h0
 obtain ⟨m,hm⟩:=cell_of_shapedOpen_int h gMax h0 hz bMax cMax uMax
 refine ⟨cs,3,hh,m,?_⟩
 obtain ⟨l⟩:=cs
 match l,hs,hh with
 | [x],_,hh=>
  simp [World.cell?,hh] at hm
  rw [hm]
 | [],hs,_=>simp [hz] at hs
 | _::_::_,hs,_=>simp [hz] at hs
theorem zwE {W:World} {n:String} {g:Nat} {cs:Array Value} {fuel:Nat} {nm:String} {d:DataW Unit} {p:List MemPlace} {enc:TypeId×Value->Unit} {base:Nat} {sp:Nat->Bool} (hg:Tryz.prog.globalNamed n=some g) (hv:W.var? Tryz.prog n=some cs)
  (hd:DataW.trod enc Tryz.prog W base sp false fuel 84 cs.toList=some (.iface nm d,p)) (hz:∃c t,W.heap[g]?=some (.cells c t (0,0))):Ev.RowX W g Ev.isErr:=by
 obtain ⟨ms,hi⟩:=uErr
 obtain ⟨f1,u,v,hcs,hn,h1⟩:=iface_of_trod hi hd
 obtain ⟨t,ht⟩:=zCh hg hv hcs (by simp) hz
 exact ⟨_,t,ht,u,v,rfl⟩
theorem ztZ {W:World} {cs:Array Value} {fuel:Nat} {nm:String} {d:DataW Unit} {p:List MemPlace} {enc:TypeId×Value->Unit} {base:Nat} {sp:Nat->Bool}
  (hd:DataW.trod enc Tryz.prog W base sp false fuel 84 cs.toList=some (.iface nm d,p)):0<cs.size:=by
 obtain ⟨ms,hi⟩:=uErr
 obtain ⟨f1,u,v,hcs,hn,h1⟩:=iface_of_trod hi hd
 have:=congrArg List.length hcs
 simp at this
 omega
theorem zxs [Ev.Amb] {W:World} (h:laidMetH Tryz.prog zyi W) (hsh:W.ShapedOpen Tryz.prog):Ev.Inv0 W:=by
 rw [MakeChecks.laidMetH_plain _ _ _ (by kernel_rfl)] at h
 obtain ⟨ps,⟨g0,t0,cs0,f0,p0,q0,hg0,ht0,hv0,hd0,⟨g1,t1,cs1,f1,p1,q1,hg1,ht1,hv1,hd1,⟨g2,t2,cs2,f2,p2,q2,hg2,ht2,hv2,hd2,⟨g3,t3,cs3,f3,p3,q3,hg3,ht3,hv3,hd3,⟨g4,t4,cs4,f4,p4,q4,hg4,ht4,hv4,hd4,⟨g5,t5,cs5,f5,p5,q5,hg5,ht5,hv5,hd5,⟨g6,t6,cs6,f6,p6,q6,hg6,ht6,hv6,hd6,⟨g7,t7,cs7,f7,p7,q7,hg7,ht7,hv7,hd7,_,hps7⟩,hps6⟩,hps5⟩,hps4⟩,hps3⟩,hps2⟩,hps1⟩,hps0⟩,_,hz⟩:=h
 obtain rfl:=Option.some.inj (gTab.symm.trans hg2)
 obtain rfl:=Option.some.inj (tTab.symm.trans ht2)
 obtain rfl:=Option.some.inj (zI3.symm.trans hg4)
 obtain rfl:=Option.some.inj (zKQ.symm.trans ht4)
 obtain rfl:=Option.some.inj (zI2.symm.trans hg5)
 obtain rfl:=Option.some.inj (zKP.symm.trans ht5)
 obtain rfl:=Option.some.inj (zGf.symm.trans hg6)
 obtain rfl:=Option.some.inj (zIs.symm.trans ht6)
 obtain ⟨e,u1,u2,u3⟩:=uTab
 rw [dTab] at hd2
 have hcs:=Lib.cells_of_tab u1 u2 u3 cTab hd2
 obtain ⟨xs,m,rfl,hx,hlen,hn,hel⟩:=DataW.trod_array Tryz.underlying90 hd6
 rw [zCG] at hx
 simp only [Prod.mk.injEq,DataW.agg.injEq] at hx
 have hL:Ev.names.length=17:=by decide +kernel
 have hcs6:cs6.toList=Ev.names.map Value.string:=zEs (by rw [hlen,zH5,hL]) hx.1.symm (fun i hi=>by
  have:=hel i (by rw [hL] at hi;exact hi)
  rw [zJi,Nat.mul_one] at this
  exact this)
 have hLP:(Lib.pow10Tab.map fun z=>Value.int .u64 z).length=20:=by simp [Lib.pow10Tab]
 have hs2:0<cs2.size:=by
  have:=congrArg List.length hcs
  rw [hLP] at this
  simp at this
  omega
 have hs6:0<cs6.size:=by
  have:=congrArg List.length hcs6
  simp [hL] at this
  omega
 have hs4:0<cs4.size:=ztZ hd4
 have hs5:0<cs5.size:=ztZ hd5
 have z2:=(hz 6 0 (by
  rw [hps0,hps1,hps2]
  refine List.mem_append_right _ (List.mem_append_right _ ((List.mem_append_left _ (List.mem_append_left _ ?_))))
  exact List.mem_map.2 ⟨0,List.mem_range.2 hs2,rfl⟩)).1
 have z4:=(hz 3 0 (by
  rw [hps0,hps1,hps2,hps3,hps4]
  refine List.mem_append_right _ (List.mem_append_right _ (List.mem_append_right _ (List.mem_append_right _ ((List.mem_append_left _ (List.mem_append_left _ ?_))))))
  exact List.mem_map.2 ⟨0,List.mem_range.2 hs4,rfl⟩)).1
 have z5:=(hz 2 0 (by
  rw [hps0,hps1,hps2,hps3,hps4,hps5]
  refine List.mem_append_right _ (List.mem_append_right _ (List.mem_append_right _ (List.mem_append_right _ (List.mem_append_right _ ((List.mem_append_left _ (List.mem_append_left _ ?_)))))))
  exact List.mem_map.2 ⟨0,List.mem_range.2 hs5,rfl⟩)).1
 have z6:=(hz 0 0 (by
  rw [hps0,hps1,hps2,hps3,hps4,hps5,hps6]
  refine List.mem_append_right _ (List.mem_append_right _ (List.mem_append_right _ (List.mem_append_right _ (List.mem_append_right _ (List.mem_append_right _ ((List.mem_append_left _ (List.mem_append_left _ ?_))))))))
  exact List.mem_map.2 ⟨0,List.mem_range.2 hs6,rfl⟩)).1
 refine ⟨?_,?_⟩
 ·intro g cs hg
  match g,hg with
  | 0,hg=>
   simp only [Ev.zAr,Option.some.injEq] at hg
   subst hg
   obtain ⟨t,ht⟩:=zCh zGf hv6 hcs6 (by simp [hL]) z6
   refine ⟨_,t,ht,?_⟩
   generalize Ev.names=L
   induction L with
   | nil=>exact .nil
   | cons s L ih=>exact .cons (.str s) ih
  | 6,hg=>
   simp only [Ev.zAr,Option.some.injEq] at hg
   subst hg
   obtain ⟨t,ht⟩:=zCh gTab hv2 hcs (by rw [hLP];decide) z2
   rw [<- zG3] at ht
   refine ⟨_,t,ht,?_⟩
   generalize Ev.zzY=L
   induction L with
   | nil=>exact .nil
   | cons s L ih=>exact .cons (.u64 s) ih
 ·intro q hq
  simp only [Ev.zA8,List.mem_cons,List.not_mem_nil,or_false] at hq
  rcases hq with rfl|rfl|rfl
  ·exact zxm hsh
  ·exact zwE zI2 hv5 hd5 z5
  ·exact zwE zI3 hv4 hd4 z4
set_option maxRecDepth 100000 in
theorem zDB (os:Os) (args:Array Value):laidMetH Tryz.prog zyi ((World.laidAll Tryz.prog os zyi).forCall (fun _ _=>0) ⟨#[],args,[]⟩).memory:=by
 rw [MakeChecks.laidMetH_plain _ _ _ (by kernel_rfl)]
 exact laidMet_laidAll _ (by kernel_rfl) (by kernel_rfl)
theorem zs1 {H:Type} {enc:TypeId×Value->H} {a:Assume} {C:Checked} {os:Os} {f:FuncId} {fn:Func} {s:ChangeSpec} {conds:List PathCond} {apart fresh handsOn again:Bool} {X:World->Array Value->Prop}
  (hX:∀(w w':World) (args:Array Value),w.heap=w'.heap->X w args->X w' args)
  (own:ownKnob C.prog.godebug=none) (started:os.Started) (noInit:C.prog.inits.idxOf? f=none) (hfn:C.prog.funcs[f]?=some fn)
  (witness:∃(w:World) (tape:Tape) (i:Input),w.os=os/\(w.forCall tape i).Shaped C.prog/\i.vars= []/\Input.okWide C.prog (w.forCall tape i) .any w.heap.size f i /\
   ((s.pre enc C.prog fn conds apart (w.forCall tape i).memory i.args/\X (w.forCall tape i).memory i.args)/\sizedMet enc C.prog fn (OpenSpec.ofChange s) apart (w.forCall tape i).memory i.args)/\a.holds C.prog (lone (Frame.enter C.prog f i.args .normal) [] (w.forCall tape i)))
  (contract:∀(W:World) (base:Nat) (args:Array Value) (ds gs:List (DataW H)) (before:List MemPlace),
   (∀(j:Nat) t v,fn.params[j]?=some t->args[j]?=some v->Value.okWide C.prog W .any base t v)->
   DataW.Whole enc C.prog fn.params.toList s.vars apart W args.toList ds gs before->
   (DataW.weightsEach C.prog (fn.params.toList++s.plain.varTypes C.prog) (ds++gs)).all (· <= reachBytes)=true->X W args->W.ShapedOpen C.prog->
   Calls C.prog f args W fun e W'=>∃v,e= .returned v/\s.post enc C.prog fn apart fresh handsOn again W args v W'):
  ReturnsInHanded a C os f .any (fun w args=>(s.pre enc C.prog fn conds apart w args/\X w args)/\sizedMet enc C.prog fn (OpenSpec.ofChange s) apart w args) (s.post enc C.prog fn apart fresh handsOn again):=by
 refine returnsInHanded_of_calls own started noInit witness ?_
 intro w tape i _ hsh _ hok hpre _
 obtain ⟨_,_,_,fn',hfn',_,_,_,_,hval⟩:=hok
 have e:fn'=fn:=Option.some.inj (hfn'.symm.trans hfn)
 subst e
 obtain ⟨⟨⟨ds,gs,before,hw,hc⟩,hx⟩,hz⟩:=hpre
 have hw':=DataW.Whole.of_heap (w':=w.forCall tape i) (by rfl) hw
 refine (contract (w.forCall tape i) w.heap.size i.args ds gs before hval hw' (hz.weights hw) (hX _ _ _ (by rfl) hx) hsh).mono fun e W' ⟨v,he,hp⟩=>?_
 subst he
 exact ChangeSpec.post_blind hp
end Go.Proofs.YtkenfaengphiiaaGreatDoor
