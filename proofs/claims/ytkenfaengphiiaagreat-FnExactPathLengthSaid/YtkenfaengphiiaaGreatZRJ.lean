/- The law FnExactPathLength gives true, whatever comes in; each argument reads behind the call as it read before. No conditions. (One of the texts of its proof, put together by a program of this session.) -/
import Derived.Test.YtkenfaengphiiaaGreatRows
import Derived.JoinedOf
import Derived.KernelRfl
set_option linter.unusedSectionVars false
set_option linter.unusedSimpArgs false
set_option linter.unusedVariables false
namespace Go.Proofs.YtkenfaengphiiaaGreat
open Go Go.ChangeShapes Go.WideShapes
set_option maxRecDepth 100000
theorem and_t {a b:Bool} (ha:a=true) (hb:b=true):(a&&b)=true:=by rw [ha,hb];rfl
def chs (l:List Nat):List Char:=l.map Char.ofNat
theorem ws_word:∀(w r:List Char),w.all (fun c=> !(c==Char.ofNat 32))=true->wordsSigns (w++Char.ofNat 32::r)=w::wordsSigns r
 | [],r,_=>rfl
 | c::w,r,h=>by
  simp only [List.all_cons,Bool.and_eq_true] at h
  have ih:=ws_word w r h.2
  show wordsSigns (c::(w++Char.ofNat 32::r))=_
  conv=>lhs;unfold wordsSigns
  split
  ·rename_i e;cases e
  ·rename_i e;cases e;exact absurd h.1 (by decide)
  ·rename_i e;cases e;rw [ih]
def cutW:List Char:=chs [99,117,116]
theorem strip_cut (r:List (List Char)):stripLifts liftWords (cutW::r)=([],cutW::r):=by kernel_rfl
theorem may_of (P:Program) (r:List (List Char)) (h:behindMainWord (wordsSigns P.initOrder.toList)=cutW::r) (h1:P.laysLater=false) (h2:P.bearsReflect=false) (h3:P.doorFits []=true):P.mayEnter=true:=by
 unfold Program.mayEnter
 rw [h]
 dsimp only
 rw [strip_cut,h1,h2,h3]
 have e1 : (cutW == "gc".toList) = false := by kernel_rfl
 have e2 : (cutW == "spec".toList) = false := by kernel_rfl
 have e3 : (cutW == "carried".toList) = false := by kernel_rfl
 have e4 : ((cutW :: r).head? == some "cut".toList) = true := by kernel_rfl
 rw [e1,e2,e3,e4]
 rfl
theorem lifts_of (P:Program) (r:List (List Char)) (h:behindMainWord (wordsSigns P.initOrder.toList)=cutW::r):P.liftsFinal=false:=by
 unfold Program.liftsFinal Program.headLifts
 rw [h]
 dsimp only
 rw [strip_cut]
 have e4 : ((cutW :: r).head? == some "cut".toList) = true := by kernel_rfl
 have e3 : ((cutW :: r).head? == some "carried".toList) = false := by kernel_rfl
 rw [e3]
 simp only [e4]
 rfl
theorem make_of (P:Program) (r:List (List Char)) (h:behindMainWord (wordsSigns P.initOrder.toList)=cutW::r):P.make=some .cut:=by
 unfold Program.make
 rw [h]
 dsimp only
 have e1 : (cutW == "gc".toList) = false := by kernel_rfl
 have e2 : (cutW == "spec".toList) = false := by kernel_rfl
 have e4 : (cutW == "cut".toList) = true := by kernel_rfl
 rw [e1,e2,e4]
 rfl
def io1:List Nat:= [104,97,114,110,101,115,115]
def io2:List Nat:= [56,53,54,102,53,53,101,55,53,52,53,49,102,48,51,100,50,97,52,55,54,50,97,99,97,55,48,51,102,54,99,102,51,100,56,53,100,100,100,49,56,48,98,98,54,99,48,99,98,54,51,49,50,52,55,56,50,56,55,97,55,53,57,53]
def io3:List Nat:= [99,117,116]
def io4:List Nat:= [97,116,32,108,111,111,112,46,101,120,97,109,112,108,101,47,103,48,48,56,56,48,47,108,97,119,115,46,70,110,83,105,100,101,115,32,108,111,111,112,46,101,120,97,109,112,108,101,47,103,48,48,56,56,48,47,108,97,119,115,46,70,110,77,105,100,119,97,121,32,108,111,111,112,46,101,120,97,109,112,108,101,47,103,48,48,56,56,48,47,108,97,119,115,46,70,110,83,112,104,101,114,101,32,108,111,111,112,46,101,120,97,109,112,108,101,47,103,48,48,56,56,48,47,108,97,119,115,46,70,110,67,97,114,116,101,115,105,97,110,32,108,111,111,112,46,101,120,97,109,112,108,101,47,103,48,48,56,56,48,47,108,97,119,115,46,70,110,69,120,97,99,116,76,111,99,97,108,84,111,32,108,111,111,112,46,101,120,97,109,112,108,101,47,103,48,48,56,56,48,47,108,97,119,115,46,70,110,69,120,97,99,116,67,104,111,114,100,66,101,116,119,101,101,110,32,108,111,111,112,46,101,120,97,109,112,108,101,47,103,48,48,56,56,48,47,108,97,119,115,46,70,110,69,120,97,99,116,73,110,115,105,100,101,79,102,32,108,111,111,112,46,101,120,97,109,112,108,101,47,103,48,48,56,56,48,47,108,97,119,115,46,70,110,69,120,97,99,116,67,121,108,105,110,100,101,114,70,111,114,119,97,114,100,32,108,111,111,112,46,101,120,97,109,112,108,101,47,103,48,48,56,56,48,47,108,97,119,115,46,70,110,69,120,97,99,116,67,121,108,105,110,100,101,114,73,110,118,101,114,115,101,32,108,111,111,112,46,101,120,97,109,112,108,101,47,103,48,48,56,56,48,47,108,97,119,115,46,70,110,69,120,97,99,116,80,97,116,104,76,101,110,103,116,104]
theorem io_eq:Tryz.pinned.checked.prog.initOrder=String.ofList (chs (io1++32::(io2++32::(io3++32::io4)))):=by kernel_rfl
theorem io_list:Tryz.pinned.checked.prog.initOrder.toList=chs io1++Char.ofNat 32::(chs io2++Char.ofNat 32::(chs io3++Char.ofNat 32::chs io4)):=by
 rw [io_eq]
 refine String.toList_ofList.trans ?_
 simp only [chs,List.map_append,List.map_cons]
theorem io_ws:behindMainWord (wordsSigns Tryz.pinned.checked.prog.initOrder.toList)=cutW::wordsSigns (chs io4):=by
 rw [io_list,ws_word _ _ (by kernel_rfl),ws_word _ _ (by kernel_rfl),ws_word _ _ (by kernel_rfl)]
 generalize wordsSigns (chs io4)=r
 have h : ((chs io1 == "harness".toList || chs io1 == "ownmain".toList) && isSumSigns (chs io2)) = true := by kernel_rfl
 show (if ((chs io1 == "harness".toList || chs io1 == "ownmain".toList) && isSumSigns (chs io2)) = true then chs io3 :: r else chs io1 :: chs io2 :: chs io3 :: r) = cutW :: r
 rw [if_pos h]
 rfl
theorem io_later:Tryz.pinned.checked.prog.laysLater=false:=by kernel_rfl
theorem io_refl:Tryz.pinned.checked.prog.bearsReflect=false:=by kernel_rfl
theorem io_fits:Tryz.pinned.checked.prog.doorFits []=true:=by kernel_rfl
theorem j_1:(laidOutB Tryz.pinned.checked.prog)=true:=by kernel_rfl
theorem j_2:(mapsRowed Tryz.pinned.checked.prog)=true:=by kernel_rfl
theorem j_6:((Tryz.pinned.checked.prog.stops == []))=true:=by kernel_rfl
theorem j_8:((Tryz.pinned.checked.prog.stopKnobs == []))=true:=by kernel_rfl
theorem j_22:((Rows.fnExactPathLengthRow.plainKeys==Tryz.pinned.checked.prog.plainKeys))=true:=by kernel_rfl
theorem j_24:(Tryz.pinned.checked.prog.stopsHeard)=true:=by kernel_rfl
theorem j_25:(Tryz.pinned.checked.prog.mayEnter)=true:=may_of _ _ io_ws io_later io_refl io_fits
theorem j_26:((Rows.fnExactPathLengthRow.lifted==Tryz.pinned.checked.prog.liftsFinal))=true:=by
 rw [lifts_of _ _ io_ws]
 kernel_rfl
theorem j_27:((Tryz.pinned.checked.prog.make==some Rows.fnExactPathLengthRow.make))=true:=by
 rw [make_of _ _ io_ws]
 kernel_rfl
end Go.Proofs.YtkenfaengphiiaaGreat
