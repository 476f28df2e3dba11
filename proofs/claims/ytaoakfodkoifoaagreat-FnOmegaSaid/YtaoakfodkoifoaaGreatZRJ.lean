/- The law FnOmega gives true, whatever comes in; each argument reads behind the call as it read before. No conditions. (One of the texts of its proof, put together by a program of this session.) -/
import Derived.Test.YtaoakfodkoifoaaGreatRows
import Derived.JoinedOf
import Derived.KernelRfl
set_option linter.unusedSectionVars false
set_option linter.unusedSimpArgs false
set_option linter.unusedVariables false
namespace Go.Proofs.YtaoakfodkoifoaaGreat
open Go Go.ChangeShapes Go.WideShapes
set_option maxRecDepth 100000
theorem zja {a b:Bool} (ha:a=true) (hb:b=true):(a&&b)=true:=by rw [ha,hb];rfl
def chs (l:List Nat):List Char:=l.map Char.ofNat
theorem zyu:∀(w r:List Char),w.all (fun c=> !(c==Char.ofNat 32))=true->wordsSigns (w++Char.ofNat 32::r)=w::wordsSigns r
 | [],r,_=>rfl
 | c::w,r,h=>by
  simp only [List.all_cons,Bool.and_eq_true] at h
  have ih:=zyu w r h.2
  show wordsSigns (c::(w++Char.ofNat 32::r))=_
  conv=>lhs;unfold wordsSigns
  split
  ·rename_i e;cases e
  ·rename_i e;cases e;exact absurd h.1 (by decide)
  ·rename_i e;cases e;rw [ih]
def cutW:List Char:=chs [99,117,116]
theorem zAL (r:List (List Char)):stripLifts liftWords (cutW::r)=([],cutW::r):=by kernel_rfl
theorem zNJ (P:Program) (r:List (List Char)) (h:behindMainWord (wordsSigns P.initOrder.toList)=cutW::r) (h1:P.laysLater=false) (h2:P.bearsReflect=false) (h3:P.doorFits []=true):P.mayEnter=true:=by
 unfold Program.mayEnter
 rw [h]
 dsimp only
 rw [zAL,h1,h2,h3]
 have e1 : (cutW == "gc".toList) = false := by kernel_rfl
 have e2 : (cutW == "spec".toList) = false := by kernel_rfl
 have e3 : (cutW == "carried".toList) = false := by kernel_rfl
 have e4 : ((cutW :: r).head? == some "cut".toList) = true := by kernel_rfl
 rw [e1,e2,e3,e4]
 rfl
theorem zJJ (P:Program) (r:List (List Char)) (h:behindMainWord (wordsSigns P.initOrder.toList)=cutW::r):P.liftsFinal=false:=by
 unfold Program.liftsFinal Program.headLifts
 rw [h]
 dsimp only
 rw [zAL]
 have e4 : ((cutW :: r).head? == some "cut".toList) = true := by kernel_rfl
 have e3 : ((cutW :: r).head? == some "carried".toList) = false := by kernel_rfl
 rw [e3]
 simp only [e4]
 rfl
theorem zMa (P:Program) (r:List (List Char)) (h:behindMainWord (wordsSigns P.initOrder.toList)=cutW::r):P.make=some .cut:=by
 unfold Program.make
 rw [h]
 dsimp only
 have e1 : (cutW == "gc".toList) = false := by kernel_rfl
 have e2 : (cutW == "spec".toList) = false := by kernel_rfl
 have e4 : (cutW == "cut".toList) = true := by kernel_rfl
 rw [e1,e2,e4]
 rfl
def io1:List Nat:= [104,97,114,110,101,115,115]
def io2:List Nat:= [52,57,98,52,50,56,100,98,102,99,52,50,48,51,101,56,100,54,100,99,48,50,48,49,51,50,57,53,52,102,50,50,101,56,99,99,53,52,97,51,97,55,48,54,57,102,53,53,102,98,51,102,51,55,97,51,57,97,55,54,48,57,55,101]
def io3:List Nat:= [99,117,116]
def io4:List Nat:= [97,116,32,108,111,111,112,46,101,120,97,109,112,108,101,47,103,48,48,56,56,48,47,108,97,119,115,46,70,110,79,109,101,103,97,32,108,111,111,112,46,101,120,97,109,112,108,101,47,103,48,48,56,56,48,47,108,97,119,115,46,70,110,71,101,111,100,101,115,105,99,115,32,108,111,111,112,46,101,120,97,109,112,108,101,47,103,48,48,56,56,48,47,108,97,119,115,46,70,110,69,120,97,99,116,80,97,116,104,76,101,110,103,116,104,32,108,111,111,112,46,101,120,97,109,112,108,101,47,103,48,48,56,56,48,47,108,97,119,115,46,70,110,69,120,97,99,116,71,101,111,100,101,115,105,99,79,109,101,103,97,32,108,111,111,112,46,101,120,97,109,112,108,101,47,103,48,48,56,56,48,47,108,97,119,115,46,70,110,69,120,97,99,116,79,109,101,103,97,83,116,101,112,32,108,111,111,112,46,101,120,97,109,112,108,101,47,103,48,48,56,56,48,47,108,97,119,115,46,70,110,69,120,97,99,116,79,109,101,103,97,83,116,97,114,116,32,108,111,111,112,46,101,120,97,109,112,108,101,47,103,48,48,56,56,48,47,108,97,119,115,46,70,110,69,120,97,99,116,71,101,111,100,101,115,105,99,66,111,117,110,100,115,32,108,111,111,112,46,101,120,97,109,112,108,101,47,103,48,48,56,56,48,47,108,97,119,115,46,70,110,83,112,104,101,114,101]
theorem zQT:Tryz.pinned.checked.prog.initOrder=String.ofList (chs (io1++32::(io2++32::(io3++32::io4)))):=by kernel_rfl
theorem zMm:Tryz.pinned.checked.prog.initOrder.toList=chs io1++Char.ofNat 32::(chs io2++Char.ofNat 32::(chs io3++Char.ofNat 32::chs io4)):=by
 rw [zQT]
 refine String.toList_ofList.trans ?_
 simp only [chs,List.map_append,List.map_cons]
theorem zMk:behindMainWord (wordsSigns Tryz.pinned.checked.prog.initOrder.toList)=cutW::wordsSigns (chs io4):=by
 rw [zMm,zyu _ _ (by kernel_rfl),zyu _ _ (by kernel_rfl),zyu _ _ (by kernel_rfl)]
 generalize wordsSigns (chs io4)=r
 have h : ((chs io1 == "harness".toList || chs io1 == "ownmain".toList) && isSumSigns (chs io2)) = true := by kernel_rfl
 show (if ((chs io1 == "harness".toList || chs io1 == "ownmain".toList) && isSumSigns (chs io2)) = true then chs io3 :: r else chs io1 :: chs io2 :: chs io3 :: r) = cutW :: r
 rw [if_pos h]
 rfl
theorem zJP:Tryz.pinned.checked.prog.laysLater=false:=by kernel_rfl
theorem zMl:Tryz.pinned.checked.prog.bearsReflect=false:=by kernel_rfl
theorem zMn:Tryz.pinned.checked.prog.doorFits []=true:=by kernel_rfl
theorem j_1:(laidOutB Tryz.pinned.checked.prog)=true:=by kernel_rfl
theorem j_2:(mapsRowed Tryz.pinned.checked.prog)=true:=by kernel_rfl
theorem j_6:((Tryz.pinned.checked.prog.stops == []))=true:=by kernel_rfl
theorem j_8:((Tryz.pinned.checked.prog.stopKnobs == []))=true:=by kernel_rfl
theorem j_22:((Rows.fnOmegaRow.plainKeys==Tryz.pinned.checked.prog.plainKeys))=true:=by kernel_rfl
theorem j_24:(Tryz.pinned.checked.prog.stopsHeard)=true:=by kernel_rfl
theorem j_25:(Tryz.pinned.checked.prog.mayEnter)=true:=zNJ _ _ zMk zJP zMl zMn
theorem j_26:((Rows.fnOmegaRow.lifted==Tryz.pinned.checked.prog.liftsFinal))=true:=by
 rw [zJJ _ _ zMk]
 kernel_rfl
theorem j_27:((Tryz.pinned.checked.prog.make==some Rows.fnOmegaRow.make))=true:=by
 rw [zMa _ _ zMk]
 kernel_rfl
end Go.Proofs.YtaoakfodkoifoaaGreat
