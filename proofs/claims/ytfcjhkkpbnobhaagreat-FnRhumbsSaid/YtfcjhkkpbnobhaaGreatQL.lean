/- The law FnRhumbs gives true, whatever bytes come in. No conditions. (One of the texts of its proof, put together by a program of this session.) -/
import Derived.Test.YtfcjhkkpbnobhaaGreatRows
import Derived.Test.YtfcjhkkpbnobhaaGreatQRJ
import Derived.Test.YtfcjhkkpbnobhaaGreatQY
import Derived.WalkKit
import Derived.ProofKit
import Derived.OpenShut
import Derived.ShutString
import Derived.ChangeOld
import Derived.Below
import Derived.SizedLaws
import Derived.Test.YtfcjhkkpbnobhaaGreatQV
set_option linter.unusedSectionVars false
set_option linter.unusedSimpArgs false
set_option linter.unusedVariables false
namespace Go.Proofs.YtfcjhkkpbnobhaaGreat.fnRhumbs
open Go.ChangeShapes Go.WideShapes Go.ChangeAt Go.RowKit
open Go.ChangeMaps (open_string shut_string)
theorem own:ownKnob Tryz.prog.godebug=none:=by kernel_rfl
theorem laidOut:laidOutB Tryz.prog=true:=by kernel_rfl
def IsRow (k:IntKind) (w:World) (a:Option Addr) (len cap:Nat) (zs:List Int):Prop:=
 (a=none/\len=0/\cap=0/\zs= []) \/
 ∃x,a=some x/\len<=cap/\cap<=maxLen/\zs.length=cap/\(∀i,i<zs.length->w.cell? (x.add i)=some (.int k (zs.getD i 0)))/\∀n∈zs,(Lit.int k n).wf=true
set_option maxRecDepth 100000 in
theorem lifted (os:Os) (started:os.Started) (H:Type) (enc:TypeId×Value->H):
  ReturnsInHanded {} Tryz.checked os 7 .any (Rows.fnRhumbsSpec.pre6 enc Tryz.prog Tryz.f7 Rows.fnRhumbsRow.domain false) (Rows.fnRhumbsSpec.post enc Tryz.prog Tryz.f7 false true false false):=by
 refine returnsInHanded_of_change_sized (C:=Tryz.checked) own started (by kernel_rfl) Tryz.func7
  (ChangeSpec.witness6 (enc:=enc) (C:=Tryz.checked) false ⟨#[],#[.slice none 0 0],[]⟩ 8 (by kernel_rfl) (by kernel_rfl) (by kernel_rfl) (by kernel_rfl)) ?_
 intro W base args ds gs before hval0 hW hcnd hsz0 _
 have hsz:(DataW.weightsEach Tryz.prog (Tryz.f7.params.toList++Rows.fnRhumbsSpec.plain.varTypes Tryz.prog) (ds++gs)).all (· <= reachBytes)=true:=hsz0
 have hval:∀(j:Nat) t v,Tryz.f7.params[j]?=some t->args[j]?=some v->Value.okWide Tryz.prog W .any base t v:=hval0
 have hW':=hW
 obtain ⟨p,q,hA0,hV,rfl,hfz,hnd⟩:=hW
 have hA:DataW.TrodAll enc Tryz.prog W 0 (fun _=>true) true Tryz.f7.params.toList args.toList ds p:=hA0
 rw [Tryz.params7] at hA hval hsz
 obtain ⟨v0,vs0,d0,ds0,p0,q0,hargs,rfl,rfl,h0,r0⟩:=trodAll_cons hA
 obtain ⟨rfl,rfl,rfl⟩:=trodAll_nil r0
 obtain rfl:args=#[v0]:=by cases args;simp_all
 obtain ⟨rfl,rfl⟩:=trodVars_none hV
 obtain ⟨a0,len0,cap0,rfl⟩:=okWide_slice Tryz.underlying22 (hval 0 22 v0 rfl rfl)
 have k0:=h0
 have lt0:∀x∈p0,x.block<W.heap.size:=by obtain ⟨m,hm⟩:=k0;exact DataW.trod_lt m _ _ _ hm
 obtain ⟨z0,w0⟩:∃zs,IsRow .u8 W a0 len0 cap0 zs:=by
  obtain ⟨fuel,hf⟩:=h0
  rcases open_ints Tryz.underlying22 Tryz.underlying5 (by kernel_rfl) hf with ⟨hcs,_⟩|⟨x,l,c,zs,hcs,_,hl,hm,hz,_,hcell,hwz⟩
  ·simp [Value.cells] at hcs
   obtain ⟨rfl,rfl,rfl⟩:=hcs
   exact ⟨[],.inl ⟨rfl,rfl,rfl,rfl⟩⟩
  ·simp [Value.cells] at hcs
   obtain ⟨rfl,rfl,rfl⟩:=hcs
   exact ⟨zs,.inr ⟨_,rfl,hl,hm,by simpa using hz,hcell,hwz⟩⟩
 have y0:len0*1<=140737488351232:=Go.Proofs.YtfcjhkkpbnobhaaGreatW.PrintWords.sized_ints hsz (j:=0) (t:=22) rfl rfl Tryz.underlying22 Tryz.underlying5 (by kernel_rfl) (by kernel_rfl) h0
 clear hA0 hval0 hsz0 hsz
 refine (Pure.FnRhumbs_walk a0 len0 cap0 z0 W w0 y0).mono fun e W' ⟨he,bel⟩=>?_
 subst he
 exact ⟨_,rfl,_,_,_,[],_,[],hW',trodAll_mk1 (shut_bool Tryz.underlying4 _),(trodAll_cons_mk (Below.trod laidOut (by kernel_rfl) (of_decide_eq_true (by kernel_rfl)) k0 bel lt0) trodAll_mk0),rfl,bel.frame _,fun h=>by cases h⟩
section
open Go
set_option maxRecDepth 100000
theorem fnRhumbs_c0:(Rows.fnRhumbsRow.wf (OpenSpec.ofChange Rows.fnRhumbsSpec))=true:=by kernel_rfl
theorem fnRhumbs_c3:(Tryz.f7.params.all (Tryz.pinned.checked.prog.readableRec ·))=true:=by kernel_rfl
theorem fnRhumbs_c4:(namedTie Tryz.pinned.checked.prog Rows.fnRhumbsRow.named Rows.fnRhumbsSpec.vars)=true:=by kernel_rfl
theorem fnRhumbs_c5:((Rows.fnRhumbsRow.stops == []))=true:=by kernel_rfl
theorem fnRhumbs_c7:((Rows.fnRhumbsRow.knobs == []))=true:=by kernel_rfl
theorem fnRhumbs_c9:((Rows.fnRhumbsRow.inPlace==Tryz.pinned.checked.prog.inPlace 7))=true:=by kernel_rfl
theorem fnRhumbs_c10:((Rows.fnRhumbsRow.unfollowed==Tryz.pinned.checked.prog.unfollowed 7))=true:=by kernel_rfl
theorem fnRhumbs_c11:((Rows.fnRhumbsRow.recurses==Tryz.pinned.checked.prog.recurses 7))=true:=by kernel_rfl
theorem fnRhumbs_c12:((Rows.fnRhumbsRow.named==Tryz.pinned.checked.prog.varsNamed 7))=true:=by kernel_rfl
theorem fnRhumbs_c13:((Rows.fnRhumbsRow.maps==(Tryz.f7.params.toList++Rows.fnRhumbsSpec.plain.varTypes Tryz.pinned.checked.prog).any (Tryz.pinned.checked.prog.mapsRec ·)))=true:=by kernel_rfl
theorem fnRhumbs_c14:((Rows.fnRhumbsRow.ifaces==(Tryz.f7.params.toList++Rows.fnRhumbsSpec.plain.varTypes Tryz.pinned.checked.prog).any (Tryz.pinned.checked.prog.ifacesRec ·)))=true:=by kernel_rfl
theorem fnRhumbs_c15:((Rows.fnRhumbsRow.mapsOut==Tryz.pinned.checked.prog.mapsAmong Tryz.f7.resultTypes.toList))=true:=by kernel_rfl
theorem fnRhumbs_c16:((Rows.fnRhumbsRow.loops==(Tryz.f7.params.toList++Rows.fnRhumbsSpec.plain.varTypes Tryz.pinned.checked.prog).any (Tryz.pinned.checked.prog.loopsFrom ·)))=true:=by kernel_rfl
theorem fnRhumbs_c17:((Rows.fnRhumbsRow.wideKeys==(Tryz.f7.params.toList++Rows.fnRhumbsSpec.plain.varTypes Tryz.pinned.checked.prog++Tryz.f7.resultTypes.toList).any (Tryz.pinned.checked.prog.wideKeysFrom ·)))=true:=by kernel_rfl
theorem fnRhumbs_c18:(Rows.fnRhumbsSpec.vars.all (Tryz.pinned.checked.prog.varReadable ·))=true:=by kernel_rfl
theorem fnRhumbs_c19:(Tryz.f7.resultTypes.all (fun t=>Tryz.pinned.checked.prog.readableRec t&&decide (t<Tryz.pinned.checked.prog.types.size)))=true:=by kernel_rfl
theorem fnRhumbs_c20:((Rows.fnRhumbsRow.ifacesOut==Tryz.f7.resultTypes.toList.any (Tryz.pinned.checked.prog.ifacesRec ·)))=true:=by kernel_rfl
theorem fnRhumbs_c21:((Rows.fnRhumbsRow.loopsOut==Tryz.f7.resultTypes.toList.any (Tryz.pinned.checked.prog.loopsFrom ·)))=true:=by kernel_rfl
theorem fnRhumbs_c23:(Rows.fnRhumbsRow.shortTexts.isNone)=true:=by kernel_rfl
theorem fnRhumbs_c28:((Rows.fnRhumbsRow.kinds==(if Rows.fnRhumbsRow.domain.isEmpty then [] else Tryz.f7.params.toList.map fun t=>match Tryz.pinned.checked.prog.underlying t with|some (.int k)=>some k|_=>none)))=true:=by kernel_rfl
theorem fnRhumbs_c29:((Rows.fnRhumbsRow.pinned==Rows.fnRhumbsRow.pinnedBy))=true:=by kernel_rfl
theorem fnRhumbs_c30:((Rows.fnRhumbsRow.veiled==(Tryz.f7.params.toList++Rows.fnRhumbsSpec.plain.varTypes Tryz.pinned.checked.prog++Tryz.f7.resultTypes.toList).any (Tryz.pinned.checked.prog.veiledRec ·)))=true:=by kernel_rfl
theorem fnRhumbs_c31:(Rows.fnRhumbsRow.veiledFits Tryz.pinned.checked.prog Tryz.f7.params.toList (Tryz.f7.params.toList++Rows.fnRhumbsSpec.plain.varTypes Tryz.pinned.checked.prog++Tryz.f7.resultTypes.toList))=true:=by kernel_rfl
theorem fnRhumbs_closed:joinedFacts Tryz.pinned.checked.prog 7 Tryz.f7 Rows.fnRhumbsSpec Rows.fnRhumbsRow=true:=by
 unfold joinedFacts
 exact (and_t (and_t (and_t (and_t (and_t (and_t (and_t (and_t (and_t (and_t (and_t (and_t (and_t (and_t (and_t (and_t (and_t (and_t (and_t (and_t (and_t (and_t (and_t (and_t (and_t (and_t (and_t (and_t (and_t (and_t (and_t fnRhumbs_c0 j_1) j_2) fnRhumbs_c3) fnRhumbs_c4) fnRhumbs_c5) j_6) fnRhumbs_c7) j_8) fnRhumbs_c9) fnRhumbs_c10) fnRhumbs_c11) fnRhumbs_c12) fnRhumbs_c13) fnRhumbs_c14) fnRhumbs_c15) fnRhumbs_c16) fnRhumbs_c17) fnRhumbs_c18) fnRhumbs_c19) fnRhumbs_c20) fnRhumbs_c21) j_22) fnRhumbs_c23) j_24) j_25) j_26) j_27) fnRhumbs_c28) fnRhumbs_c29) fnRhumbs_c30) fnRhumbs_c31)
end
theorem over:Rows.fnRhumbsRow.holds Tryz.pinned (OpenSpec.ofChange Rows.fnRhumbsSpec):=
 OpenClaim.holds_of_wide 7 Tryz.f7 rfl rfl rfl rfl rfl rfl rfl ⟨rfl,rfl,rfl,rfl,rfl⟩ rfl rfl rfl rfl rfl (by kernel_rfl) Tryz.func7 fnRhumbs_closed
  (of_decide_eq_true (by kernel_rfl)) (by unfold Func.isWrapper;first|(rw [if_pos (by decide +kernel)];kernel_rfl)|(rw [if_neg (by decide +kernel)];exact ⟨rfl,rfl⟩))
  (fun os started H enc _=>lifted os started H enc)
theorem proved:Rows.FnRhumbsSaid:=over
end Go.Proofs.YtfcjhkkpbnobhaaGreat.fnRhumbs
namespace Go.Proofs.YtfcjhkkpbnobhaaGreat
theorem fnRhumbs_holds:Rows.FnRhumbsSaid:=fnRhumbs.proved
end Go.Proofs.YtfcjhkkpbnobhaaGreat
