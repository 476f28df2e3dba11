/- The law FnSphere gives true, whatever bytes come in. No conditions. (One of the texts of its proof, put together by a program of this session.) -/
import Derived.Test.YtfcjhkkpbnobhaaGreatRows
import Derived.Test.YtfcjhkkpbnobhaaGreatZRJ
import Derived.Test.YtfcjhkkpbnobhaaGreatZX4
import Derived.Test.YtfcjhkkpbnobhaaGreatZY
import Derived.WalkKit
import Derived.ProofKit
import Derived.OpenShut
import Derived.ShutString
import Derived.ChangeOld
import Derived.Below
import Derived.SizedLaws
import Derived.Test.YtfcjhkkpbnobhaaGreatZV
set_option linter.unusedSimpArgs false
set_option linter.unusedVariables false
namespace Go.Proofs.YtfcjhkkpbnobhaaGreat.fnSphere
open Go.ChangeShapes Go.WideShapes Go.ChangeAt Go.RowKit
open Go.ChangeMaps (open_string shut_string)
theorem own:ownKnob Tryz.prog.godebug=none:=by kernel_rfl
theorem laidOut:laidOutB Tryz.prog=true:=by kernel_rfl
def IsRow (k:IntKind) (w:World) (a:Option Addr) (len cap:Nat) (zs:List Int):Prop:=
 (a=none/\len=0/\cap=0/\zs= []) \/
 ∃x,a=some x/\len<=cap/\cap<=maxLen/\zs.length=cap/\(∀i,i<zs.length->w.cell? (x.add i)=some (.int k (zs.getD i 0)))/\∀n∈zs,(Lit.int k n).wf=true
set_option maxRecDepth 100000 in
theorem lifted (os:Os) (started:os.Started) (H:Type) (enc:TypeId×Value->H):
  ReturnsInHanded {} Tryz.checked os 5 .any (Rows.fnSphereSpec.pre6 enc Tryz.prog Tryz.f5 Rows.fnSphereRow.domain false) (Rows.fnSphereSpec.post enc Tryz.prog Tryz.f5 false true false false):=by
 refine returnsInHanded_of_change_sized (C:=Tryz.checked) own started (by kernel_rfl) Tryz.func5
  (ChangeSpec.witness6 (enc:=enc) (C:=Tryz.checked) false ⟨#[],#[.slice none 0 0],[]⟩ 8 (by kernel_rfl) (by kernel_rfl) (by kernel_rfl) (by kernel_rfl)) ?_
 intro W base args ds gs before hval0 hW hcnd hsz0 _
 have hsz:(DataW.weightsEach Tryz.prog (Tryz.f5.params.toList++Rows.fnSphereSpec.plain.varTypes Tryz.prog) (ds++gs)).all (· <= reachBytes)=true:=hsz0
 have hval:∀(j:Nat) t v,Tryz.f5.params[j]?=some t->args[j]?=some v->Value.okWide Tryz.prog W .any base t v:=hval0
 have hW':=hW
 obtain ⟨p,q,hA0,hV,rfl,hfz,hnd⟩:=hW
 have hA:DataW.TrodAll enc Tryz.prog W 0 (fun _=>true) true Tryz.f5.params.toList args.toList ds p:=hA0
 rw [Tryz.params5] at hA hval hsz
 obtain ⟨v0,vs0,d0,ds0,p0,q0,hargs,rfl,rfl,h0,r0⟩:=trodAll_cons hA
 obtain ⟨rfl,rfl,rfl⟩:=trodAll_nil r0
 obtain rfl:args=#[v0]:=by cases args;simp_all
 obtain ⟨rfl,rfl⟩:=trodVars_none hV
 obtain ⟨a0,len0,cap0,rfl⟩:=okWide_slice Tryz.underlying22 (hval 0 22 v0 rfl rfl)
 have k0:=h0
 have lt0:∀x∈p0,x.block<W.heap.size:=by obtain ⟨m,hm⟩:=k0;exact DataW.trod_lt m _ _ _ hm
 obtain ⟨z0,w0⟩:∃zs,IsRow .u8 W a0 len0 cap0 zs:=by
  obtain ⟨fuel,hf⟩:=h0
  rcases open_ints Tryz.underlying22 Tryz.underlying5 (by kernel_rfl) hf with ⟨hcs,_⟩|⟨x,l,c,zs,hcs,_,hl,hm,hz,_,hcell,hwz⟩
  ·simp [Value.cells] at hcs
   obtain ⟨rfl,rfl,rfl⟩:=hcs
   exact ⟨[],.inl ⟨rfl,rfl,rfl,rfl⟩⟩
  ·simp [Value.cells] at hcs
   obtain ⟨rfl,rfl,rfl⟩:=hcs
   exact ⟨zs,.inr ⟨_,rfl,hl,hm,by simpa using hz,hcell,hwz⟩⟩
 have y0:len0*1<=140737488351232:=Go.Proofs.YtfcjhkkpbnobhaaGreatW.PrintWords.sized_ints hsz (j:=0) (t:=22) rfl rfl Tryz.underlying22 Tryz.underlying5 (by kernel_rfl) (by kernel_rfl) h0
 clear hA0 hval0 hsz0 hsz
 refine (PFnSphere.zH.walk Pure.FnSphere a0 len0 cap0 z0 W w0 y0).mono fun e W' ⟨he,bel⟩=>?_
 subst he
 exact ⟨_,rfl,_,_,_,[],_,[],hW',trodAll_mk1 (shut_bool Tryz.underlying4 _),(trodAll_cons_mk (Below.trod laidOut (by kernel_rfl) (of_decide_eq_true (by kernel_rfl)) k0 bel lt0) trodAll_mk0),rfl,bel.frame _,fun h=>by cases h⟩
section
open Go
set_option maxRecDepth 100000
theorem fnSphere_c0:(Rows.fnSphereRow.wf (OpenSpec.ofChange Rows.fnSphereSpec))=true:=by kernel_rfl
theorem fnSphere_c3:(Tryz.f5.params.all (Tryz.pinned.checked.prog.readableRec ·))=true:=by kernel_rfl
theorem fnSphere_c4:(namedTie Tryz.pinned.checked.prog Rows.fnSphereRow.named Rows.fnSphereSpec.vars)=true:=by kernel_rfl
theorem fnSphere_c5:((Rows.fnSphereRow.stops == []))=true:=by kernel_rfl
theorem fnSphere_c7:((Rows.fnSphereRow.knobs == []))=true:=by kernel_rfl
theorem fnSphere_c9:((Rows.fnSphereRow.inPlace==Tryz.pinned.checked.prog.inPlace 5))=true:=by kernel_rfl
theorem fnSphere_c10:((Rows.fnSphereRow.unfollowed==Tryz.pinned.checked.prog.unfollowed 5))=true:=by kernel_rfl
theorem fnSphere_c11:((Rows.fnSphereRow.recurses==Tryz.pinned.checked.prog.recurses 5))=true:=by kernel_rfl
theorem fnSphere_c12:((Rows.fnSphereRow.named==Tryz.pinned.checked.prog.varsNamed 5))=true:=by kernel_rfl
theorem fnSphere_c13:((Rows.fnSphereRow.maps==(Tryz.f5.params.toList++Rows.fnSphereSpec.plain.varTypes Tryz.pinned.checked.prog).any (Tryz.pinned.checked.prog.mapsRec ·)))=true:=by kernel_rfl
theorem fnSphere_c14:((Rows.fnSphereRow.ifaces==(Tryz.f5.params.toList++Rows.fnSphereSpec.plain.varTypes Tryz.pinned.checked.prog).any (Tryz.pinned.checked.prog.ifacesRec ·)))=true:=by kernel_rfl
theorem fnSphere_c15:((Rows.fnSphereRow.mapsOut==Tryz.pinned.checked.prog.mapsAmong Tryz.f5.resultTypes.toList))=true:=by kernel_rfl
theorem fnSphere_c16:((Rows.fnSphereRow.loops==(Tryz.f5.params.toList++Rows.fnSphereSpec.plain.varTypes Tryz.pinned.checked.prog).any (Tryz.pinned.checked.prog.loopsFrom ·)))=true:=by kernel_rfl
theorem fnSphere_c17:((Rows.fnSphereRow.wideKeys==(Tryz.f5.params.toList++Rows.fnSphereSpec.plain.varTypes Tryz.pinned.checked.prog++Tryz.f5.resultTypes.toList).any (Tryz.pinned.checked.prog.wideKeysFrom ·)))=true:=by kernel_rfl
theorem fnSphere_c18:(Rows.fnSphereSpec.vars.all (Tryz.pinned.checked.prog.varReadable ·))=true:=by kernel_rfl
theorem fnSphere_c19:(Tryz.f5.resultTypes.all (fun t=>Tryz.pinned.checked.prog.readableRec t&&decide (t<Tryz.pinned.checked.prog.types.size)))=true:=by kernel_rfl
theorem fnSphere_c20:((Rows.fnSphereRow.ifacesOut==Tryz.f5.resultTypes.toList.any (Tryz.pinned.checked.prog.ifacesRec ·)))=true:=by kernel_rfl
theorem fnSphere_c21:((Rows.fnSphereRow.loopsOut==Tryz.f5.resultTypes.toList.any (Tryz.pinned.checked.prog.loopsFrom ·)))=true:=by kernel_rfl
theorem fnSphere_c23:(Rows.fnSphereRow.shortTexts.isNone)=true:=by kernel_rfl
theorem fnSphere_c28:((Rows.fnSphereRow.kinds==(if Rows.fnSphereRow.domain.isEmpty then [] else Tryz.f5.params.toList.map fun t=>match Tryz.pinned.checked.prog.underlying t with|some (.int k)=>some k|_=>none)))=true:=by kernel_rfl
theorem fnSphere_c29:((Rows.fnSphereRow.pinned==Rows.fnSphereRow.pinnedBy))=true:=by kernel_rfl
theorem fnSphere_c30:((Rows.fnSphereRow.veiled==(Tryz.f5.params.toList++Rows.fnSphereSpec.plain.varTypes Tryz.pinned.checked.prog++Tryz.f5.resultTypes.toList).any (Tryz.pinned.checked.prog.veiledRec ·)))=true:=by kernel_rfl
theorem fnSphere_c31:(Rows.fnSphereRow.veiledFits Tryz.pinned.checked.prog Tryz.f5.params.toList (Tryz.f5.params.toList++Rows.fnSphereSpec.plain.varTypes Tryz.pinned.checked.prog++Tryz.f5.resultTypes.toList))=true:=by kernel_rfl
theorem fnSphere_closed:joinedFacts Tryz.pinned.checked.prog 5 Tryz.f5 Rows.fnSphereSpec Rows.fnSphereRow=true:=by
 unfold joinedFacts
 exact (and_t (and_t (and_t (and_t (and_t (and_t (and_t (and_t (and_t (and_t (and_t (and_t (and_t (and_t (and_t (and_t (and_t (and_t (and_t (and_t (and_t (and_t (and_t (and_t (and_t (and_t (and_t (and_t (and_t (and_t (and_t fnSphere_c0 j_1) j_2) fnSphere_c3) fnSphere_c4) fnSphere_c5) j_6) fnSphere_c7) j_8) fnSphere_c9) fnSphere_c10) fnSphere_c11) fnSphere_c12) fnSphere_c13) fnSphere_c14) fnSphere_c15) fnSphere_c16) fnSphere_c17) fnSphere_c18) fnSphere_c19) fnSphere_c20) fnSphere_c21) j_22) fnSphere_c23) j_24) j_25) j_26) j_27) fnSphere_c28) fnSphere_c29) fnSphere_c30) fnSphere_c31)
end
theorem over:Rows.fnSphereRow.holds Tryz.pinned (OpenSpec.ofChange Rows.fnSphereSpec):=
 OpenClaim.holds_of_wide 5 Tryz.f5 rfl rfl rfl rfl rfl rfl rfl ⟨rfl,rfl,rfl,rfl,rfl⟩ rfl rfl rfl rfl rfl (by kernel_rfl) Tryz.func5 fnSphere_closed
  (of_decide_eq_true (by kernel_rfl)) (by unfold Func.isWrapper;first|(rw [if_pos (by decide +kernel)];kernel_rfl)|(rw [if_neg (by decide +kernel)];exact ⟨rfl,rfl⟩))
  (fun os started H enc _=>lifted os started H enc)
theorem proved:Rows.FnSphereSaid:=over
end Go.Proofs.YtfcjhkkpbnobhaaGreat.fnSphere
namespace Go.Proofs.YtfcjhkkpbnobhaaGreat
theorem fnSphere_holds:Rows.FnSphereSaid:=fnSphere.proved
end Go.Proofs.YtfcjhkkpbnobhaaGreat
