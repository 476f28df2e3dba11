/- The law FnSphere gives true, whatever bytes come in. No conditions. (One of the texts of its proof, put together by a program of this session.) -/
import Derived.Test.YtfcjhkkpbnobhaaGreatZX4
import Derived.Test.YtfcjhkkpbnobhaaGreatZD
import Derived.Test.YtfcjhkkpbnobhaaGreatZB
set_option linter.unusedSimpArgs false
set_option linter.unusedVariables false
namespace Go.Proofs.YtfcjhkkpbnobhaaGreat.Pure
open Go Go.RowKit Go.Proofs.YtfcjhkkpbnobhaaGreat.PFnSphere Go.Proofs.YtfcjhkkpbnobhaaGreat.DFnSphere
open Ev (zbb Iv I64 rI rI_self rI_ok)
theorem pt_ok {a b:Int} (h:VP a b):∃p:zbb,p.lat.val=a/\p.lon.val=b/\Ev.zaf p=true:=by
 obtain ⟨h1,h2,h3,h4⟩:=h
 obtain ⟨x,_,e1⟩:=rI_ok (n:=a) (by omega) (by omega)
 obtain ⟨y,_,e2⟩:=rI_ok (n:=b) (by omega) (by omega)
 exact ⟨⟨x,y⟩,e1,e2,Nc.ok_iff.2 (by simp only;omega)⟩
theorem angF (p q:zbb):zX.f p.lat.val p.lon.val q.lat.val q.lon.val=some ((Ev.zD p q).a.lo.val,(Ev.zD p q).a.hi.val,(Ev.zD p q).b.val):=by
 unfold zX.f;simp only [rI_self,Option.bind_some]
theorem angS (p q:zbb):zbO.f p.lat.val p.lon.val q.lat.val q.lon.val=some ((Ev.zD p q).a.lo.val,(Ev.zD p q).a.hi.val,(Ev.zD p q).b.val):=by
 unfold zbO.f;simp only [rI_self,Option.bind_some,Ev.angleBetween_eq]
theorem antF {p:zbb} (h:Ev.zaf p=true):zcZ.f p.lat.val p.lon.val=some ((Nc.Far p).lat.val,(Nc.Far p).lon.val,0):=by
 unfold zcZ.f;simp only [rI_self,Option.bind_some,Nc.far_val h]
theorem piF:zeo.f=some (Ev.F_spec_PiI.lo.val,Ev.F_spec_PiI.hi.val):=by unfold zeo.f;rfl
theorem lessF (a b:Iv):zfx.f a.lo.val a.hi.val b.lo.val b.hi.val=some (Ev.zdG a b).val:=by
 unfold zfx.f;simp only [rI_self,Option.bind_some]
theorem overF (a b:Iv):zaI.f a.lo.val a.hi.val b.lo.val b.hi.val=some (Ev.zaK a b):=by
 unfold zaI.f;simp only [rI_self,Option.bind_some]
theorem addF (a b:Iv):zcF.f a.lo.val a.hi.val b.lo.val b.hi.val=some ((Ev.zan a b).lo.val,(Ev.zan a b).hi.val):=by
 unfold zcF.f;simp only [rI_self,Option.bind_some]
theorem j1_ok {p q r:zbb} (h1:Ev.zaf p=true) (h2:Ev.zaf q=true) (h3:Ev.zaf r=true) (h:(Ev.zD p q).b.val=0) (k:Nat):
  zH.j1 (k+1) (Ev.zD p r).b.val (Ev.zD r q).b.val false (Ev.zD p q).a.lo.val (Ev.zD p q).a.hi.val
   (Ev.zD p r).a.lo.val (Ev.zD p r).a.hi.val (Ev.zD r q).a.lo.val (Ev.zD r q).a.hi.val=some true:=by
 have t:=Nc.sphere_tri h1 h2 h3 h
 simp only [zH.j1,addF,lessF,Option.bind_some]
 generalize Ev.zD p r=y at *
 generalize Ev.zD r q=z at *
 by_cases c:y.b.val=0
 ·by_cases d:z.b.val=0
  ·have hb:((Ev.zdG (Ev.zan y.a z.a) (Ev.zD p q).a).val != 1)=true:=by simpa using t c d
   simp only [c,d,if_true,hb];rfl
  ·simp only [c,d,if_true,if_false];rfl
 ·simp only [c,if_false];rfl
theorem FnSphere:zH.Pure:=by
 intro l0 _ _ hw
 refine ⟨20,?_⟩
 unfold zH.f
 by_cases hl:(l0.length:Int)>1048576
 ·rw [if_pos hl]
 rw [if_neg hl]
 obtain ⟨a,b,c,d,e,f,e0,v1,v2,v3⟩:=points_ok (bytes_of (by omega) hw) (k:=20) (by decide)
 obtain ⟨p,rfl,rfl,hp⟩:=pt_ok v1
 obtain ⟨q,rfl,rfl,hq⟩:=pt_ok v2
 obtain ⟨r,rfl,rfl,hr⟩:=pt_ok v3
 rw [e0]
 simp only [Option.bind_some,angF,Nc.angle_comm hp hq]
 by_cases c:(Ev.zD p q).b.val=0
 ·have j:=j1_ok hp hq hr c 18
  have s:=Nc.sphere_same hp hq c
  rw [Nc.angle_comm hp hq] at s
  have g:=Nc.sphere_far hp hq c
  rw [if_pos c]
  have nb:((Ev.zD p q).b.val != 0)=false:=by simp [c]
  rw [nb]
  simp only [zH.j0,antF hp,angF,overF,addF,piF,Option.bind_some,s,if_true]
  generalize Ev.zD (Nc.Far p) q=z at *
  by_cases d:z.b.val=0
  ·simp only [d,if_true,g d,Bool.not_true]
   exact j
  ·simp only [d,if_false]
   exact j
 ·rw [if_neg c]
  simp only [zH.j0,angS,Option.bind_some,if_true,BEq.rfl]
end Go.Proofs.YtfcjhkkpbnobhaaGreat.Pure
