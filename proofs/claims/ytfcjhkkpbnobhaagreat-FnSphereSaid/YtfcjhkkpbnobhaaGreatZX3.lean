/- The law FnSphere gives true, whatever bytes come in. No conditions. (One of the texts of its proof, put together by a program of this session.) -/
import Derived.Test.YtfcjhkkpbnobhaaGreatZX0
set_option linter.unusedSimpArgs false
set_option linter.unusedVariables false
noncomputable section
namespace Go.Proofs.YtfcjhkkpbnobhaaGreat.PFnSphere
open Go.RowKit Go.Proofs.YtfcjhkkpbnobhaaGreatW.PrintWords Go.Proofs.YtfcjhkkpbnobhaaGreatW.PrintLast Go.Proofs.YtfcjhkkpbnobhaaGreatW.PrintMore
def zfx.f (a0_0:Int) (a0_1:Int) (a1_0:Int) (a1_1:Int):Option (Int):=(Ev.rI a0_0).bind fun ba0_0=>(Ev.rI a0_1).bind fun ba0_1=>(Ev.rI a1_0).bind fun ba1_0=>(Ev.rI a1_1).bind fun ba1_1=>some (match Ev.zdG ⟨ba0_0,ba0_1⟩ ⟨ba1_0,ba1_1⟩ with|u0=>u0.val)
theorem zfx.calls (a0_0:Int) (a0_1:Int) (a1_0:Int) (a1_1:Int) (r:Int) (w:World) (h:zfx.f a0_0 a0_1 a1_0 a1_1=some r):
  Calls Tryz.prog 17 #[.agg #[.int .i64 a0_0,.int .i64 a0_1],.agg #[.int .i64 a1_0,.int .i64 a1_1]] w fun e w'=>e= .returned (.int .i64 r)/\Below w.heap.size w w':=by
 unfold zfx.f at h
 replace h:=Option.bind_eq_some_iff.mp h
 obtain ⟨ba0_0,ha0_0,h⟩:=h
 obtain rfl:=Ev.zfM ha0_0
 replace h:=Option.bind_eq_some_iff.mp h
 obtain ⟨ba0_1,ha0_1,h⟩:=h
 obtain rfl:=Ev.zfM ha0_1
 replace h:=Option.bind_eq_some_iff.mp h
 obtain ⟨ba1_0,ha1_0,h⟩:=h
 obtain rfl:=Ev.zfM ha1_0
 replace h:=Option.bind_eq_some_iff.mp h
 obtain ⟨ba1_1,ha1_1,h⟩:=h
 obtain rfl:=Ev.zfM ha1_1
 have hs:=Ev.given_calls ((Ev.r_spec_LessI ⟨ba0_0,ba0_1⟩ ⟨ba1_0,ba1_1⟩).trans (Ev.u_spec_LessI ⟨ba0_0,ba0_1⟩ ⟨ba1_0,ba1_1⟩)) rfl w
 generalize Ev.zdG ⟨ba0_0,ba0_1⟩ ⟨ba1_0,ba1_1⟩=y_ at *
 skip
 simp only [Option.some.injEq] at h
 obtain rfl:=h
 exact hs
def zaI.f (a0_0:Int) (a0_1:Int) (a1_0:Int) (a1_1:Int):Option (Bool):=(Ev.rI a0_0).bind fun ba0_0=>(Ev.rI a0_1).bind fun ba0_1=>(Ev.rI a1_0).bind fun ba1_0=>(Ev.rI a1_1).bind fun ba1_1=>some (match Ev.zaK ⟨ba0_0,ba0_1⟩ ⟨ba1_0,ba1_1⟩ with|u0=>u0)
theorem zaI.calls (a0_0:Int) (a0_1:Int) (a1_0:Int) (a1_1:Int) (r:Bool) (w:World) (h:zaI.f a0_0 a0_1 a1_0 a1_1=some r):
  Calls Tryz.prog 29 #[.agg #[.int .i64 a0_0,.int .i64 a0_1],.agg #[.int .i64 a1_0,.int .i64 a1_1]] w fun e w'=>e= .returned (.bool r)/\Below w.heap.size w w':=by
 unfold zaI.f at h
 replace h:=Option.bind_eq_some_iff.mp h
 obtain ⟨ba0_0,ha0_0,h⟩:=h
 obtain rfl:=Ev.zfM ha0_0
 replace h:=Option.bind_eq_some_iff.mp h
 obtain ⟨ba0_1,ha0_1,h⟩:=h
 obtain rfl:=Ev.zfM ha0_1
 replace h:=Option.bind_eq_some_iff.mp h
 obtain ⟨ba1_0,ha1_0,h⟩:=h
 obtain rfl:=Ev.zfM ha1_0
 replace h:=Option.bind_eq_some_iff.mp h
 obtain ⟨ba1_1,ha1_1,h⟩:=h
 obtain rfl:=Ev.zfM ha1_1
 have hs:=Ev.given_calls ((Ev.r_spec_OverlapI ⟨ba0_0,ba0_1⟩ ⟨ba1_0,ba1_1⟩).trans (Ev.u_spec_OverlapI ⟨ba0_0,ba0_1⟩ ⟨ba1_0,ba1_1⟩)) rfl w
 generalize Ev.zaK ⟨ba0_0,ba0_1⟩ ⟨ba1_0,ba1_1⟩=y_ at *
 skip
 simp only [Option.some.injEq] at h
 obtain rfl:=h
 exact hs
def zX.f (a0_0:Int) (a0_1:Int) (a1_0:Int) (a1_1:Int):Option (Int×Int×Int):=(Ev.rI a0_0).bind fun ba0_0=>(Ev.rI a0_1).bind fun ba0_1=>(Ev.rI a1_0).bind fun ba1_0=>(Ev.rI a1_1).bind fun ba1_1=>some (match Ev.zD ⟨ba0_0,ba0_1⟩ ⟨ba1_0,ba1_1⟩ with|⟨⟨u0,u1⟩,u2⟩=>(u0.val,u1.val,u2.val))
theorem zX.calls (a0_0:Int) (a0_1:Int) (a1_0:Int) (a1_1:Int) (r1:Int) (r2:Int) (r3:Int) (w:World) (h:zX.f a0_0 a0_1 a1_0 a1_1=some (r1,r2,r3)):
  Calls Tryz.prog 31 #[.agg #[.int .i64 a0_0,.int .i64 a0_1],.agg #[.int .i64 a1_0,.int .i64 a1_1]] w fun e w'=>e= .returned (.tuple #[.agg #[.int .i64 r1,.int .i64 r2],.int .i64 r3])/\Below w.heap.size w w':=by
 unfold zX.f at h
 replace h:=Option.bind_eq_some_iff.mp h
 obtain ⟨ba0_0,ha0_0,h⟩:=h
 obtain rfl:=Ev.zfM ha0_0
 replace h:=Option.bind_eq_some_iff.mp h
 obtain ⟨ba0_1,ha0_1,h⟩:=h
 obtain rfl:=Ev.zfM ha0_1
 replace h:=Option.bind_eq_some_iff.mp h
 obtain ⟨ba1_0,ha1_0,h⟩:=h
 obtain rfl:=Ev.zfM ha1_0
 replace h:=Option.bind_eq_some_iff.mp h
 obtain ⟨ba1_1,ha1_1,h⟩:=h
 obtain rfl:=Ev.zfM ha1_1
 have hs:=Ev.given_calls ((Ev.r_impl_AngleBetween ⟨ba0_0,ba0_1⟩ ⟨ba1_0,ba1_1⟩).trans (Ev.u_impl_AngleBetween ⟨ba0_0,ba0_1⟩ ⟨ba1_0,ba1_1⟩)) rfl w
 generalize Ev.zD ⟨ba0_0,ba0_1⟩ ⟨ba1_0,ba1_1⟩=y_ at *
 obtain ⟨⟨u0,u1⟩,u2⟩:=y_
 simp only [Option.some.injEq,Prod.mk.injEq] at h
 obtain ⟨rfl,rfl,rfl⟩:=h
 exact hs
def zbO.f (a0_0:Int) (a0_1:Int) (a1_0:Int) (a1_1:Int):Option (Int×Int×Int):=(Ev.rI a0_0).bind fun ba0_0=>(Ev.rI a0_1).bind fun ba0_1=>(Ev.rI a1_0).bind fun ba1_0=>(Ev.rI a1_1).bind fun ba1_1=>some (match Ev.zdl ⟨ba0_0,ba0_1⟩ ⟨ba1_0,ba1_1⟩ with|⟨⟨u0,u1⟩,u2⟩=>(u0.val,u1.val,u2.val))
theorem zbO.calls (a0_0:Int) (a0_1:Int) (a1_0:Int) (a1_1:Int) (r1:Int) (r2:Int) (r3:Int) (w:World) (h:zbO.f a0_0 a0_1 a1_0 a1_1=some (r1,r2,r3)):
  Calls Tryz.prog 32 #[.agg #[.int .i64 a0_0,.int .i64 a0_1],.agg #[.int .i64 a1_0,.int .i64 a1_1]] w fun e w'=>e= .returned (.tuple #[.agg #[.int .i64 r1,.int .i64 r2],.int .i64 r3])/\Below w.heap.size w w':=by
 unfold zbO.f at h
 replace h:=Option.bind_eq_some_iff.mp h
 obtain ⟨ba0_0,ha0_0,h⟩:=h
 obtain rfl:=Ev.zfM ha0_0
 replace h:=Option.bind_eq_some_iff.mp h
 obtain ⟨ba0_1,ha0_1,h⟩:=h
 obtain rfl:=Ev.zfM ha0_1
 replace h:=Option.bind_eq_some_iff.mp h
 obtain ⟨ba1_0,ha1_0,h⟩:=h
 obtain rfl:=Ev.zfM ha1_0
 replace h:=Option.bind_eq_some_iff.mp h
 obtain ⟨ba1_1,ha1_1,h⟩:=h
 obtain rfl:=Ev.zfM ha1_1
 have hs:=Ev.given_calls ((Ev.r_spec_AngleBetween ⟨ba0_0,ba0_1⟩ ⟨ba1_0,ba1_1⟩).trans (Ev.u_spec_AngleBetween ⟨ba0_0,ba0_1⟩ ⟨ba1_0,ba1_1⟩)) rfl w
 generalize Ev.zdl ⟨ba0_0,ba0_1⟩ ⟨ba1_0,ba1_1⟩=y_ at *
 obtain ⟨⟨u0,u1⟩,u2⟩:=y_
 simp only [Option.some.injEq,Prod.mk.injEq] at h
 obtain ⟨rfl,rfl,rfl⟩:=h
 exact hs
def zcZ.f (a0_0:Int) (a0_1:Int):Option (Int×Int×Int):=(Ev.rI a0_0).bind fun ba0_0=>(Ev.rI a0_1).bind fun ba0_1=>some (match Ev.zfj ⟨ba0_0,ba0_1⟩ with|⟨⟨u0,u1⟩,u2⟩=>(u0.val,u1.val,u2.val))
theorem zcZ.calls (a0_0:Int) (a0_1:Int) (r1:Int) (r2:Int) (r3:Int) (w:World) (h:zcZ.f a0_0 a0_1=some (r1,r2,r3)):
  Calls Tryz.prog 33 #[.agg #[.int .i64 a0_0,.int .i64 a0_1]] w fun e w'=>e= .returned (.tuple #[.agg #[.int .i64 r1,.int .i64 r2],.int .i64 r3])/\Below w.heap.size w w':=by
 unfold zcZ.f at h
 replace h:=Option.bind_eq_some_iff.mp h
 obtain ⟨ba0_0,ha0_0,h⟩:=h
 obtain rfl:=Ev.zfM ha0_0
 replace h:=Option.bind_eq_some_iff.mp h
 obtain ⟨ba0_1,ha0_1,h⟩:=h
 obtain rfl:=Ev.zfM ha0_1
 have hs:=Ev.given_calls ((Ev.r_spec_Antipode ⟨ba0_0,ba0_1⟩).trans (Ev.u_spec_Antipode ⟨ba0_0,ba0_1⟩)) rfl w
 generalize Ev.zfj ⟨ba0_0,ba0_1⟩=y_ at *
 obtain ⟨⟨u0,u1⟩,u2⟩:=y_
 simp only [Option.some.injEq,Prod.mk.injEq] at h
 obtain ⟨rfl,rfl,rfl⟩:=h
 exact hs
def zcF.f (a0_0:Int) (a0_1:Int) (a1_0:Int) (a1_1:Int):Option (Int×Int):=(Ev.rI a0_0).bind fun ba0_0=>(Ev.rI a0_1).bind fun ba0_1=>(Ev.rI a1_0).bind fun ba1_0=>(Ev.rI a1_1).bind fun ba1_1=>some (match Ev.zan ⟨ba0_0,ba0_1⟩ ⟨ba1_0,ba1_1⟩ with|⟨u0,u1⟩=>(u0.val,u1.val))
theorem zcF.calls (a0_0:Int) (a0_1:Int) (a1_0:Int) (a1_1:Int) (r1:Int) (r2:Int) (w:World) (h:zcF.f a0_0 a0_1 a1_0 a1_1=some (r1,r2)):
  Calls Tryz.prog 34 #[.agg #[.int .i64 a0_0,.int .i64 a0_1],.agg #[.int .i64 a1_0,.int .i64 a1_1]] w fun e w'=>e= .returned (.agg #[.int .i64 r1,.int .i64 r2])/\Below w.heap.size w w':=by
 unfold zcF.f at h
 replace h:=Option.bind_eq_some_iff.mp h
 obtain ⟨ba0_0,ha0_0,h⟩:=h
 obtain rfl:=Ev.zfM ha0_0
 replace h:=Option.bind_eq_some_iff.mp h
 obtain ⟨ba0_1,ha0_1,h⟩:=h
 obtain rfl:=Ev.zfM ha0_1
 replace h:=Option.bind_eq_some_iff.mp h
 obtain ⟨ba1_0,ha1_0,h⟩:=h
 obtain rfl:=Ev.zfM ha1_0
 replace h:=Option.bind_eq_some_iff.mp h
 obtain ⟨ba1_1,ha1_1,h⟩:=h
 obtain rfl:=Ev.zfM ha1_1
 have hs:=Ev.given_calls ((Ev.r_spec_AddI ⟨ba0_0,ba0_1⟩ ⟨ba1_0,ba1_1⟩).trans (Ev.u_spec_AddI ⟨ba0_0,ba0_1⟩ ⟨ba1_0,ba1_1⟩)) rfl w
 generalize Ev.zan ⟨ba0_0,ba0_1⟩ ⟨ba1_0,ba1_1⟩=y_ at *
 obtain ⟨u0,u1⟩:=y_
 simp only [Option.some.injEq,Prod.mk.injEq] at h
 obtain ⟨rfl,rfl⟩:=h
 exact hs
def zeo.f  : Option (Int×Int):=some (match Ev.F_spec_PiI  with|⟨u0,u1⟩=>(u0.val,u1.val))
theorem zeo.calls  (r1:Int) (r2:Int) (w:World) (h:zeo.f  = some (r1,r2)):
  Calls Tryz.prog 35 #[] w fun e w'=>e= .returned (.agg #[.int .i64 r1,.int .i64 r2])/\Below w.heap.size w w':=by
 unfold zeo.f at h
 have hs:=Ev.given_calls ((Ev.r_spec_PiI).trans (Ev.u_spec_PiI)) rfl w
 generalize Ev.F_spec_PiI  = y_ at *
 obtain ⟨u0,u1⟩:=y_
 simp only [Option.some.injEq,Prod.mk.injEq] at h
 obtain ⟨rfl,rfl⟩:=h
 exact hs
end Go.Proofs.YtfcjhkkpbnobhaaGreat.PFnSphere
