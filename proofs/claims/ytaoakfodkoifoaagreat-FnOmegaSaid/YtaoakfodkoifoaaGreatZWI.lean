/- The law FnOmega gives true, whatever comes in; each argument reads behind the call as it read before. No conditions. (One of the texts of its proof, put together by a program of this session.) -/
import Derived.Test.YtaoakfodkoifoaaGreatZW8
set_option linter.unusedSectionVars false
set_option linter.unusedSimpArgs false
set_option linter.unusedVariables false
noncomputable section
namespace Go.Proofs.YtaoakfodkoifoaaGreat.Ev
open Go Go.RowKit
set_option maxRecDepth 100000
section
variable [Amb]
instance:Inhabited Geo:=⟨⟨default,default,default,default,default⟩⟩
instance:Inhabited GeoS:=⟨⟨default,default,default,default,default,default,default⟩⟩
def zoe (a0:Iv) (a1:Iv):Tr (Iv):=
 .br (!(za a0)) (.leaf zh) (.br (!(za a1)) (.leaf zh) (.leaf (zU (zC a0.lo a1.lo) (zC a0.hi a1.hi))))
def zhD:Iv->Iv->Iv:=fun a0 a1=>(zoe a0 a1).get
def B136:Bod Tryz.prog:=⟨136,Tryz.f136,Tryz.f136.body.getD .skip,Tryz.func136,by kernel_rfl,by kernel_rfl,zar.no _ _⟩
def zPT:Tb Tryz.prog:= {T:= [Y2,Y32],mix:=mix,Es:= [zah,zbl],Bs:= [],d:=1}
def zon (a0:Iv) (a1:Iv):Tr (Iv):=
 .br (!(zaU a0 a1)) (.leaf zD) (.leaf ⟨(mn a0.lo a1.lo),(mn a0.hi a1.hi)⟩)
theorem zCL (a0:Iv) (a1:Iv):zPT.run B136 [enc a0,enc a1] (Iv)=(zon a0 a1).opt:=by kernel_rfl
def zmQ:Iv->Iv->Iv:=fun a0 a1=>(zon a0 a1).get
theorem zCh (a0:Iv) (a1:Iv):(zon a0 a1).opt=some (zmQ a0 a1):=Tr.zX (by kernel_rfl)
def zDN:Ent Tryz.prog:= .of2 zPT B136 (fun _ _=>true) zmQ fun a0 a1 _=>(zCL a0 a1).trans (zCh a0 a1)
def zqN (a0:Iv) (a1:Iv):Tr (Iv):=
 .br (!(za a0)) (.leaf zh) (.br (!(za a1)) (.leaf zh) (.leaf (zU (zt a0.lo a1.lo) (zt a0.hi a1.hi))))
def zkE:Iv->Iv->Iv:=fun a0 a1=>(zqN a0 a1).get
def B200:Bod Tryz.prog:=⟨200,Tryz.f200,Tryz.f200.body.getD .skip,Tryz.func200,by kernel_rfl,by kernel_rfl,zar.no _ _⟩
def zPq:Tb Tryz.prog:= {T:= [Y2,Y32],mix:=mix,Es:= [zah,zbl],Bs:= [],d:=1}
def zoo (a0:Iv) (a1:Iv):Tr (Iv):=
 .br (!(zaU a0 a1)) (.leaf zD) (.leaf ⟨(mx a0.lo a1.lo),(mx a0.hi a1.hi)⟩)
theorem zCM (a0:Iv) (a1:Iv):zPq.run B200 [enc a0,enc a1] (Iv)=(zoo a0 a1).opt:=by kernel_rfl
def zmR:Iv->Iv->Iv:=fun a0 a1=>(zoo a0 a1).get
theorem zCi (a0:Iv) (a1:Iv):(zoo a0 a1).opt=some (zmR a0 a1):=Tr.zX (by kernel_rfl)
def zDO:Ent Tryz.prog:= .of2 zPq B200 (fun _ _=>true) zmR fun a0 a1 _=>(zCM a0 a1).trans (zCi a0 a1)
def Y101:TyE Tryz.prog:=⟨101,14,(.struct [(0,25,3),(3,32,2),(5,32,2),(7,32,2),(9,2,1),(10,32,2),(12,32,2)]),[.i64 ⟨0,rfl⟩,.i64 ⟨0,rfl⟩,.i64 ⟨0,rfl⟩,.i64 ⟨0,rfl⟩,.i64 ⟨0,rfl⟩,.i64 ⟨0,rfl⟩,.i64 ⟨0,rfl⟩,.i64 ⟨0,rfl⟩,.i64 ⟨0,rfl⟩,.i64 ⟨0,rfl⟩,.i64 ⟨0,rfl⟩,.i64 ⟨0,rfl⟩,.i64 ⟨0,rfl⟩,.i64 ⟨0,rfl⟩],false,by kernel_rfl,by kernel_rfl,by kernel_rfl,by kernel_rfl,by kernel_rfl,by kernel_rfl⟩
def znS (d0:GeoS) (a0:Iv):Tr (Iv):=
 .leaf (zk (zf ⟨2,rfl⟩) (zc6 (zaD (zkE (zf ⟨0,rfl⟩) (zq (zay (zan (zdW (zG d0.v d0.u)))) (zk (zk (zbR d0.u) (zbR d0.v)) (zay (zan (zdW a0)))))))))
def zie:GeoS->Iv->Iv:=fun d0 a0=>(znS d0 a0).get
def zmY (d0:GeoS):Tr (Iv):=
 let c1:=zie d0 d0.l;.leaf (zb6 (zk (zmb d0.e) c1) (zk d0.major c1))
def zcH:GeoS->Iv:=fun d0=>(zmY d0).get
def zfI (d0:GeoS):Tr (Iv):=
 .leaf (zN d0.l (zo d0.l (zG (zf ⟨1,rfl⟩) (zbw d0.e))))
def zbb:GeoS->Iv:=fun d0=>(zfI d0).get
def Y115:TyE Tryz.prog:=⟨115,10,(.struct [(0,25,3),(3,32,2),(5,32,2),(7,32,2),(9,4,1)]),[.i64 ⟨0,rfl⟩,.i64 ⟨0,rfl⟩,.i64 ⟨0,rfl⟩,.i64 ⟨0,rfl⟩,.i64 ⟨0,rfl⟩,.i64 ⟨0,rfl⟩,.i64 ⟨0,rfl⟩,.i64 ⟨0,rfl⟩,.i64 ⟨0,rfl⟩,.bool false],false,by kernel_rfl,by kernel_rfl,by kernel_rfl,by kernel_rfl,by kernel_rfl,by kernel_rfl⟩
def B128:Bod Tryz.prog:=⟨128,Tryz.f128,Tryz.f128.body.getD .skip,Tryz.func128,by kernel_rfl,by kernel_rfl,zar.no _ _⟩
def zP1:Tb Tryz.prog:= {T:= [Y2,Y4,Y25,Y32,Y115],mix:=mix,Es:= [zbi,zck,zoT,zbW,zrg,zcZ,zin,zey,zpX,zpT,ztE,zDO],Bs:= [],d:=1}
def zek (d0:Geo) (a0:Iv):Tr (Iv):=
 .leaf (zc7 ⟨2,rfl⟩ (zjo (zev (zmR (zw ⟨0,rfl⟩) (zR (zcX (zcD (zgf (zaz d0.v d0.u)))) (zF (zF (zfB d0.u) (zfB d0.v)) (zcX (zcD (zgf a0)))))))))
theorem zox (d0:Geo) (a0:Iv):zlr zP1 B128 [.ptr 0 0,enc a0] [(0,Cap.ec d0)] 1 (Iv)=(zek d0 a0).opt:=by kernel_rfl
def zcw:Geo->Iv->Iv:=fun d0 a0=>(zek d0 a0).get
theorem zoc (d0:Geo) (a0:Iv):(zek d0 a0).opt=some (zcw d0 a0):=Tr.zX (by kernel_rfl)
def zkg:Ent Tryz.prog:= .p2 zP1 B128 (fun _ _=>true) zcw fun d0 a0 _=>(zox d0 a0).trans (zoc d0 a0)
def B81:Bod Tryz.prog:=⟨81,Tryz.f81,Tryz.f81.body.getD .skip,Tryz.func81,by kernel_rfl,by kernel_rfl,zar.no _ _⟩
def Tb81:Tb Tryz.prog:= {T:= [Y2,Y25,Y32,Y115],mix:=mix,Es:= [zkg,zbW,zme,zbB,zbl,zAe],Bs:= [],d:=1}
def zeS (d0:Geo):Tr (Iv):=
 let c1:=zcw d0 d0.lon;let c3:=zF (zkc d0.e) c1;let c5:=zF (zfn d0.e) c1;.leaf (zaN c3.lo c5.hi (zaU c3 c5))
theorem zo8 (d0:Geo):zlr Tb81 B81 [.ptr 0 0] [(0,Cap.ec d0)] 1 (Iv)=(zeS d0).opt:=by kernel_rfl
def zdv:Geo->Iv:=fun d0=>(zeS d0).get
theorem zo7 (d0:Geo):(zeS d0).opt=some (zdv d0):=Tr.zX (by kernel_rfl)
def zpe:Ent Tryz.prog:= .p1 Tb81 B81 (fun _=>true) zdv fun d0 _=>(zo8 d0).trans (zo7 d0)
def B57:Bod Tryz.prog:=⟨57,Tryz.f57,Tryz.f57.body.getD .skip,Tryz.func57,by kernel_rfl,by kernel_rfl,zar.no _ _⟩
def Tb57:Tb Tryz.prog:= {T:= [Y2,Y25,Y32,Y115],mix:=mix,Es:= [zju,zcj,zgV,zkj],Bs:= [],d:=1}
def zfc (d0:Geo):Tr (Iv):=
 .leaf (zaG d0.lon (zad d0.lon (zb8 (zdl d0.e))))
theorem zpu (d0:Geo):zlr Tb57 B57 [.ptr 0 0] [(0,Cap.ec d0)] 1 (Iv)=(zfc d0).opt:=by kernel_rfl
def zch:Geo->Iv:=fun d0=>(zfc d0).get
theorem zpf (d0:Geo):(zfc d0).opt=some (zch d0):=Tr.zX (by kernel_rfl)
def zlx:Ent Tryz.prog:= .p1 Tb57 B57 (fun _=>true) zch fun d0 _=>(zpu d0).trans (zpf d0)
def zqs (a0:Ell) (a1:zaA) (a2:zaA):Tr (GeoS):=
 let c2:=zcK (Rng.w .i64 (a2.lon.val-a1.lon.val));.leaf ⟨a0,(zb4 ⟨1,rfl⟩ a0 (zns a1)),(zb4 ⟨1,rfl⟩ a0 (zns a2)),(zcC (zaq c2)),c2,(zcg a0),(zdI a0)⟩
def znJ:Ell->zaA->zaA->GeoS:=fun a0 a1 a2=>(zqs a0 a1 a2).get
def B55:Bod Tryz.prog:=⟨55,Tryz.f55,Tryz.f55.body.getD .skip,Tryz.func55,by kernel_rfl,by kernel_rfl,zar.no _ _⟩
def B14:Bod Tryz.prog:=⟨14,Tryz.f14,Tryz.f14.body.getD .skip,Tryz.func14,by kernel_rfl,by kernel_rfl,zar.no _ _⟩
def Tb14:Tb Tryz.prog:= {T:= [Y2,Y4,Y25,Y28,Y32,Y115],mix:=mix,Es:= [zkf,zlx,za5,zhL,ziO,zgI,zlz,zkP,zeH],Bs:= [B55],d:=8}
def zhZ (a0:Ell) (a1:zaA) (a2:zaA):Tr (T2 Iv I64):=
 .br (!(zaI a0)) (.leaf ⟨⟨⟨0,rfl⟩,⟨0,rfl⟩⟩,⟨1,rfl⟩⟩) (.br (!(zdk a1 a2)) (.leaf ⟨⟨⟨0,rfl⟩,⟨0,rfl⟩⟩,⟨1,rfl⟩⟩) (let c4:=zcN (Rng.w .i64 (a2.lon.val-a1.lon.val));let c12:=zel (zch ⟨a0,(zbg ⟨1,rfl⟩ a0 (zb9 a1)),(zbg ⟨1,rfl⟩ a0 (zb9 a2)),(zcY (zcp c4)),(decide (c4.val<0))⟩);.leaf ⟨c12.a,c12.b⟩))
theorem zsD (a0:Ell) (a1:zaA) (a2:zaA):Tb14.run B14 [enc a0,enc a1,enc a2] (T2 Iv I64)=(zhZ a0 a1 a2).opt:=by kernel_rfl
def zf2:Ell->zaA->zaA->T2 Iv I64:=fun a0 a1 a2=>(zhZ a0 a1 a2).get
theorem zsn (a0:Ell) (a1:zaA) (a2:zaA):(zhZ a0 a1 a2).opt=some (zf2 a0 a1 a2):=Tr.zX (by kernel_rfl)
def ztg:Ent Tryz.prog:= .of3 Tb14 B14 (fun _ _ _=>true) zf2 fun a0 a1 a2 _=>(zsD a0 a1 a2).trans (zsn a0 a1 a2)
end
end Go.Proofs.YtaoakfodkoifoaaGreat.Ev
namespace Go.Proofs.YtaoakfodkoifoaaGreat.Ev
open Go
theorem zL8 (a b:Iv):zmR a b=zkE a b:=by
 simp only [zmR,zoo,zkE,zqN,Tr.get,zjS,za1]
 cases ha:za a
 ·rfl
 cases hb:za b
 ·rfl
 have h1:=(zaB a).1 ha
 have h2:=(zaB b).1 hb
 simp only [Bool.and_self,Bool.not_true,cond_false,<- min_eq,<- max_eq]
 refine (zbq ?_).symm
 rw [zEk,zEk]
 split<;>split<;>omega
theorem zL6 (a b:Iv):zmQ a b=zhD a b:=by
 simp only [zmQ,zon,zhD,zoe,Tr.get,zjS,za1]
 cases ha:za a
 ·rfl
 cases hb:za b
 ·rfl
 have h1:=(zaB a).1 ha
 have h2:=(zaB b).1 hb
 simp only [Bool.and_self,Bool.not_true,cond_false,<- min_eq,<- max_eq]
 refine (zbq ?_).symm
 rw [zEp,zEp]
 split<;>split<;>omega
theorem zvQ (x:Iv):zel x=zbn x:=by
 simp only [zel,zlS,zbn,zjx,Tr.get,ziH]
def ang (u v x:Iv):Iv:=zk (zf ⟨2,rfl⟩) (zc6 (zaD (zkE (zf ⟨0,rfl⟩) (zq (zay (zan (zdW (zG v u)))) (zk (zk (zbR u) (zbR v)) (zay (zan (zdW x))))))))
theorem zE9 (g:GeoS) (x:Iv):zie g x=ang g.u g.v x:=by simp only [zie,znS,Tr.get,ang]
theorem zFa (g:Geo) (x:Iv):zcw g x=ang g.u g.v x:=by
 simp only [zcw,zek,Tr.get,ang,zGq,zE7,zp2,zL8,zbP,add_eq,zpn,zy5,zDA,zzN,sub_eq,zjm]
theorem zIq (g:Geo) (h:GeoS) (h1:g.e=h.e) (h2:g.u=h.u) (h3:g.v=h.v) (h4:g.lon=h.l) (h5:h.major=zdI h.e):zdv g=zcH h:=by
 simp only [zdv,zeS,zcH,zmY,Tr.get,zE9,zFa,h1,h2,h3,h4,h5,zJC,zuq,zjm,zc2,zjS,zb6,ziz]
 generalize zk (zmb h.e) _=a
 generalize zk (zdI h.e) _=b
 cases za a<;>cases za b<;>simp [ctr,cfl]
theorem start_eq (g:Geo) (h:GeoS) (h1:g.e=h.e) (h4:g.lon=h.l):zch g=zbb h:=by
 simp only [zch,zfc,zbb,zfI,Tr.get,h1,h4,zlC,zjQ,zmg,zzP]
end Go.Proofs.YtaoakfodkoifoaaGreat.Ev
namespace Go.Proofs.YtaoakfodkoifoaaGreat.Ev
open Go Go.RowKit
set_option maxRecDepth 100000
section
variable [Amb]
def znv (a0:Iv):Tr (Iv):=
 .br (!(za a0)) (.leaf zh) (.leaf (zU (Rng.w .i64 (0-a0.hi.val)) a0.hi))
def zeq:Iv->Iv:=fun a0=>(znv a0).get
structure zcV where
 x0:I64
 x1:I64
 x2:I64
 x3:I64
 x4:I64
 x5:I64
 x6:I64
 x7:I64
 x8:I64
 x9:I64
 x10:I64
 x11:I64
 x12:I64
 x13:I64
 x14:I64
 x15:I64
 x16:I64
 x17:I64
 x18:I64
 x19:I64
 x20:I64
 x21:I64
 x22:I64
 x23:I64
 x24:I64
 x25:I64
 x26:I64
 x27:I64
 x28:I64
 x29:I64
 x30:I64
 x31:I64
instance:Inhabited zcV:=⟨⟨default,default,default,default,default,default,default,default,default,default,default,default,default,default,default,default,default,default,default,default,default,default,default,default,default,default,default,default,default,default,default,default⟩⟩
def zB2:St->Option zcV:=fun s=>match s with
 | ⟨[(0,.ptr 0 0),(2,.i64 x0),(6,.ptr 2 0),(7,.ptr 3 0),(8,.ptr 4 0),(10,.ptr 6 0),(11,.ptr 7 0),(12,.ptr 8 0),(13,.ptr 9 0),(14,.ptr 10 0),(15,.i64 x1)],190,⟨[(0,[.i64 x2,.i64 x3,.i64 x4,.i64 x5,.i64 x6,.i64 x7,.i64 x8,.i64 x9,.i64 x10,.i64 x11,.i64 x12,.i64 x13,.i64 x14,.i64 x15]),(2,[.i64 x16,.i64 x17]),(3,[.i64 x18,.i64 x19]),(4,[.i64 x20,.i64 x21]),(6,[.i64 x22,.i64 x23]),(7,[.i64 x24,.i64 x25]),(8,[.i64 x26,.i64 x27]),(9,[.i64 x28,.i64 x29]),(10,[.i64 x30,.i64 x31])],11,1⟩⟩=>some ⟨x0,x1,x2,x3,x4,x5,x6,x7,x8,x9,x10,x11,x12,x13,x14,x15,x16,x17,x18,x19,x20,x21,x22,x23,x24,x25,x26,x27,x28,x29,x30,x31⟩
 | _=>none
def zdy (x:zcV):Tr (Lp zcV):=
 .br (decide (x.x1.val<x.x0.val)) (let c29:=zk ⟨x.x20,x.x21⟩ (zQ (Rng.w .i64 ((Rng.w .i64 (2*x.x1.val)).val+1)) (Rng.w .i64 (2*x.x0.val)));let c41:=zaD (zG ⟨x.x26,x.x27⟩ (zk ⟨x.x12,x.x13⟩ (zG ⟨x.x26,x.x27⟩ (zhD (zay (zq (zk (zan ⟨x.x5,x.x6⟩) (zbR c29)) (zk ⟨x.x24,x.x25⟩ (zan c29)))) ⟨x.x26,x.x27⟩))));let c42:=zq ⟨x.x28,x.x29⟩ c41;let c45:=zq ⟨x.x30,x.x31⟩ (zo ⟨x.x12,x.x13⟩ (zq ⟨x.x26,x.x27⟩ c41));.leaf (.again ⟨x.x0,(Rng.w .i64 (x.x1.val+1)),x.x2,x.x3,x.x4,x.x5,x.x6,x.x7,x.x8,x.x9,x.x10,x.x11,x.x12,x.x13,x.x14,x.x15,x.x16,x.x17,x.x18,x.x19,x.x20,x.x21,x.x22,x.x23,x.x24,x.x25,x.x26,x.x27,c42.lo,c42.hi,c45.lo,c45.hi⟩)) (.leaf (.out ⟨x.x0,x.x1,x.x2,x.x3,x.x4,x.x5,x.x6,x.x7,x.x8,x.x9,x.x10,x.x11,x.x12,x.x13,x.x14,x.x15,x.x16,x.x17,x.x18,x.x19,x.x20,x.x21,x.x22,x.x23,x.x24,x.x25,x.x26,x.x27,x.x28,x.x29,x.x30,x.x31⟩))
def zmM (x:zcV):Bool:=(Lf zdy 70 x).opt.isSome
def zmJ (x:zcV):zcV:=(Lf zdy 70 x).get
def ziQ (d0:GeoS) (a0:Iv) (a1:I64):Tr (T2 Iv Iv):=
 let c1:=zie d0 a0;let c2:=zan c1;let c8:=zo (zk (zk (zbR d0.u) (zbR d0.v)) (zan a0)) c2;let c14:=zo (zG (zan d0.v) (zk (zan d0.u) (zbR c1))) c2;.br (!(za c8)) (.leaf ⟨zh,zh⟩) (.br (!(za c14)) (.leaf ⟨zh,zh⟩) (let c21:=zf ⟨1,rfl⟩;let c22:=zf ⟨0,rfl⟩;let c23:=zf ⟨0,rfl⟩;.br (zmM ⟨a1,⟨0,rfl⟩,d0.e.a,d0.e.num,d0.e.den,d0.u.lo,d0.u.hi,d0.v.lo,d0.v.hi,d0.l.lo,d0.l.hi,d0.d,d0.ecc.lo,d0.ecc.hi,d0.major.lo,d0.major.hi,⟨0,rfl⟩,⟨0,rfl⟩,⟨0,rfl⟩,⟨0,rfl⟩,c1.lo,c1.hi,c8.lo,c8.hi,c14.lo,c14.hi,c21.lo,c21.hi,c22.lo,c22.hi,c23.lo,c23.hi⟩) (let c47:=zmJ ⟨a1,⟨0,rfl⟩,d0.e.a,d0.e.num,d0.e.den,d0.u.lo,d0.u.hi,d0.v.lo,d0.v.hi,d0.l.lo,d0.l.hi,d0.d,d0.ecc.lo,d0.ecc.hi,d0.major.lo,d0.major.hi,⟨0,rfl⟩,⟨0,rfl⟩,⟨0,rfl⟩,⟨0,rfl⟩,c1.lo,c1.hi,c8.lo,c8.hi,c14.lo,c14.hi,c21.lo,c21.hi,c22.lo,c22.hi,c23.lo,c23.hi⟩;let c53:=zo (zk (zk ⟨c47.x20,c47.x21⟩ ⟨c47.x20,c47.x21⟩) ⟨c47.x20,c47.x21⟩) (zf (Rng.w .i64 ((Rng.w .i64 (24*c47.x0.val)).val*c47.x0.val)));let c62:=zo ⟨c47.x20,c47.x21⟩ (zf c47.x0);.leaf ⟨(zq ⟨c47.x9,c47.x10⟩ (zk ⟨c47.x22,c47.x23⟩ (zq (zk c62 ⟨c47.x30,c47.x31⟩) (zeq (zk (zk (zk (zQ ⟨3,rfl⟩ ⟨10,rfl⟩) ⟨c47.x12,c47.x13⟩) ⟨c47.x12,c47.x13⟩) c53))))),(zk ⟨c47.x14,c47.x15⟩ (zq (zk c62 ⟨c47.x28,c47.x29⟩) (zeq (zk (zk (zQ ⟨21,rfl⟩ ⟨20,rfl⟩) ⟨c47.x12,c47.x13⟩) c53))))⟩) (.bad)))
def ze5:GeoS->Iv->I64->T2 Iv Iv:=fun d0 a0 a1=>(ziQ d0 a0 a1).get
def zd5:GeoS->Iv->I64->Bool:=fun d0 a0 a1=>(ziQ d0 a0 a1).opt.isSome
structure zbE where
 x0:I64
 x1:I64
 x2:I64
 x3:I64
 x4:I64
 x5:I64
 x6:I64
 x7:I64
 x8:I64
 x9:I64
 x10:I64
 x11:I64
 x12:Bool
 x13:I64
 x14:I64
 x15:I64
 x16:I64
 x17:I64
 x18:I64
 x19:I64
 x20:I64
 x21:I64
 x22:I64
 x23:I64
 x24:I64
 x25:I64
 x26:I64
 x27:I64
 x28:I64
instance:Inhabited zbE:=⟨⟨default,default,default,default,default,default,default,default,default,default,default,default,default,default,default,default,default,default,default,default,default,default,default,default,default,default,default,default,default⟩⟩
def zjh (x:zbE):St:=⟨[(0,.ptr 0 0),(2,.i64 x.x0),(6,.ptr 2 0),(7,.ptr 3 0),(8,.ptr 4 0),(10,.ptr 6 0),(11,.ptr 7 0),(12,.ptr 8 0),(13,.ptr 9 0),(14,.ptr 10 0),(68,.i64 x.x1),(69,.i64 x.x2)],164,⟨[(0,[.i64 x.x3,.i64 x.x4,.i64 x.x5,.i64 x.x6,.i64 x.x7,.i64 x.x8,.i64 x.x9,.i64 x.x10,.i64 x.x11,.bool x.x12]),(2,[.i64 x.x13,.i64 x.x14]),(3,[.i64 x.x15,.i64 x.x16]),(4,[.i64 x.x17,.i64 x.x18]),(6,[.i64 x.x19,.i64 x.x20]),(7,[.i64 x.x21,.i64 x.x22]),(8,[.i64 x.x23,.i64 x.x24]),(9,[.i64 x.x25,.i64 x.x26]),(10,[.i64 x.x27,.i64 x.x28])],11,1⟩⟩
def zji:St->Option zbE:=fun s=>match s with
 | ⟨[(0,.ptr 0 0),(2,.i64 x0),(6,.ptr 2 0),(7,.ptr 3 0),(8,.ptr 4 0),(10,.ptr 6 0),(11,.ptr 7 0),(12,.ptr 8 0),(13,.ptr 9 0),(14,.ptr 10 0),(68,.i64 x1),(69,.i64 x2)],164,⟨[(0,[.i64 x3,.i64 x4,.i64 x5,.i64 x6,.i64 x7,.i64 x8,.i64 x9,.i64 x10,.i64 x11,.bool x12]),(2,[.i64 x13,.i64 x14]),(3,[.i64 x15,.i64 x16]),(4,[.i64 x17,.i64 x18]),(6,[.i64 x19,.i64 x20]),(7,[.i64 x21,.i64 x22]),(8,[.i64 x23,.i64 x24]),(9,[.i64 x25,.i64 x26]),(10,[.i64 x27,.i64 x28])],11,1⟩⟩=>some ⟨x0,x1,x2,x3,x4,x5,x6,x7,x8,x9,x10,x11,x12,x13,x14,x15,x16,x17,x18,x19,x20,x21,x22,x23,x24,x25,x26,x27,x28⟩
 | _=>none
def zbY (x:zbE):Tr (Lp zbE):=
 .br (decide (x.x2.val<x.x1.val)) (let c23:=zF ⟨x.x17,x.x18⟩ (zaa (Rng.w .i64 ((Rng.w .i64 (2*x.x2.val)).val+1)) (Rng.w .i64 (2*x.x0.val)));let c36:=zev (zb8 (zF ⟨x.x19,x.x20⟩ (zb8 (zmQ (zcX (zR (zF (zcD ⟨x.x6,x.x7⟩) (zfB c23)) (zF ⟨x.x23,x.x24⟩ (zcD c23)))) (zw ⟨1,rfl⟩)))));let c37:=zR ⟨x.x25,x.x26⟩ c36;let c41:=zR ⟨x.x27,x.x28⟩ (zad ⟨x.x19,x.x20⟩ (zR (zw ⟨1,rfl⟩) c36));.leaf (.again ⟨x.x0,x.x1,(Rng.w .i64 (x.x2.val+1)),x.x3,x.x4,x.x5,x.x6,x.x7,x.x8,x.x9,x.x10,x.x11,x.x12,x.x13,x.x14,x.x15,x.x16,x.x17,x.x18,x.x19,x.x20,x.x21,x.x22,x.x23,x.x24,c37.lo,c37.hi,c41.lo,c41.hi⟩)) (.leaf (.out ⟨x.x0,x.x1,x.x2,x.x3,x.x4,x.x5,x.x6,x.x7,x.x8,x.x9,x.x10,x.x11,x.x12,x.x13,x.x14,x.x15,x.x16,x.x17,x.x18,x.x19,x.x20,x.x21,x.x22,x.x23,x.x24,x.x25,x.x26,x.x27,x.x28⟩))
def zgp (x:zbE):Bool:=(Lf zbY 70 x).opt.isSome
def zgo (x:zbE):zbE:=(Lf zbY 70 x).get
def znF:Tb Tryz.prog:= {T:= [Y2,Y32,Y115],mix:=mix,Es:= [zbi,zck,zcj,zgV,zoT,zbW,zrg,zcU,zin,zDN,zey],Bs:= [],d:=1}
def zgn:LpF:=zvO [0,2,6,7,8,10,11,12,13,14,68,69] [0,2,3,4,6,7,8,9,10] 11 zji zjh (.exit 0) zgp zgo
theorem znC:zkp Tryz.prog (zo2 (Tryz.f72.body.getD .skip) 0) zgn:=zl4 (t:=znF) (lt:=fun _=>none) (body:=zbY) (n:=70) (by intro h;cases h) (fun _ _ _ h=>by cases h)
 (by intro s x h;unfold zji at h;split at h<;>cases h;rfl) (fun x b cs h=>zvP (l:=(zjh x).mm.blks) (by kernel_rfl) h) (by intro x;kernel_rfl) (fun x h=>Tr.get_some h)
def B72:Bod Tryz.prog:=⟨72,Tryz.f72,Tryz.f72.body.getD .skip,Tryz.func72,by kernel_rfl,by kernel_rfl,⟨ltOf [(7,zgn)],zar.of (ks:= [7]) (by kernel_rfl) (by
 intro i k h f hf
 match i,h with
 | 0,h=>cases h;obtain rfl:zgn=f:=Option.some.inj hf;exact znC
 | n+1,h=>simp at h)⟩⟩
def Tb72:Tb Tryz.prog:= {T:= [Y2,Y25,Y32,Y115],mix:=mix,Es:= [zbi,zck,zcj,zkg,zoT,zmT,zbW,zrg,zcZ,zcU,zwq,zo4,zme],Bs:= [],d:=1}
def zdL (d0:Geo) (a0:Iv) (a1:I64):Tr (T2 Iv Iv):=
 let c1:=zcw d0 a0;let c2:=zcD c1;let c3:=zfA d0.e;let c9:=zad (zF (zF (zfB d0.u) (zfB d0.v)) (zcD a0)) c2;let c15:=zad (zaz (zcD d0.v) (zF (zcD d0.u) (zfB c1))) c2;let c16:=zw ⟨0,rfl⟩;let c17:=zw ⟨0,rfl⟩;.br (zgp ⟨a1,a1,⟨0,rfl⟩,d0.e.a,d0.e.num,d0.e.den,d0.u.lo,d0.u.hi,d0.v.lo,d0.v.hi,d0.lon.lo,d0.lon.hi,d0.back,⟨0,rfl⟩,⟨0,rfl⟩,⟨0,rfl⟩,⟨0,rfl⟩,c1.lo,c1.hi,c3.lo,c3.hi,c9.lo,c9.hi,c15.lo,c15.hi,c16.lo,c16.hi,c17.lo,c17.hi⟩) (let c43:=zgo ⟨a1,a1,⟨0,rfl⟩,d0.e.a,d0.e.num,d0.e.den,d0.u.lo,d0.u.hi,d0.v.lo,d0.v.hi,d0.lon.lo,d0.lon.hi,d0.back,⟨0,rfl⟩,⟨0,rfl⟩,⟨0,rfl⟩,⟨0,rfl⟩,c1.lo,c1.hi,c3.lo,c3.hi,c9.lo,c9.hi,c15.lo,c15.hi,c16.lo,c16.hi,c17.lo,c17.hi⟩;let c48:=zfx (zF (zF ⟨c43.x17,c43.x18⟩ ⟨c43.x17,c43.x18⟩) ⟨c43.x17,c43.x18⟩) (Rng.w .i64 ((Rng.w .i64 (24*c43.x0.val)).val*c43.x0.val));let c56:=zfx ⟨c43.x17,c43.x18⟩ c43.x0;.leaf ⟨(zR ⟨c43.x10,c43.x11⟩ (zF ⟨c43.x21,c43.x22⟩ (zR (zF c56 ⟨c43.x27,c43.x28⟩) (zcS (zF (zF (zF (zaa ⟨3,rfl⟩ ⟨10,rfl⟩) ⟨c43.x19,c43.x20⟩) ⟨c43.x19,c43.x20⟩) c48))))),(zF (zfn ⟨c43.x3,c43.x4,c43.x5⟩) (zR (zF c56 ⟨c43.x25,c43.x26⟩) (zcS (zF (zF (zaa ⟨21,rfl⟩ ⟨20,rfl⟩) ⟨c43.x19,c43.x20⟩) c48))))⟩) (.bad)
theorem zpv (d0:Geo) (a0:Iv) (a1:I64):zlr Tb72 B72 [.ptr 0 0,enc a0,enc a1] [(0,Cap.ec d0)] 1 (T2 Iv Iv)=(zdL d0 a0 a1).opt:=by kernel_rfl
def zbV:Geo->Iv->I64->T2 Iv Iv:=fun d0 a0 a1=>(zdL d0 a0 a1).get
def zbF:Geo->Iv->I64->Bool:=fun d0 a0 a1=>(zdL d0 a0 a1).opt.isSome
def zhK:Ent Tryz.prog:= .p3 Tb72 B72 zbF zbV fun d0 a0 a1 h=>(zpv d0 a0 a1).trans (Tr.get_some h)
end
end Go.Proofs.YtaoakfodkoifoaaGreat.Ev
namespace Go.Proofs.YtaoakfodkoifoaaGreat.Ev
open Go
def No (a:Iv):Prop:=za a=false
theorem zg5:No zh:=zbD
theorem zvG {a b:Iv} (h:No a\/No b):No (zk a b):=by
 unfold No at h
 simp only [zk,zkr,Tr.get]
 rcases h with h|h
 ·simp only [h,Bool.not_false,ctr];exact zg5
 ·cases za a
  ·simp only [Bool.not_false,ctr];exact zg5
  ·simp only [h,Bool.not_false,Bool.not_true,ctr,cfl];exact zg5
theorem ztx {a b:Iv} (h:No a\/No b):No (zq a b):=by
 unfold No at h
 simp only [zq,zd3,Tr.get]
 rcases h with h|h
 ·simp only [h,Bool.not_false,ctr];exact zg5
 ·cases za a
  ·simp only [Bool.not_false,ctr];exact zg5
  ·simp only [h,Bool.not_false,Bool.not_true,ctr,cfl];exact zg5
theorem zKw {a b:Iv} (h:No a\/No b):No (zG a b):=by
 unfold No at h
 simp only [zG,zi6,Tr.get]
 rcases h with h|h
 ·simp only [h,Bool.not_false,ctr];exact zg5
 ·cases za a
  ·simp only [Bool.not_false,ctr];exact zg5
  ·simp only [h,Bool.not_false,Bool.not_true,ctr,cfl];exact zg5
theorem zNI {a b:Iv} (h:No a):No (zhD a b):=by
 unfold No at h
 simp only [zhD,zoe,Tr.get,h,Bool.not_false,ctr];exact zg5
theorem zNe {a:Iv} (h:No a):No (zay a):=by
 unfold No at h
 simp only [zay,zkq,Tr.get,h,Bool.not_false,ctr];exact zg5
theorem zLq {a:Iv} (h:No a):No (zaD a):=by
 unfold No at h
 simp only [zaD,zld,Tr.get,h,Bool.not_false,ctr];exact zg5
theorem zK2 {a b:Iv} (h:No b):No (zo a b):=by
 unfold No at h
 simp only [zo,zho,Tr.get]
 cases za a
 ·simp only [Bool.not_false,ctr];exact zg5
 ·simp only [h,Bool.not_false,Bool.not_true,ctr,cfl];exact zg5
theorem Norm.whole {a:Iv} (h:Norm a) (hn:No a):a=zh:=by
 unfold No at hn
 rcases h with h|h
 ·rw [hn] at h;cases h
 ·exact h
def zC3 {A:Type} (step:I64->A->A):Nat->I64->A->A
 | 0,_,a=>a
 | n+1,k,a=>zC3 step n (.w .i64 (k.val+1)) (step k a)
theorem zDV {S A:Type} (b:S->Tr (Lp S)) (emb:I64->A->S) (N:I64) (step:I64->A->A) (hN:N.val<=64)
  (hb:∀(k:I64) (a:A),0<=k.val->(b (emb k a)).opt=some (bif decide (k.val<N.val) then .again (emb (.w .i64 (k.val+1)) (step k a)) else .out (emb k a))):
  ∀(n m:Nat) (k:I64) (a:A),0<=k.val->k.val+n=N.val->∃k',(Lf b (n+1+m) (emb k a)).opt=some (emb k' (zC3 step n k a)):=by
 intro n
 induction n with
 | zero=>
  intro m k a h0 hk
  have hd:decide (k.val<N.val)=false:=by simp;omega
  rw [show 0+1+m=m+1 by omega]
  refine ⟨k,?_⟩
  simp only [Lf,Tr.zno,hb k a h0,hd,cond_false,Tr.opt,zC3]
 | succ n ih=>
  intro m k a h0 hk
  have hd:decide (k.val<N.val)=true:=by simp;omega
  have e1:(Rng.w .i64 (k.val+1)).val=k.val+1:=wi (by omega) (by omega)
  rw [show n+1+1+m=(n+1+m)+1 by omega]
  obtain ⟨k',h⟩:=ih m (.w .i64 (k.val+1)) (step k a) (by omega) (by omega)
  refine ⟨k',?_⟩
  simp only [Lf,Tr.zno,hb k a h0,hd,cond_true,zC3]
  exact h
end Go.Proofs.YtaoakfodkoifoaaGreat.Ev
namespace Go.Proofs.YtaoakfodkoifoaaGreat.Ev
open Go
def gLon (p q:zaA):I64:=zcK (.w .i64 (q.lon.val-p.lon.val))
def mkG (e:Ell) (p q:zaA):Geo:=⟨e,zb4 ⟨1,rfl⟩ e (zaq p.lat),zb4 ⟨1,rfl⟩ e (zaq q.lat),zcC (zaq (gLon p q)),decide ((gLon p q).val<0)⟩
def mkS (e:Ell) (p q:zaA):GeoS:=⟨e,zb4 ⟨1,rfl⟩ e (zaq p.lat),zb4 ⟨1,rfl⟩ e (zaq q.lat),zcC (zaq (gLon p q)),gLon p q,zcg e,zdI e⟩
theorem zKL {e:Ell} {p q:zaA} (hp:zT p=true) (hq:zT q=true):znJ e p q=mkS e p q:=by
 simp only [znJ,zqs,Tr.get,mkS,gLon,zGv hp,zGv hq]
theorem zrR {e:Ell} {p q:zaA} (hp:zT p=true) (hq:zT q=true):(⟨e,zbg ⟨1,rfl⟩ e (zb9 p),zbg ⟨1,rfl⟩ e (zb9 q),zcY (zcp (zcN (.w .i64 (q.lon.val-p.lon.val)))),decide ((zcN (.w .i64 (q.lon.val-p.lon.val))).val<0)⟩:Geo)=mkG e p q:=by
 simp only [mkG,gLon,zMg,zKR hp,zKR hq,abs_eq,zxZ,zLf]
 rfl
theorem zs1 (a b:zaA):zdk a b=(zT a&&zT b):=by
 simp only [zdk,zjF,Tr.get,zum]
 cases zT a<;>simp only [ctr,cfl,Bool.true_and,Bool.false_and]
end Go.Proofs.YtaoakfodkoifoaaGreat.Ev
namespace Go.Proofs.YtaoakfodkoifoaaGreat.Ev
open Go
def one1:Iv:=zf ⟨1,rfl⟩
def int0:Iv:=zf ⟨0,rfl⟩
def rS (s u m ecc:Iv) (p k:I64):Iv:=
 zaD (zG one1 (zk ecc (zG one1 (zhD (zay (zq (zk (zan u) (zbR (zk s (zQ (.w .i64 ((Rng.w .i64 (2*k.val)).val+1)) (.w .i64 (2*p.val)))))) (zk m (zan (zk s (zQ (.w .i64 ((Rng.w .i64 (2*k.val)).val+1)) (.w .i64 (2*p.val)))))))) one1))))
structure Two where
 w:Iv
 v:Iv
def stS (s u m ecc:Iv) (p k:I64) (a:Two):Two:=⟨zq a.w (rS s u m ecc p k),zq a.v (zo ecc (zq one1 (rS s u m ecc p k)))⟩
def znU (s u m ecc:Iv) (p:I64):Two:=zC3 (stS s u m ecc p) p.val.toNat ⟨0,rfl⟩ ⟨int0,int0⟩
def cS (s:Iv) (p:I64):Iv:=zo (zk (zk s s) s) (zf (.w .i64 ((Rng.w .i64 (24*p.val)).val*p.val)))
def zFG (l ecc s n:Iv) (p:I64) (S:Two):Iv:=
 zq l (zk n (zq (zk (zo s (zf p)) S.v) (zeq (zk (zk (zk (zQ ⟨3,rfl⟩ ⟨10,rfl⟩) ecc) ecc) (cS s p)))))
def lenC (major ecc s:Iv) (p:I64) (S:Two):Iv:=
 zk major (zq (zk (zo s (zf p)) S.w) (zeq (zk (zk (zQ ⟨21,rfl⟩ ⟨20,rfl⟩) ecc) (cS s p))))
def nN (u v x s:Iv):Iv:=zo (zk (zk (zbR u) (zbR v)) (zan x)) (zan s)
def mM (u v s:Iv):Iv:=zo (zG (zan v) (zk (zan u) (zbR s))) (zan s)
theorem zML (a:Iv):zcS a=zeq a:=by
 simp only [zcS,zgv,zeq,znv,Tr.get,ziH,za1,zc2,ctr]
theorem zQO (h:GeoS) (s n m:Iv) (z1 z2 z3 z4:I64) {p:I64} (hp:1<=p.val/\p.val<=64):
  ∃k',(Lf zdy 70 ⟨p,⟨0,rfl⟩,h.e.a,h.e.num,h.e.den,h.u.lo,h.u.hi,h.v.lo,h.v.hi,h.l.lo,h.l.hi,h.d,h.ecc.lo,h.ecc.hi,h.major.lo,h.major.hi,z1,z2,z3,z4,s.lo,s.hi,n.lo,n.hi,m.lo,m.hi,one1.lo,one1.hi,int0.lo,int0.hi,int0.lo,int0.hi⟩).opt=
   some ⟨p,k',h.e.a,h.e.num,h.e.den,h.u.lo,h.u.hi,h.v.lo,h.v.hi,h.l.lo,h.l.hi,h.d,h.ecc.lo,h.ecc.hi,h.major.lo,h.major.hi,z1,z2,z3,z4,s.lo,s.hi,n.lo,n.hi,m.lo,m.hi,one1.lo,one1.hi,(znU s h.u m h.ecc p).w.lo,(znU s h.u m h.ecc p).w.hi,(znU s h.u m h.ecc p).v.lo,(znU s h.u m h.ecc p).v.hi⟩:=by
 have:=zDV zdy (fun k a=>⟨p,k,h.e.a,h.e.num,h.e.den,h.u.lo,h.u.hi,h.v.lo,h.v.hi,h.l.lo,h.l.hi,h.d,h.ecc.lo,h.ecc.hi,h.major.lo,h.major.hi,z1,z2,z3,z4,s.lo,s.hi,n.lo,n.hi,m.lo,m.hi,one1.lo,one1.hi,a.w.lo,a.w.hi,a.v.lo,a.v.hi⟩) p (stS s h.u m h.ecc p) hp.2 (fun k a _=>by
  simp only [zdy,Tr.opt]
  cases decide (k.val<p.val)<;>rfl) p.val.toNat (69-p.val.toNat) ⟨0,rfl⟩ ⟨int0,int0⟩ (by decide) (by show (0:Int)+_=_;omega)
 rw [show p.val.toNat+1+(69-p.val.toNat)=70 by omega] at this
 exact this
theorem zQP (g:Geo) (s n m ecc:Iv) (z1 z2 z3 z4:I64) {p:I64} (hp:1<=p.val/\p.val<=64):
  ∃k',(Lf zbY 70 ⟨p,p,⟨0,rfl⟩,g.e.a,g.e.num,g.e.den,g.u.lo,g.u.hi,g.v.lo,g.v.hi,g.lon.lo,g.lon.hi,g.back,z1,z2,z3,z4,s.lo,s.hi,ecc.lo,ecc.hi,n.lo,n.hi,m.lo,m.hi,int0.lo,int0.hi,int0.lo,int0.hi⟩).opt=
   some ⟨p,p,k',g.e.a,g.e.num,g.e.den,g.u.lo,g.u.hi,g.v.lo,g.v.hi,g.lon.lo,g.lon.hi,g.back,z1,z2,z3,z4,s.lo,s.hi,ecc.lo,ecc.hi,n.lo,n.hi,m.lo,m.hi,(znU s g.u m ecc p).w.lo,(znU s g.u m ecc p).w.hi,(znU s g.u m ecc p).v.lo,(znU s g.u m ecc p).v.hi⟩:=by
 have:=zDV zbY (fun k a=>⟨p,p,k,g.e.a,g.e.num,g.e.den,g.u.lo,g.u.hi,g.v.lo,g.v.hi,g.lon.lo,g.lon.hi,g.back,z1,z2,z3,z4,s.lo,s.hi,ecc.lo,ecc.hi,n.lo,n.hi,m.lo,m.hi,a.w.lo,a.w.hi,a.v.lo,a.v.hi⟩) p (stS s g.u m ecc p) hp.2 (fun k a _=>by
  simp only [zbY,Tr.opt,zjm,znB,zp2,zmg,zL6,zpn,add_eq,zy5,zDA,zbP,zjQ]
  cases decide (k.val<p.val)<;>rfl) p.val.toNat (69-p.val.toNat) ⟨0,rfl⟩ ⟨int0,int0⟩ (by decide) (by show (0:Int)+_=_;omega)
 rw [show p.val.toNat+1+(69-p.val.toNat)=70 by omega] at this
 exact this
def spA (h:GeoS) (x:Iv) (p:I64):T2 Iv Iv:=
 bif !(za (nN h.u h.v x (ang h.u h.v x))) then ⟨zh,zh⟩ else bif !(za (mM h.u h.v (ang h.u h.v x))) then ⟨zh,zh⟩ else
  ⟨zFG h.l h.ecc (ang h.u h.v x) (nN h.u h.v x (ang h.u h.v x)) p (znU (ang h.u h.v x) h.u (mM h.u h.v (ang h.u h.v x)) h.ecc p),lenC h.major h.ecc (ang h.u h.v x) p (znU (ang h.u h.v x) h.u (mM h.u h.v (ang h.u h.v x)) h.ecc p)⟩
def imA (g:Geo) (x:Iv) (p:I64):T2 Iv Iv:=
 ⟨zFG g.lon (zcg g.e) (ang g.u g.v x) (nN g.u g.v x (ang g.u g.v x)) p (znU (ang g.u g.v x) g.u (mM g.u g.v (ang g.u g.v x)) (zcg g.e) p),lenC (zdI g.e) (zcg g.e) (ang g.u g.v x) p (znU (ang g.u g.v x) g.u (mM g.u g.v (ang g.u g.v x)) (zcg g.e) p)⟩
theorem zNg (h:GeoS) (x:Iv) {p:I64} (hp:1<=p.val/\p.val<=64):(ziQ h x p).opt=some (spA h x p):=by
 obtain ⟨k',hl⟩:=zQO h (ang h.u h.v x) (nN h.u h.v x (ang h.u h.v x)) (mM h.u h.v (ang h.u h.v x)) ⟨0,rfl⟩ ⟨0,rfl⟩ ⟨0,rfl⟩ ⟨0,rfl⟩ hp
 have hg:zmM _=true:=show (Lf zdy 70 _).opt.isSome=true by rw [hl];rfl
 have hv:zmJ _=_:=Tr.zai hl
 simp only [ziQ,Tr.opt,zE9,spA]
 show (bif !(za (nN h.u h.v x (ang h.u h.v x))) then _ else _)=_
 cases h1:za (nN h.u h.v x (ang h.u h.v x))
 ·simp only [Bool.not_false,ctr]
 simp only [Bool.not_true,cfl]
 show (bif !(za (mM h.u h.v (ang h.u h.v x))) then _ else _)=_
 cases h2:za (mM h.u h.v (ang h.u h.v x))
 ·simp only [Bool.not_false,ctr]
 simp only [Bool.not_true,cfl]
 simp only [one1,int0,nN,mM] at hg hv
 rw [hg]
 simp only [ctr]
 rw [hv]
 rfl
theorem zNU (g:Geo) (x:Iv) {p:I64} (hp:1<=p.val/\p.val<=64):(zdL g x p).opt=some (imA g x p):=by
 obtain ⟨k',hl⟩:=zQP g (ang g.u g.v x) (nN g.u g.v x (ang g.u g.v x)) (mM g.u g.v (ang g.u g.v x)) (zcg g.e) ⟨0,rfl⟩ ⟨0,rfl⟩ ⟨0,rfl⟩ ⟨0,rfl⟩ hp
 have hg:zgp _=true:=show (Lf zbY 70 _).opt.isSome=true by rw [hl];rfl
 have hv:zgo _=_:=Tr.zai hl
 simp only [zdL,Tr.opt,zFa,zy5,zDA,zjQ,zjm,sub_eq,zBG,zbP,imA]
 simp only [one1,int0,nN,mM] at hg hv
 rw [hg]
 simp only [ctr]
 rw [hv]
 simp only [zKH,zjm,add_eq,znB,zML,zuq]
 rfl
theorem zEC {step:I64->Two->Two} (hs:∀k a,No (step k a).w/\No (step k a).v):∀(n:Nat) (k:I64) (a:Two),1<=n->No (zC3 step n k a).w/\No (zC3 step n k a).v
 | 0,k,a,h=>by omega
 | 1,k,a,_=>hs k a
 | n+2,k,a,_=>zEC hs (n+1) _ _ (by omega)
theorem zNq {s u m ecc:Iv} {p k:I64} (h:No m):No (rS s u m ecc p k):=by
 unfold rS
 exact zLq (zKw (.inr (zvG (.inr (zKw (.inr (zNI (zNe (ztx (.inr (zvG (.inl h))))))))))))
theorem zGs {s u m ecc:Iv} {p:I64} (hp:1<=p.val) (h:No m):No (znU s u m ecc p).w/\No (znU s u m ecc p).v:=by
 unfold znU
 exact zEC (fun k a=>⟨ztx (.inr (zNq h)),ztx (.inr (zK2 (ztx (.inr (zNq h)))))⟩) _ _ _ (by omega)
theorem zEf {l ecc s n:Iv} {p:I64} {S:Two} (h:No n\/No S.v):zFG l ecc s n p S=zh:=by
 unfold zFG
 refine (zJx _ _).whole (ztx (.inr (zvG ?_)))
 rcases h with h|h
 ·exact .inl h
 ·exact .inr (ztx (.inl (zvG (.inr h))))
theorem zMe {major ecc s:Iv} {p:I64} {S:Two} (h:No S.w):lenC major ecc s p S=zh:=by
 unfold lenC
 exact (zEe _ _).whole (zvG (.inr (ztx (.inl (zvG (.inr h))))))
theorem zBs (e:Ell) (p q:zaA) (x:Iv) {n:I64} (hn:1<=n.val/\n.val<=64):(imA (mkG e p q) x n).a=(spA (mkS e p q) x n).a:=by
 unfold spA imA
 cases h1:za (nN (mkS e p q).u (mkS e p q).v x (ang (mkS e p q).u (mkS e p q).v x))
 ·simp only [Bool.not_false,ctr]
  exact zEf (.inl h1)
 cases h2:za (mM (mkS e p q).u (mkS e p q).v (ang (mkS e p q).u (mkS e p q).v x))
 ·simp only [Bool.not_false,Bool.not_true,ctr,cfl]
  exact zEf (.inr (zGs hn.1 h2).2)
 simp only [Bool.not_true,cfl]
 rfl
theorem zJK (e:Ell) (p q:zaA) (x:Iv) {n:I64} (hn:1<=n.val/\n.val<=64) (h:za (nN (mkS e p q).u (mkS e p q).v x (ang (mkS e p q).u (mkS e p q).v x))=true\/No (mM (mkS e p q).u (mkS e p q).v (ang (mkS e p q).u (mkS e p q).v x))):
  (imA (mkG e p q) x n).b=(spA (mkS e p q) x n).b:=by
 unfold spA imA
 cases h2:za (mM (mkS e p q).u (mkS e p q).v (ang (mkS e p q).u (mkS e p q).v x))
 ·have:=zMe (major:=zdI e) (ecc:=zcg e) (s:=ang (mkS e p q).u (mkS e p q).v x) (p:=n) (S:=znU (ang (mkS e p q).u (mkS e p q).v x) (mkS e p q).u (mM (mkS e p q).u (mkS e p q).v (ang (mkS e p q).u (mkS e p q).v x)) (zcg e) n) (zGs hn.1 h2).1
  cases h1:za (nN (mkS e p q).u (mkS e p q).v x (ang (mkS e p q).u (mkS e p q).v x))
  ·simp only [Bool.not_false,ctr];exact this
  ·simp only [Bool.not_false,Bool.not_true,ctr,cfl];exact this
 ·rcases h with h|h
  ·rw [h]
   simp only [Bool.not_true,cfl]
   rfl
  ·unfold No at h;rw [h] at h2;cases h2
theorem sp_F (h:GeoS) (x:Iv) {p:I64} (hp:1<=p.val/\p.val<=64):ze5 h x p=spA h x p:=Tr.zai (zNg h x hp)
theorem sp_G (h:GeoS) (x:Iv) {p:I64} (hp:1<=p.val/\p.val<=64):zd5 h x p=true:=by unfold zd5;rw [zNg h x hp];rfl
theorem im_F (g:Geo) (x:Iv) {p:I64} (hp:1<=p.val/\p.val<=64):zbV g x p=imA g x p:=Tr.zai (zNU g x hp)
theorem im_G (g:Geo) (x:Iv) {p:I64} (hp:1<=p.val/\p.val<=64):zbF g x p=true:=by unfold zbF;rw [zNU g x hp];rfl
end Go.Proofs.YtaoakfodkoifoaaGreat.Ev
namespace Go.Proofs.YtaoakfodkoifoaaGreat.Ev
open Go Go.RowKit
set_option maxRecDepth 100000
section
variable [Amb]
def zhN (d0:GeoS) (a0:I64):Tr (Iv):=
 let c1:=zbb d0;.br (zd5 d0 c1 a0) (let c2:=ze5 d0 c1 a0;let c3:=zZ c1 c2.a;.br (!(za c2.a)) (.leaf c1) (.br (!c3.b) (.leaf c1) (.br (zd5 d0 c3.a a0) (let c5:=ze5 d0 c3.a a0;let c6:=zZ c3.a c5.a;.br (!(za c5.a)) (.leaf c3.a) (.br (!c6.b) (.leaf c3.a) (.br (zd5 d0 c6.a a0) (let c8:=ze5 d0 c6.a a0;let c9:=zZ c6.a c8.a;.br (!(za c8.a)) (.leaf c6.a) (.br (!c9.b) (.leaf c6.a) (.br (zd5 d0 c9.a a0) (let c11:=ze5 d0 c9.a a0;let c12:=zZ c9.a c11.a;.br (!(za c11.a)) (.leaf c9.a) (.br (!c12.b) (.leaf c9.a) (.leaf c12.a))) (.bad)))) (.bad)))) (.bad)))) (.bad)
def zn7:GeoS->I64->Iv:=fun d0 a0=>(zhN d0 a0).get
def zkB:GeoS->I64->Bool:=fun d0 a0=>(zhN d0 a0).opt.isSome
def B59:Bod Tryz.prog:=⟨59,Tryz.f59,Tryz.f59.body.getD .skip,Tryz.func59,by kernel_rfl,by kernel_rfl,zar.no _ _⟩
def Tb59:Tb Tryz.prog:= {T:= [Y2,Y32],mix:=mix,Es:= [zlx,zhK,za6,zjt],Bs:= [],d:=1}
def zdM (d0:Geo) (a0:I64):Tr (Iv):=
 let c1:=zch d0;.br (zbF d0 c1 a0) (let c2:=zbV d0 c1 a0;let c3:=zda c1 c2.a;.br (zab c2.a) (.leaf c1) (.br (!c3.b) (.leaf c1) (.br (zbF d0 c3.a a0) (let c5:=zbV d0 c3.a a0;let c6:=zda c3.a c5.a;.br (zab c5.a) (.leaf c3.a) (.br (!c6.b) (.leaf c3.a) (.br (zbF d0 c6.a a0) (let c8:=zbV d0 c6.a a0;let c9:=zda c6.a c8.a;.br (zab c8.a) (.leaf c6.a) (.br (!c9.b) (.leaf c6.a) (.br (zbF d0 c9.a a0) (let c11:=zbV d0 c9.a a0;let c12:=zda c9.a c11.a;.br (zab c11.a) (.leaf c9.a) (.br (!c12.b) (.leaf c9.a) (.leaf c12.a))) (.bad)))) (.bad)))) (.bad)))) (.bad)
theorem zpw (d0:Geo) (a0:I64):zlr Tb59 B59 [.ptr 0 0,enc a0] [(0,Cap.ec d0)] 1 (Iv)=(zdM d0 a0).opt:=by kernel_rfl
def zdX:Geo->I64->Iv:=fun d0 a0=>(zdM d0 a0).get
def zdT:Geo->I64->Bool:=fun d0 a0=>(zdM d0 a0).opt.isSome
def zly:Ent Tryz.prog:= .p2 Tb59 B59 zdT zdX fun d0 a0 h=>(zpw d0 a0).trans (Tr.get_some h)
def zjy (a0:Iv):Tr (Bool):=
 .br (za a0) (.br (zcl ⟨2,rfl⟩) (.leaf (decide (a0.hi.val<(zaS ⟨2,rfl⟩).lo.val))) (.bad)) (.leaf false)
def zj4:Iv->Bool:=fun a0=>(zjy a0).get
def zmL:Iv->Bool:=fun a0=>(zjy a0).opt.isSome
def zg1 (d0:GeoS) (a0:I64):Tr (Iv):=
 let c1:=zcH d0;.br (zkB d0 a0) (let c2:=zn7 d0 a0;.br (zmL c2) (.br (!(zj4 c2)) (.leaf c1) (.br (zd5 d0 c2 a0) (let c4:=ze5 d0 c2 a0;let c5:=zZ c1 c4.b;.br (!(za c4.b)) (.leaf c1) (.br (!c5.b) (.leaf c1) (.leaf c5.a))) (.bad))) (.bad)) (.bad)
def znr:GeoS->I64->Iv:=fun d0 a0=>(zg1 d0 a0).get
def zjX:GeoS->I64->Bool:=fun d0 a0=>(zg1 d0 a0).opt.isSome
def B80:Bod Tryz.prog:=⟨80,Tryz.f80,Tryz.f80.body.getD .skip,Tryz.func80,by kernel_rfl,by kernel_rfl,zar.no _ _⟩
def Tb80:Tb Tryz.prog:= {T:= [Y2,Y32],mix:=mix,Es:= [zly,zhK,zpe,za6,zjt,zem],Bs:= [],d:=1}
def zd7 (d0:Geo) (a0:I64):Tr (Iv):=
 let c1:=zdv d0;.br (zdT d0 a0) (let c2:=zdX d0 a0;.br (zbF d0 c2 a0) (let c3:=zbV d0 c2 a0;let c4:=zda c1 c3.b;.br (decide (c2.hi.val>=(za4 ⟨2,rfl⟩).lo.val)) (.leaf c1) (.br (zab c3.b) (.leaf c1) (.br (!c4.b) (.leaf c1) (.leaf c4.a)))) (.bad)) (.bad)
theorem zqi (d0:Geo) (a0:I64):zlr Tb80 B80 [.ptr 0 0,enc a0] [(0,Cap.ec d0)] 1 (Iv)=(zd7 d0 a0).opt:=by kernel_rfl
def zfH:Geo->I64->Iv:=fun d0 a0=>(zd7 d0 a0).get
def zec:Geo->I64->Bool:=fun d0 a0=>(zd7 d0 a0).opt.isSome
def zlN:Ent Tryz.prog:= .p2 Tb80 B80 zec zfH fun d0 a0 h=>(zqi d0 a0).trans (Tr.get_some h)
def B58:Bod Tryz.prog:=⟨58,Tryz.f58,Tryz.f58.body.getD .skip,Tryz.func58,by kernel_rfl,by kernel_rfl,zar.no _ _⟩
def B23:Bod Tryz.prog:=⟨23,Tryz.f23,Tryz.f23.body.getD .skip,Tryz.func23,by kernel_rfl,by kernel_rfl,zar.no _ _⟩
def Tb23:Tb Tryz.prog:= {T:= [Y2,Y4,Y25,Y28,Y32,Y115],mix:=mix,Es:= [zkf,zhK,za5,za3,zhL,ziO,zgI,zlz,zkP,zeH],Bs:= [B55,B58],d:=8}
def zgy (a0:Ell) (a1:zaA) (a2:zaA) (a3:Iv) (a4:I64):Tr (T2 Iv I64):=
 .br (!(zaI a0)) (.leaf ⟨⟨⟨0,rfl⟩,⟨0,rfl⟩⟩,⟨1,rfl⟩⟩) (.br (!(zdk a1 a2)) (.leaf ⟨⟨⟨0,rfl⟩,⟨0,rfl⟩⟩,⟨1,rfl⟩⟩) (let c4:=zcN (Rng.w .i64 (a2.lon.val-a1.lon.val));let c6:=zbg ⟨1,rfl⟩ a0 (zb9 a1);let c8:=zbg ⟨1,rfl⟩ a0 (zb9 a2);let c10:=zcY (zcp c4);.br (!(zas a4 ⟨1,rfl⟩ ⟨64,rfl⟩)) (.leaf ⟨⟨⟨0,rfl⟩,⟨0,rfl⟩⟩,⟨2,rfl⟩⟩) (.br (zbF ⟨a0,c6,c8,c10,(decide (c4.val<0))⟩ a3 a4) (let c13:=zel (zbV ⟨a0,c6,c8,c10,(decide (c4.val<0))⟩ a3 a4).a;.leaf ⟨c13.a,c13.b⟩) (.bad))))
theorem ztX (a0:Ell) (a1:zaA) (a2:zaA) (a3:Iv) (a4:I64):Tb23.run B23 [enc a0,enc a1,enc a2,enc a3,enc a4] (T2 Iv I64)=(zgy a0 a1 a2 a3 a4).opt:=by kernel_rfl
def zgG:Ell->zaA->zaA->Iv->I64->T2 Iv I64:=fun a0 a1 a2 a3 a4=>(zgy a0 a1 a2 a3 a4).get
def ze4:Ell->zaA->zaA->Iv->I64->Bool:=fun a0 a1 a2 a3 a4=>(zgy a0 a1 a2 a3 a4).opt.isSome
def zt9:Ent Tryz.prog:= .of5 Tb23 B23 ze4 zgG fun a0 a1 a2 a3 a4 h=>(ztX a0 a1 a2 a3 a4).trans (Tr.get_some h)
def B15:Bod Tryz.prog:=⟨15,Tryz.f15,Tryz.f15.body.getD .skip,Tryz.func15,by kernel_rfl,by kernel_rfl,zar.no _ _⟩
def Tb15:Tb Tryz.prog:= {T:= [Y2,Y4,Y25,Y28,Y32,Y115],mix:=mix,Es:= [zkf,zly,za5,za3,zhL,ziO,zgI,zlz,zkP,zeH],Bs:= [B55,B58],d:=8}
def zd9 (a0:Ell) (a1:zaA) (a2:zaA) (a3:I64):Tr (T2 Iv I64):=
 .br (!(zaI a0)) (.leaf ⟨⟨⟨0,rfl⟩,⟨0,rfl⟩⟩,⟨1,rfl⟩⟩) (.br (!(zdk a1 a2)) (.leaf ⟨⟨⟨0,rfl⟩,⟨0,rfl⟩⟩,⟨1,rfl⟩⟩) (let c4:=zcN (Rng.w .i64 (a2.lon.val-a1.lon.val));let c6:=zbg ⟨1,rfl⟩ a0 (zb9 a1);let c8:=zbg ⟨1,rfl⟩ a0 (zb9 a2);let c10:=zcY (zcp c4);.br (!(zas a3 ⟨1,rfl⟩ ⟨64,rfl⟩)) (.leaf ⟨⟨⟨0,rfl⟩,⟨0,rfl⟩⟩,⟨2,rfl⟩⟩) (.br (zdT ⟨a0,c6,c8,c10,(decide (c4.val<0))⟩ a3) (let c13:=zel (zdX ⟨a0,c6,c8,c10,(decide (c4.val<0))⟩ a3);.leaf ⟨c13.a,c13.b⟩) (.bad))))
theorem zqm (a0:Ell) (a1:zaA) (a2:zaA) (a3:I64):Tb15.run B15 [enc a0,enc a1,enc a2,enc a3] (T2 Iv I64)=(zd9 a0 a1 a2 a3).opt:=by kernel_rfl
def zeg:Ell->zaA->zaA->I64->T2 Iv I64:=fun a0 a1 a2 a3=>(zd9 a0 a1 a2 a3).get
def zcB:Ell->zaA->zaA->I64->Bool:=fun a0 a1 a2 a3=>(zd9 a0 a1 a2 a3).opt.isSome
def zqr:Ent Tryz.prog:= .of4 Tb15 B15 zcB zeg fun a0 a1 a2 a3 h=>(zqm a0 a1 a2 a3).trans (Tr.get_some h)
def B25:Bod Tryz.prog:=⟨25,Tryz.f25,Tryz.f25.body.getD .skip,Tryz.func25,by kernel_rfl,by kernel_rfl,zar.no _ _⟩
def Tb25:Tb Tryz.prog:= {T:= [Y2,Y4,Y25,Y28,Y32,Y115],mix:=mix,Es:= [zkf,za5,za3,zlN,zhL,ziO,zgI,zlz,zkP,zeH],Bs:= [B55,B58],d:=8}
def zdN (a0:Ell) (a1:zaA) (a2:zaA) (a3:I64):Tr (T2 Iv I64):=
 .br (!(zaI a0)) (.leaf ⟨⟨⟨0,rfl⟩,⟨0,rfl⟩⟩,⟨1,rfl⟩⟩) (.br (!(zdk a1 a2)) (.leaf ⟨⟨⟨0,rfl⟩,⟨0,rfl⟩⟩,⟨1,rfl⟩⟩) (let c4:=zcN (Rng.w .i64 (a2.lon.val-a1.lon.val));let c6:=zbg ⟨1,rfl⟩ a0 (zb9 a1);let c8:=zbg ⟨1,rfl⟩ a0 (zb9 a2);let c10:=zcY (zcp c4);.br (!(zas a3 ⟨1,rfl⟩ ⟨64,rfl⟩)) (.leaf ⟨⟨⟨0,rfl⟩,⟨0,rfl⟩⟩,⟨2,rfl⟩⟩) (.br (zec ⟨a0,c6,c8,c10,(decide (c4.val<0))⟩ a3) (let c13:=zel (zfH ⟨a0,c6,c8,c10,(decide (c4.val<0))⟩ a3);.leaf ⟨c13.a,c13.b⟩) (.bad))))
theorem zpz (a0:Ell) (a1:zaA) (a2:zaA) (a3:I64):Tb25.run B25 [enc a0,enc a1,enc a2,enc a3] (T2 Iv I64)=(zdN a0 a1 a2 a3).opt:=by kernel_rfl
def zbs:Ell->zaA->zaA->I64->T2 Iv I64:=fun a0 a1 a2 a3=>(zdN a0 a1 a2 a3).get
def zbj:Ell->zaA->zaA->I64->Bool:=fun a0 a1 a2 a3=>(zdN a0 a1 a2 a3).opt.isSome
def zpY:Ent Tryz.prog:= .of4 Tb25 B25 zbj zbs fun a0 a1 a2 a3 h=>(zpz a0 a1 a2 a3).trans (Tr.get_some h)
end
end Go.Proofs.YtaoakfodkoifoaaGreat.Ev
namespace Go.Proofs.YtaoakfodkoifoaaGreat.Ev
open Go
theorem zuj {γ:Type} (c:Bool) (a b:γ):(bif c then some a else some b)=some (bif c then a else b):=by cases c<;>rfl
def zln (f:Iv->Iv):Nat->Iv->Iv
 | 0,x=>x
 | n+1,x=>bif !(za (f x)) then x else bif !((zZ x (f x)).b) then x else zln f n (zZ x (f x)).a
theorem zG1 (h:GeoS) {p:I64} (hp:1<=p.val/\p.val<=64):(zhN h p).opt=some (zln (fun x=>(spA h x p).a) 4 (zbb h)):=by
 simp only [zhN,Tr.opt,sp_G _ _ hp,sp_F _ _ hp,ctr,zuj,zln]
theorem zG2 (g:Geo) {p:I64} (hp:1<=p.val/\p.val<=64):(zdM g p).opt=some (zln (fun x=>(imA g x p).a) 4 (zch g)):=by
 simp only [zdM,Tr.opt,im_G _ _ hp,im_F _ _ hp,ctr,zuj,zln,ziH,zsP]
def omA (e:Ell) (p q:zaA) (n:I64):Iv:=zln (fun x=>(spA (mkS e p q) x n).a) 4 (zbb (mkS e p q))
theorem zG4 (e:Ell) (p q:zaA) {n:I64} (hn:1<=n.val/\n.val<=64):zn7 (mkS e p q) n=omA e p q n:=Tr.zai (zG1 (mkS e p q) hn)
theorem zG3 (e:Ell) (p q:zaA) {n:I64} (hn:1<=n.val/\n.val<=64):zkB (mkS e p q) n=true:=by unfold zkB;rw [zG1 (mkS e p q) hn];rfl
theorem zBo (e:Ell) (p q:zaA) {n:I64} (hn:1<=n.val/\n.val<=64):zdX (mkG e p q) n=omA e p q n:=by
 have h:zdX (mkG e p q) n=_:=Tr.zai (zG2 (mkG e p q) hn)
 rw [h,start_eq (mkG e p q) (mkS e p q) rfl rfl]
 simp only [zBs e p q _ hn]
 rfl
theorem zBn (e:Ell) (p q:zaA) {n:I64} (hn:1<=n.val/\n.val<=64):zdT (mkG e p q) n=true:=by unfold zdT;rw [zG2 (mkG e p q) hn];rfl
theorem zG8 {a b:Iv} (ha:Norm a) (hb:za b=true) (h:(zZ a b).b=true):Norm (zZ a b).a:=by
 rcases ha with ha|ha
 ·left
  have h1:=(zaB a).1 ha
  have h2:=(zaB b).1 hb
  simp only [zZ,zbJ,Tr.get,ha,hb,Bool.not_true,cfl] at h ⊢
  have m1:=zeB a.lo b.lo
  have m2:=zf7 a.hi b.hi
  by_cases hlt:(zt a.lo b.lo).val>(zC a.hi b.hi).val
  ·simp only [hlt,decide_true,ctr] at h;cases h
  ·simp only [hlt,decide_false,cfl]
   refine (zaB _).2 ?_
   simp only
   omega
 ·left
  rw [ha] at h ⊢
  simp only [zZ,zbJ,Tr.get,zbD,hb,Bool.not_false,Bool.not_true,ctr,cfl] at h ⊢
theorem zvA {f:Iv->Iv}:∀(n:Nat) (x:Iv),Norm x->Norm (zln f n x)
 | 0,x,h=>h
 | n+1,x,h=>by
  simp only [zln]
  cases h1:za (f x)
  ·simp only [Bool.not_false,ctr];exact h
  cases h2:(zZ x (f x)).b
  ·simp only [Bool.not_false,Bool.not_true,ctr,cfl];exact h
  simp only [Bool.not_true,cfl]
  exact zvA n _ (zG8 h h1 h2)
theorem zJw (e:Ell) (p q:zaA) (n:I64):Norm (omA e p q n):=by
 refine zvA 4 _ ?_
 simp only [zbb,zfI,Tr.get]
 exact zG9 _ _
theorem zNu:(zaS ⟨2,rfl⟩).lo.val=13493037704:=by kernel_rfl
theorem zLw (x:Iv):zmL x=true:=by
 obtain ⟨g2,_⟩:=zsr (k:=⟨2,rfl⟩) (by decide) (by decide)
 unfold zmL
 simp only [zjy,Tr.opt,g2,ctr]
 cases za x<;>rfl
theorem zI8 {x:Iv} (h:Norm x):decide (x.hi.val>=(za4 ⟨2,rfl⟩).lo.val)= !(zj4 x):=by
 obtain ⟨g2,e2⟩:=zsr (k:=⟨2,rfl⟩) (by decide) (by decide)
 simp only [zj4,zjy,Tr.get,ziP,e2,g2,zNu,ctr]
 rcases h with h|h
 ·simp only [h,ctr]
  by_cases hl:x.hi.val<13493037704
  ·simp [hl]
  ·simp [hl];omega
 ·rw [h,zbD]
  simp only [cfl]
  decide +kernel
end Go.Proofs.YtaoakfodkoifoaaGreat.Ev
