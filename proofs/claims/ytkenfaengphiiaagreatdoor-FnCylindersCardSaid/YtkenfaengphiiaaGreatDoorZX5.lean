/- The law FnCylinders gives true, whatever bytes come in, where the listed tables hold what the program's text lays. The card: the tables tied to the text. No other conditions. (One of the texts of its proof, put together by a program of this session.) -/
import Derived.Test.YtkenfaengphiiaaGreatDoorZX0
import Derived.Test.YtkenfaengphiiaaGreatDoorZX1
import Derived.Test.YtkenfaengphiiaaGreatDoorZX2
import Derived.Test.YtkenfaengphiiaaGreatDoorZX3
import Derived.Test.YtkenfaengphiiaaGreatDoorZX4
set_option linter.unusedSectionVars false
set_option linter.unusedSimpArgs false
set_option linter.unusedVariables false
namespace Go.Proofs.YtkenfaengphiiaaGreatDoor.PFnCylinders
open Go.RowKit Go.Proofs.YtkenfaengphiiaaGreatDoorW.PrintWords Go.Proofs.YtkenfaengphiiaaGreatDoorW.PrintLast Go.Proofs.YtkenfaengphiiaaGreatDoorW.PrintMore
def zam.j0:Nat->List Int->Int->Int->Int->Int->Int->Int->Int->Option (Int×Int×Int×Int×Int×Int×Int)
 | 0,_,_,_,_,_,_,_,_=>none
 | k+1,x257000,x257001,x257002,x268000,x268001,x268002,x268003,x268004=>(zak.f k x257000 x257001 x257002 x268000 x268001 x268002 x268003 x268004).bind fun bt269=>((zbX.f bt269.1 bt269.2.1).bind fun t274=>(if t274=true then (some (x268000,x268001,x268002,x268003,x268004,bt269.1,bt269.2.1)) else ((zby.f k x257000 bt269.2.2.1 bt269.2.2.2).bind fun bt275=>(some (x268000,x268001,x268002,x268003,x268004,bt275.1,bt275.2.1)))))
def zam.f (k:Nat) (l0:List Int) (a1:Int) (a2:Int):Option (Int×Int×Int×Int×Int×Int×Int):=(zho.f l0).bind fun bt253=>((zJ.f bt253.1 bt253.2.1 bt253.2.2 (wrap64 ((wrap64 (a2-a1))+1))).bind fun bt257=>((zau.f k bt253.1 bt257.2.1 bt257.2.2 (wrap64 (a1+bt257.1))).bind fun bt260=>((zah.f k bt260.1 bt260.2.1 bt260.2.2.1 bt260.2.2.2.1 bt260.2.2.2.2.1).bind fun t268=>(if t268=true then (zam.j0 k bt253.1 bt260.2.2.2.2.2.1 bt260.2.2.2.2.2.2 bt260.1 bt260.2.1 bt260.2.2.1 bt260.2.2.2.1 bt260.2.2.2.2.1) else (zam.j0 k bt253.1 bt260.2.2.2.2.2.1 bt260.2.2.2.2.2.2 1 0 0 0 0)))))
set_option maxHeartbeats 8000000 in
set_option maxRecDepth 100000 in
theorem zam.calls (k:Nat) (A0:Option Addr) (c0:Nat) (l0:List Int) (a1:Int) (a2:Int) (r1:Int) (r2:Int) (r3:Int) (r4:Int) (r5:Int) (r6:Int) (r7:Int) (w:World) (hr0:Kd.C (Kd.int .u8) w A0 l0.length l0) (hc0:l0.length<=c0) (h:zam.f k l0 a1 a2=some (r1,r2,r3,r4,r5,r6,r7)):
  Calls Tryz.prog 5 #[.slice A0 l0.length c0,.int .i64 a1,.int .i64 a2] w fun e w'=>e= .returned (.tuple #[.agg #[.int .i64 r1,.int .i64 r2,.int .i64 r3,.int .i64 r4,.int .i64 r5],.agg #[.int .i64 r6,.int .i64 r7]])/\Below w.heap.size w w':=by
 have hu25:=Tryz.underlying25
 have hu27:=Tryz.underlying27
 have HR0:=za.mk hr0
 have HC0:=za.mk hc0
 clear hr0 hc0
 have HB:=za.mk (Below.refl w.heap.size w)
 have H:((zho.f l0).bind fun bt253=>((zJ.f bt253.1 bt253.2.1 bt253.2.2 (wrap64 ((wrap64 (a2-a1))+1))).bind fun bt257=>((zau.f k bt253.1 bt257.2.1 bt257.2.2 (wrap64 (a1+bt257.1))).bind fun bt260=>((zah.f k bt260.1 bt260.2.1 bt260.2.2.1 bt260.2.2.2.1 bt260.2.2.2.2.1).bind fun t268=>(if t268=true then (zam.j0 k bt253.1 bt260.2.2.2.2.2.1 bt260.2.2.2.2.2.2 bt260.1 bt260.2.1 bt260.2.2.1 bt260.2.2.2.1 bt260.2.2.2.2.1) else (zam.j0 k bt253.1 bt260.2.2.2.2.2.1 bt260.2.2.2.2.2.2 1 0 0 0 0))))))=some (r1,r2,r3,r4,r5,r6,r7):=h
 clear h
 obtain ⟨⟨t253,t254,t255⟩,A40,H⟩:=Option.bind_eq_some_iff.mp H
 replace H:((zJ.f t253 t254 t255 (wrap64 ((wrap64 (a2-a1))+1))).bind fun bt257=>((zau.f k t253 bt257.2.1 bt257.2.2 (wrap64 (a1+bt257.1))).bind fun bt260=>((zah.f k bt260.1 bt260.2.1 bt260.2.2.1 bt260.2.2.2.1 bt260.2.2.2.2.1).bind fun t268=>(if t268=true then (zam.j0 k t253 bt260.2.2.2.2.2.1 bt260.2.2.2.2.2.2 bt260.1 bt260.2.1 bt260.2.2.1 bt260.2.2.2.1 bt260.2.2.2.2.1) else (zam.j0 k t253 bt260.2.2.2.2.2.1 bt260.2.2.2.2.2.2 1 0 0 0 0)))))=some (r1,r2,r3,r4,r5,r6,r7):=H
 have A4:=za.mk A40
 clear A40
 obtain ⟨⟨t257,t258,t259⟩,A50,H⟩:=Option.bind_eq_some_iff.mp H
 replace H:((zau.f k t253 t258 t259 (wrap64 (a1+t257))).bind fun bt260=>((zah.f k bt260.1 bt260.2.1 bt260.2.2.1 bt260.2.2.2.1 bt260.2.2.2.2.1).bind fun t268=>(if t268=true then (zam.j0 k t253 bt260.2.2.2.2.2.1 bt260.2.2.2.2.2.2 bt260.1 bt260.2.1 bt260.2.2.1 bt260.2.2.2.1 bt260.2.2.2.2.1) else (zam.j0 k t253 bt260.2.2.2.2.2.1 bt260.2.2.2.2.2.2 1 0 0 0 0))))=some (r1,r2,r3,r4,r5,r6,r7):=H
 have A5:=za.mk A50
 clear A50
 obtain ⟨⟨t260,t261,t262,t263,t264,t265,t266⟩,A60,H⟩:=Option.bind_eq_some_iff.mp H
 replace H:((zah.f k t260 t261 t262 t263 t264).bind fun t268=>(if t268=true then (zam.j0 k t253 t265 t266 t260 t261 t262 t263 t264) else (zam.j0 k t253 t265 t266 1 0 0 0 0)))=some (r1,r2,r3,r4,r5,r6,r7):=H
 have A6:=za.mk A60
 clear A60
 obtain ⟨t268,A70,H⟩:=Option.bind_eq_some_iff.mp H
 replace H:(if t268=true then (zam.j0 k t253 t265 t266 t260 t261 t262 t263 t264) else (zam.j0 k t253 t265 t266 1 0 0 0 0))=some (r1,r2,r3,r4,r5,r6,r7):=H
 have A7:=za.mk A70
 clear A70
 have HC8:=za.mk H
 clear H
 go_enter Tryz.func5,Tryz.ntmps5
 go_upto_if 25 with (first|((with_reducible refine zbw (N:=6) rfl ?_);refine zbz ?hg (N:=6) ?hd (cs:=#[.int .i64 0,.int .i64 0,.int .i64 0,.int .i64 0,.int .i64 0]) (t:=25) ?hr ?_;(case hd=>rfl);(case hg=>rfl);(case hr=>first|(go_simp;done)|(go_simp;rfl));intro gb251 hg w9 hbox hb;have n0_:=za.mk (zaF (by repeat (with_reducible first|exact HB.out|apply zm|apply zk|apply zbL)) hb);have n1_:=za.mk (hbox);have n2_:=za.mk ((by rw [hg];exact (zcc (by repeat (with_reducible first|exact HB.out|apply zm|apply zk|apply zbL))):w.heap.size<=gb251));have n3_:=za.mk ((by rw [hg];exact (zcc (by repeat (with_reducible first|exact HB.out|apply zm|apply zk|apply zbL))):w.heap.size<=gb251));clear HB;have HB:=n0_;have BK251:=n1_;have GW251:=n2_;have GE251:=n3_;clear n0_ n1_ n2_ n3_;clear hb hbox hg)|((with_reducible refine zbw (N:=7) rfl ?_);refine zbz ?hg (N:=7) ?hd (cs:=#[.int .i64 0,.int .i64 0]) (t:=27) ?hr ?_;(case hd=>rfl);(case hg=>rfl);(case hr=>first|(go_simp;done)|(go_simp;rfl));intro gb252 hg w10 hbox hb;have n0_:=za.mk (zaC (g:=gb251) (o:= .cells #[.int .i64 0,.int .i64 0,.int .i64 0,.int .i64 0,.int .i64 0] 25 (0,0)) (by exact BK251.out) hb);have n1_:=za.mk (zaF (by repeat (with_reducible first|exact HB.out|apply zm|apply zk|refine zh ?_ GE251.out)) hb);have n2_:=za.mk (hbox);have n3_:=za.mk ((by rw [hg];exact (zcc (by repeat (with_reducible first|exact HB.out|apply zm|apply zk|refine zh ?_ GE251.out))):w.heap.size<=gb252));have n4_:=za.mk ((by rw [hg];exact (zcc (by repeat (with_reducible first|exact HB.out|apply zm|apply zk|refine zh ?_ GE251.out))):w.heap.size<=gb252));have n5_:=za.mk ((by rw [hg];exact Nat.ne_of_lt (zco (g:=gb251) (o:= .cells #[.int .i64 0,.int .i64 0,.int .i64 0,.int .i64 0,.int .i64 0] 25 (0,0)) (by exact BK251.out)):gb251≠gb252));have n6_:=za.mk ((by rw [hg];exact Nat.ne_of_gt (zco (g:=gb251) (o:= .cells #[.int .i64 0,.int .i64 0,.int .i64 0,.int .i64 0,.int .i64 0] 25 (0,0)) (by exact BK251.out)):gb252≠gb251));clear BK251;clear HB;have BK251:=n0_;have HB:=n1_;have BK252:=n2_;have GW252:=n3_;have GE252:=n4_;have NB251_252:=n5_;have NB252_251:=n6_;clear n0_ n1_ n2_ n3_ n4_ n5_ n6_;clear hb hbox hg)|((with_reducible refine zQ (f:=17) rfl ?_);refine zaZ (some 12) rfl rfl Tryz.func17 (by kernel_rfl) rfl #[.slice A0 l0.length c0] rfl (by (try simp only [List.map_toArray,List.map_cons,List.map_nil]);first|done|rfl) ?_;(with_reducible refine (zho.calls _ _ l0 t253 t254 t255 w _ ?side1 ?side2 ?side3 A4.out).mono ?_);(case side1=>repeat (with_reducible first|exact HB.out|apply zm|apply zk|refine zh ?_ GE251.out|refine zh ?_ GE252.out));(case side2=>exact HR0.out);(case side3=>exact HC0.out);rintro e w11 ⟨g256,rfl,hi,hb,hb2⟩;refine ⟨_,rfl,?_⟩;have n0_:=za.mk (zaC (g:=gb251) (o:= .cells #[.int .i64 0,.int .i64 0,.int .i64 0,.int .i64 0,.int .i64 0] 25 (0,0)) (by exact BK251.out) hb2);have n1_:=za.mk (zaC (g:=gb252) (o:= .cells #[.int .i64 0,.int .i64 0] 27 (0,0)) (by exact BK252.out) hb2);have n2_:=za.mk (hb);have n3_:=za.mk (hi);have n4_:=za.mk (zf.ne_blk hi (zaC (g:=gb251) (o:= .cells #[.int .i64 0,.int .i64 0,.int .i64 0,.int .i64 0,.int .i64 0] 25 (0,0)) (by exact BK251.out) hb2) (by decide));have n5_:=za.mk (Ne.symm (zf.ne_blk hi (zaC (g:=gb251) (o:= .cells #[.int .i64 0,.int .i64 0,.int .i64 0,.int .i64 0,.int .i64 0] 25 (0,0)) (by exact BK251.out) hb2) (by decide)));have n6_:=za.mk (zf.ne_blk hi (zaC (g:=gb252) (o:= .cells #[.int .i64 0,.int .i64 0] 27 (0,0)) (by exact BK252.out) hb2) (by decide));have n7_:=za.mk (Ne.symm (zf.ne_blk hi (zaC (g:=gb252) (o:= .cells #[.int .i64 0,.int .i64 0] 27 (0,0)) (by exact BK252.out) hb2) (by decide)));clear BK251;clear BK252;clear HB;have BK251:=n0_;have BK252:=n1_;have HB:=n2_;have HI256:=n3_;have NB256_251:=n4_;have NB251_256:=n5_;have NB256_252:=n6_;have NB252_256:=n7_;clear n0_ n1_ n2_ n3_ n4_ n5_ n6_ n7_;(try clear hb);(try clear hb2);(try clear hk);(try clear hi))|((with_reducible refine zQ (f:=19) rfl ?_);refine zaZ (some 20) rfl rfl Tryz.func19 (by kernel_rfl) rfl #[.pointer (some ⟨g256,0,none⟩),.int .i64 (wrap64 ((wrap64 (a2-a1))+1))] rfl (by (try simp only [List.map_toArray,List.map_cons,List.map_nil]);first|done|rfl) ?_;(with_reducible refine (zJ.calls g256 t253 t254 t255 (wrap64 ((wrap64 (a2-a1))+1)) t257 t258 t259 w _ ?side1 ?side2 A5.out).mono ?_);(case side1=>repeat (with_reducible first|exact HI256.out|apply zf.alloc|apply zf.drewN|refine zf.far ?_ NB256_251.out _|refine zf.far ?_ NB256_252.out _));(case side2=>repeat (with_reducible first|exact HB.out|apply zm|apply zk|refine zh ?_ (zf.ge HI256.out)|refine zh ?_ GE251.out|refine zh ?_ GE252.out));rintro e w12 ⟨rfl,hi,hb,hk⟩;refine ⟨_,rfl,?_⟩;have n0_:=za.mk (zl.blk hk (g':=gb251) (o:= .cells #[.int .i64 0,.int .i64 0,.int .i64 0,.int .i64 0,.int .i64 0] 25 (0,0)) (by exact BK251.out) NB251_256.out (by simp));have n1_:=za.mk (zl.blk hk (g':=gb252) (o:= .cells #[.int .i64 0,.int .i64 0] 27 (0,0)) (by exact BK252.out) NB252_256.out (by simp));have n2_:=za.mk (hb);have n3_:=za.mk (hi);clear BK251;clear BK252;clear HB;clear HI256;have BK251:=n0_;have BK252:=n1_;have HB:=n2_;have HI256:=n3_;clear n0_ n1_ n2_ n3_;(try clear hb);(try clear hb2);(try clear hk);(try clear hi))|((with_reducible refine zQ (f:=18) rfl ?_);refine zaZ (some 22) rfl rfl Tryz.func18 (by kernel_rfl) rfl #[.pointer (some ⟨g256,0,none⟩),.int .i64 (wrap64 (a1+t257))] rfl (by (try simp only [List.map_toArray,List.map_cons,List.map_nil]);first|done|rfl) ?_;(with_reducible refine (zau.calls k g256 t253 t258 t259 (wrap64 (a1+t257)) t260 t261 t262 t263 t264 t265 t266 w _ ?side1 ?side2 A6.out).mono ?_);(case side1=>repeat (with_reducible first|exact HI256.out|apply zf.alloc|apply zf.drewN|refine zf.far ?_ NB256_251.out _|refine zf.far ?_ NB256_252.out _));(case side2=>repeat (with_reducible first|exact HB.out|apply zm|apply zk|refine zh ?_ (zf.ge HI256.out)|refine zh ?_ GE251.out|refine zh ?_ GE252.out));rintro e w13 ⟨rfl,hi,hb,hk⟩;refine ⟨_,rfl,?_⟩;have n0_:=za.mk (zl.blk hk (g':=gb251) (o:= .cells #[.int .i64 0,.int .i64 0,.int .i64 0,.int .i64 0,.int .i64 0] 25 (0,0)) (by exact BK251.out) NB251_256.out (by simp));have n1_:=za.mk (zl.blk hk (g':=gb252) (o:= .cells #[.int .i64 0,.int .i64 0] 27 (0,0)) (by exact BK252.out) NB252_256.out (by simp));have n2_:=za.mk (hb);have n3_:=za.mk (hi);clear BK251;clear BK252;clear HB;clear HI256;have BK251:=n0_;have BK252:=n1_;have HB:=n2_;have HI256:=n3_;clear n0_ n1_ n2_ n3_;(try clear hb);(try clear hb2);(try clear hk);(try clear hi))|((with_reducible refine zbw (N:=9) rfl ?_);refine zbz ?hg (N:=9) ?hd (cs:=#[.int .i64 0,.int .i64 0,.int .i64 0,.int .i64 0,.int .i64 0]) (t:=25) ?hr ?_;(case hd=>rfl);(case hg=>rfl);(case hr=>first|(go_simp;done)|(go_simp;rfl));intro gb267 hg w14 hbox hb;have n0_:=za.mk (zaC (g:=gb251) (o:= .cells #[.int .i64 0,.int .i64 0,.int .i64 0,.int .i64 0,.int .i64 0] 25 (0,0)) (by exact BK251.out) hb);have n1_:=za.mk (zaC (g:=gb252) (o:= .cells #[.int .i64 0,.int .i64 0] 27 (0,0)) (by exact BK252.out) hb);have n2_:=za.mk (zf.below (by repeat (with_reducible first|exact HI256.out|apply zf.alloc|apply zf.drewN|refine zf.far ?_ NB256_251.out _|refine zf.far ?_ NB256_252.out _)) hb);have n3_:=za.mk (zaF (by repeat (with_reducible first|exact HB.out|apply zm|apply zk|refine zh ?_ (zf.ge HI256.out)|refine zh ?_ GE251.out|refine zh ?_ GE252.out)) hb);have n4_:=za.mk (hbox);have n5_:=za.mk ((by rw [hg];exact (zcc (by repeat (with_reducible first|exact HB.out|apply zm|apply zk|refine zh ?_ (zf.ge HI256.out)|refine zh ?_ GE251.out|refine zh ?_ GE252.out))):w.heap.size<=gb267));have n6_:=za.mk ((by rw [hg];exact (zcc (by repeat (with_reducible first|exact HB.out|apply zm|apply zk|refine zh ?_ (zf.ge HI256.out)|refine zh ?_ GE251.out|refine zh ?_ GE252.out))):w.heap.size<=gb267));have n7_:=za.mk ((by rw [hg];exact Nat.ne_of_lt (zco (g:=gb251) (o:= .cells #[.int .i64 0,.int .i64 0,.int .i64 0,.int .i64 0,.int .i64 0] 25 (0,0)) (by exact BK251.out)):gb251≠gb267));have n8_:=za.mk ((by rw [hg];exact Nat.ne_of_gt (zco (g:=gb251) (o:= .cells #[.int .i64 0,.int .i64 0,.int .i64 0,.int .i64 0,.int .i64 0] 25 (0,0)) (by exact BK251.out)):gb267≠gb251));have n9_:=za.mk ((by rw [hg];exact Nat.ne_of_lt (zco (g:=gb252) (o:= .cells #[.int .i64 0,.int .i64 0] 27 (0,0)) (by exact BK252.out)):gb252≠gb267));have n10_:=za.mk ((by rw [hg];exact Nat.ne_of_gt (zco (g:=gb252) (o:= .cells #[.int .i64 0,.int .i64 0] 27 (0,0)) (by exact BK252.out)):gb267≠gb252));have n11_:=za.mk ((by rw [hg];exact Nat.ne_of_lt (zf.lt (show zf w _ g256 t253 t265 t266 from by repeat (with_reducible first|exact HI256.out|apply zf.alloc|apply zf.drewN|refine zf.far ?_ NB256_251.out _|refine zf.far ?_ NB256_252.out _))):g256≠gb267));have n12_:=za.mk ((by rw [hg];exact Nat.ne_of_gt (zf.lt (show zf w _ g256 t253 t265 t266 from by repeat (with_reducible first|exact HI256.out|apply zf.alloc|apply zf.drewN|refine zf.far ?_ NB256_251.out _|refine zf.far ?_ NB256_252.out _))):gb267≠g256));clear BK251;clear BK252;clear HI256;clear HB;have BK251:=n0_;have BK252:=n1_;have HI256:=n2_;have HB:=n3_;have BK267:=n4_;have GW267:=n5_;have GE267:=n6_;have NB251_267:=n7_;have NB267_251:=n8_;have NB252_267:=n9_;have NB267_252:=n10_;have NB256_267:=n11_;have NB267_256:=n12_;clear n0_ n1_ n2_ n3_ n4_ n5_ n6_ n7_ n8_ n9_ n10_ n11_ n12_;clear hb hbox hg;have hnb15:=NB267_251.out;have hnc15:=NB251_267.out;have hnb16:=NB267_252.out;have hnc16:=NB252_267.out;have hnb17:=NB267_256.out;have hnc17:=NB256_267.out;have hcz18_0:w14.cell? ⟨gb267,0,none⟩=some (.int .i64 0):=(zq BK267.out 0).trans rfl;have hcz18_1:w14.cell? ⟨gb267,1,none⟩=some (.int .i64 0):=(zq BK267.out 1).trans rfl;have hcz18_2:w14.cell? ⟨gb267,2,none⟩=some (.int .i64 0):=(zq BK267.out 2).trans rfl;have hcz18_3:w14.cell? ⟨gb267,3,none⟩=some (.int .i64 0):=(zq BK267.out 3).trans rfl;have hcz18_4:w14.cell? ⟨gb267,4,none⟩=some (.int .i64 0):=(zq BK267.out 4).trans rfl;have hfz18_0:=zn BK267.out 0;have hfz18_1:=zn BK267.out 1;have hfz18_2:=zn BK267.out 2;have hfz18_3:=zn BK267.out 3;have hfz18_4:=zn BK267.out 4)|((with_reducible refine zQ (f:=20) rfl ?_);refine zaZ (some 24) rfl rfl Tryz.func20 (by kernel_rfl) rfl #[.agg #[.int .i64 t260,.int .i64 t261,.int .i64 t262,.int .i64 t263,.int .i64 t264]] rfl (by (try simp only [List.map_toArray,List.map_cons,List.map_nil]);first|done|rfl) ?_;(with_reducible refine (zah.calls k t260 t261 t262 t263 t264 t268 _ A7.out).mono ?_);rintro e w19 ⟨rfl,hb⟩;refine ⟨_,rfl,?_⟩;have n0_:=za.mk (zaC (g:=gb251) (o:= .cells #[.int .i64 0,.int .i64 0,.int .i64 0,.int .i64 0,.int .i64 0] 25 (0,0)) (by refine zal ?_ NB251_267.out _;refine zal ?_ NB251_267.out _;refine zal ?_ NB251_267.out _;refine zal ?_ NB251_267.out _;refine zal ?_ NB251_267.out _;exact BK251.out) hb);have n1_:=za.mk (zaC (g:=gb252) (o:= .cells #[.int .i64 0,.int .i64 0] 27 (0,0)) (by refine zal ?_ NB252_267.out _;refine zal ?_ NB252_267.out _;refine zal ?_ NB252_267.out _;refine zal ?_ NB252_267.out _;refine zal ?_ NB252_267.out _;exact BK252.out) hb);have n2_:=za.mk (zf.below (show zf w (((((w14.setCell ⟨gb267,0,none⟩ (.int .i64 t260)).setCell ⟨gb267,1,none⟩ (.int .i64 t261)).setCell ⟨gb267,2,none⟩ (.int .i64 t262)).setCell ⟨gb267,3,none⟩ (.int .i64 t263)).setCell ⟨gb267,4,none⟩ (.int .i64 t264)) g256 t253 t265 t266 from by repeat (with_reducible first|exact HI256.out|apply zf.alloc|apply zf.drewN|refine zf.far ?_ NB256_251.out _|refine zf.far ?_ NB256_252.out _|refine zf.far ?_ NB256_267.out _)) hb);have n3_:=za.mk (zaC (g:=gb267) (o:= .cells #[.int .i64 t260,.int .i64 t261,.int .i64 t262,.int .i64 t263,.int .i64 t264] 25 (0,0)) (by refine zaq (cs:=#[.int .i64 t260,.int .i64 t261,.int .i64 t262,.int .i64 t263,.int .i64 0]) ?_ 4 _ rfl;refine zaq (cs:=#[.int .i64 t260,.int .i64 t261,.int .i64 t262,.int .i64 0,.int .i64 0]) ?_ 3 _ rfl;refine zaq (cs:=#[.int .i64 t260,.int .i64 t261,.int .i64 0,.int .i64 0,.int .i64 0]) ?_ 2 _ rfl;refine zaq (cs:=#[.int .i64 t260,.int .i64 0,.int .i64 0,.int .i64 0,.int .i64 0]) ?_ 1 _ rfl;refine zaq (cs:=#[.int .i64 0,.int .i64 0,.int .i64 0,.int .i64 0,.int .i64 0]) ?_ 0 _ rfl;exact BK267.out) hb);have n4_:=za.mk (zaF (by repeat (with_reducible first|exact HB.out|apply zm|apply zk|refine zh ?_ (zf.ge HI256.out)|refine zh ?_ GE251.out|refine zh ?_ GE252.out|refine zh ?_ GE267.out)) hb);clear BK251;clear BK252;clear HI256;clear BK267;clear HB;have BK251:=n0_;have BK252:=n1_;have HI256:=n2_;have BK267:=n3_;have HB:=n4_;clear n0_ n1_ n2_ n3_ n4_;(try clear hb);(try clear hb2);(try clear hk);(try clear hi)))
 (try simp only [Act.put,List.setIfInBounds_toArray,List.set_cons_zero,List.set_cons_succ])
 go_cut [] (fun wc=>∃(kq:Nat) (x268000_7:Int) (x268001_7:Int) (x268002_7:Int) (x268003_7:Int) (x268004_7:Int),za (zam.j0 kq t253 t265 t266 x268000_7 x268001_7 x268002_7 x268003_7 x268004_7=some (r1,r2,r3,r4,r5,r6,r7))/\za (kq<=k)/\za (wc.heap[gb251]?=some (.cells #[.int .i64 0,.int .i64 0,.int .i64 0,.int .i64 0,.int .i64 0] 25 (0,0)))/\za (wc.heap[gb252]?=some (.cells #[.int .i64 0,.int .i64 0] 27 (0,0)))/\za (wc.heap[gb267]?=some (.cells #[.int .i64 x268000_7,.int .i64 x268001_7,.int .i64 x268002_7,.int .i64 x268003_7,.int .i64 x268004_7] 25 (0,0)))/\za (zf w wc g256 t253 t265 t266)/\za (Below w.heap.size w wc))
 case first=>
  have H:=HC8.out
  clear HC8
  by_cases c20:t268=true
  ·subst c20
   replace H:(zam.j0 k t253 t265 t266 t260 t261 t262 t263 t264)=some (r1,r2,r3,r4,r5,r6,r7):=by rw [if_pos rfl] at H;exact H
   have H':=za.mk H
   clear H
   go_wp2
   go_meet
   case rel=>exact ⟨_,(t260),(t261),(t262),(t263),(t264),H',⟨by first|omega|exact Nat.le_refl _⟩,⟨by exact BK251.out⟩,⟨by exact BK252.out⟩,⟨by exact BK267.out⟩,⟨by repeat (with_reducible first|exact HI256.out|apply zf.alloc|apply zf.drewN|refine zf.far ?_ NB256_251.out _|refine zf.far ?_ NB256_252.out _|refine zf.far ?_ NB256_267.out _)⟩,⟨by repeat (with_reducible first|exact HB.out|apply zm|apply zk|refine zh ?_ (zf.ge HI256.out)|refine zh ?_ GE251.out|refine zh ?_ GE252.out|refine zh ?_ GE267.out)⟩⟩
  ·replace c20:=Bool.eq_false_iff.mpr c20
   subst c20
   replace H:(zam.j0 k t253 t265 t266 1 0 0 0 0)=some (r1,r2,r3,r4,r5,r6,r7):=by rw [if_neg (show ¬(false=true) by decide)] at H;exact H
   have H':=za.mk H
   clear H
   have hnb21:=NB267_251.out
   have hnc21:=NB251_267.out
   have hnb22:=NB267_252.out
   have hnc22:=NB252_267.out
   have hnb23:=NB267_256.out
   have hnc23:=NB256_267.out
   have hcz24_0:w19.cell? ⟨gb267,0,none⟩=some (.int .i64 t260):=(zq BK267.out 0).trans rfl
   have hcz24_1:w19.cell? ⟨gb267,1,none⟩=some (.int .i64 t261):=(zq BK267.out 1).trans rfl
   have hcz24_2:w19.cell? ⟨gb267,2,none⟩=some (.int .i64 t262):=(zq BK267.out 2).trans rfl
   have hcz24_3:w19.cell? ⟨gb267,3,none⟩=some (.int .i64 t263):=(zq BK267.out 3).trans rfl
   have hcz24_4:w19.cell? ⟨gb267,4,none⟩=some (.int .i64 t264):=(zq BK267.out 4).trans rfl
   have hfz24_0:=zn BK267.out 0
   have hfz24_1:=zn BK267.out 1
   have hfz24_2:=zn BK267.out 2
   have hfz24_3:=zn BK267.out 3
   have hfz24_4:=zn BK267.out 4
   go_wp2
   go_meet
   case rel=>exact ⟨_,(1),(0),(0),(0),(0),H',⟨by first|omega|exact Nat.le_refl _⟩,⟨by refine zal ?_ NB251_267.out _;refine zal ?_ NB251_267.out _;refine zal ?_ NB251_267.out _;refine zal ?_ NB251_267.out _;refine zal ?_ NB251_267.out _;exact BK251.out⟩,⟨by refine zal ?_ NB252_267.out _;refine zal ?_ NB252_267.out _;refine zal ?_ NB252_267.out _;refine zal ?_ NB252_267.out _;refine zal ?_ NB252_267.out _;exact BK252.out⟩,⟨by refine zaq (cs:=#[.int .i64 1,.int .i64 0,.int .i64 0,.int .i64 0,.int .i64 t264]) ?_ 4 _ rfl;refine zaq (cs:=#[.int .i64 1,.int .i64 0,.int .i64 0,.int .i64 t263,.int .i64 t264]) ?_ 3 _ rfl;refine zaq (cs:=#[.int .i64 1,.int .i64 0,.int .i64 t262,.int .i64 t263,.int .i64 t264]) ?_ 2 _ rfl;refine zaq (cs:=#[.int .i64 1,.int .i64 t261,.int .i64 t262,.int .i64 t263,.int .i64 t264]) ?_ 1 _ rfl;refine zaq (cs:=#[.int .i64 t260,.int .i64 t261,.int .i64 t262,.int .i64 t263,.int .i64 t264]) ?_ 0 _ rfl;exact BK267.out⟩,⟨by repeat (with_reducible first|exact HI256.out|apply zf.alloc|apply zf.drewN|refine zf.far ?_ NB256_251.out _|refine zf.far ?_ NB256_252.out _|refine zf.far ?_ NB256_267.out _)⟩,⟨by repeat (with_reducible first|exact HB.out|apply zm|apply zk|refine zh ?_ (zf.ge HI256.out)|refine zh ?_ GE251.out|refine zh ?_ GE252.out|refine zh ?_ GE267.out)⟩⟩
 case rest=>
  clear HC8
  obtain ⟨kq,x268000_7,x268001_7,x268002_7,x268003_7,x268004_7,HA,HJ7,BK251,BK252,BK267,HI256,HB⟩:=hcut
  cases kq with
  | zero=>exact absurd HA.out (by simp [zam.j0])
  | succ kj7=>
   have H:=HA.out
   clear HA
   simp only [zam.j0] at H
   obtain ⟨⟨t269,t270,t271,t272⟩,A250,H⟩:=Option.bind_eq_some_iff.mp H
   replace H:((zbX.f t269 t270).bind fun t274=>(if t274=true then (some (x268000_7,x268001_7,x268002_7,x268003_7,x268004_7,t269,t270)) else ((zby.f kj7 t253 t271 t272).bind fun bt275=>(some (x268000_7,x268001_7,x268002_7,x268003_7,x268004_7,bt275.1,bt275.2.1)))))=some (r1,r2,r3,r4,r5,r6,r7):=H
   have A25:=za.mk A250
   clear A250
   obtain ⟨t274,A260,H⟩:=Option.bind_eq_some_iff.mp H
   replace H:(if t274=true then (some (x268000_7,x268001_7,x268002_7,x268003_7,x268004_7,t269,t270)) else ((zby.f kj7 t253 t271 t272).bind fun bt275=>(some (x268000_7,x268001_7,x268002_7,x268003_7,x268004_7,bt275.1,bt275.2.1))))=some (r1,r2,r3,r4,r5,r6,r7):=H
   have A26:=za.mk A260
   clear A260
   by_cases c27:t274=true
   ·subst c27
    replace H:(some (x268000_7,x268001_7,x268002_7,x268003_7,x268004_7,t269,t270))=some (r1,r2,r3,r4,r5,r6,r7):=by rw [if_pos rfl] at H;exact H
    simp only [Option.some.injEq,Prod.mk.injEq] at H
    obtain ⟨rfl,rfl,rfl,rfl,rfl,rfl,rfl⟩:=H
    have hnb28:=NB267_251.out
    have hnc28:=NB251_267.out
    have hnb29:=NB267_252.out
    have hnc29:=NB252_267.out
    have hnb30:=NB267_256.out
    have hnc30:=NB256_267.out
    have hcz31_0:wc.cell? ⟨gb267,0,none⟩=some (.int .i64 x268000_7):=(zq BK267.out 0).trans rfl
    have hcz31_1:wc.cell? ⟨gb267,1,none⟩=some (.int .i64 x268001_7):=(zq BK267.out 1).trans rfl
    have hcz31_2:wc.cell? ⟨gb267,2,none⟩=some (.int .i64 x268002_7):=(zq BK267.out 2).trans rfl
    have hcz31_3:wc.cell? ⟨gb267,3,none⟩=some (.int .i64 x268003_7):=(zq BK267.out 3).trans rfl
    have hcz31_4:wc.cell? ⟨gb267,4,none⟩=some (.int .i64 x268004_7):=(zq BK267.out 4).trans rfl
    have hfz31_0:=zn BK267.out 0
    have hfz31_1:=zn BK267.out 1
    have hfz31_2:=zn BK267.out 2
    have hfz31_3:=zn BK267.out 3
    have hfz31_4:=zn BK267.out 4
    try go_wp2_with (first|((with_reducible refine zQ (f:=21) rfl ?_);refine zaZ (some 29) rfl rfl Tryz.func21 (by kernel_rfl) rfl #[.pointer (some ⟨g256,0,none⟩),.agg #[.int .i64 x268000_7,.int .i64 x268001_7,.int .i64 x268002_7,.int .i64 x268003_7,.int .i64 x268004_7]] rfl (by (try simp only [List.map_toArray,List.map_cons,List.map_nil]);first|done|rfl) ?_;(with_reducible refine (zak.calls kj7 g256 t253 t265 t266 x268000_7 x268001_7 x268002_7 x268003_7 x268004_7 t269 t270 t271 t272 w _ ?side1 ?side2 A25.out).mono ?_);(case side1=>repeat (with_reducible first|exact HI256.out|apply zf.alloc|apply zf.drewN|refine zf.far ?_ NB256_251.out _|refine zf.far ?_ NB256_252.out _|refine zf.far ?_ NB256_267.out _));(case side2=>repeat (with_reducible first|exact HB.out|apply zm|apply zk|refine zh ?_ (zf.ge HI256.out)|refine zh ?_ GE251.out|refine zh ?_ GE252.out|refine zh ?_ GE267.out));rintro e w32 ⟨rfl,hi,hb,hk⟩;refine ⟨_,rfl,?_⟩;have n0_:=za.mk (zl.blk hk (g':=gb251) (o:= .cells #[.int .i64 0,.int .i64 0,.int .i64 0,.int .i64 0,.int .i64 0] 25 (0,0)) (by exact BK251.out) NB251_256.out (by simp));have n1_:=za.mk (zl.blk hk (g':=gb252) (o:= .cells #[.int .i64 0,.int .i64 0] 27 (0,0)) (by exact BK252.out) NB252_256.out (by simp));have n2_:=za.mk (zl.blk hk (g':=gb267) (o:= .cells #[.int .i64 x268000_7,.int .i64 x268001_7,.int .i64 x268002_7,.int .i64 x268003_7,.int .i64 x268004_7] 25 (0,0)) (by exact BK267.out) NB267_256.out (by simp));have n3_:=za.mk (hb);have n4_:=za.mk (hi);clear BK251;clear BK252;clear BK267;clear HB;clear HI256;have BK251:=n0_;have BK252:=n1_;have BK267:=n2_;have HB:=n3_;have HI256:=n4_;clear n0_ n1_ n2_ n3_ n4_;(try clear hb);(try clear hb2);(try clear hk);(try clear hi))|((with_reducible refine zbw (N:=10) rfl ?_);refine zbz ?hg (N:=10) ?hd (cs:=#[.int .i64 0,.int .i64 0]) (t:=27) ?hr ?_;(case hd=>rfl);(case hg=>rfl);(case hr=>first|(go_simp;done)|(go_simp;rfl));intro gb273 hg w33 hbox hb;have n0_:=za.mk (zaC (g:=gb251) (o:= .cells #[.int .i64 0,.int .i64 0,.int .i64 0,.int .i64 0,.int .i64 0] 25 (0,0)) (by exact BK251.out) hb);have n1_:=za.mk (zaC (g:=gb252) (o:= .cells #[.int .i64 0,.int .i64 0] 27 (0,0)) (by exact BK252.out) hb);have n2_:=za.mk (zaC (g:=gb267) (o:= .cells #[.int .i64 x268000_7,.int .i64 x268001_7,.int .i64 x268002_7,.int .i64 x268003_7,.int .i64 x268004_7] 25 (0,0)) (by exact BK267.out) hb);have n3_:=za.mk (zf.below (by repeat (with_reducible first|exact HI256.out|apply zf.alloc|apply zf.drewN|refine zf.far ?_ NB256_251.out _|refine zf.far ?_ NB256_252.out _|refine zf.far ?_ NB256_267.out _)) hb);have n4_:=za.mk (zaF (by repeat (with_reducible first|exact HB.out|apply zm|apply zk|refine zh ?_ (zf.ge HI256.out)|refine zh ?_ GE251.out|refine zh ?_ GE252.out|refine zh ?_ GE267.out)) hb);have n5_:=za.mk (hbox);have n6_:=za.mk ((by rw [hg];exact (zcc (by repeat (with_reducible first|exact HB.out|apply zm|apply zk|refine zh ?_ (zf.ge HI256.out)|refine zh ?_ GE251.out|refine zh ?_ GE252.out|refine zh ?_ GE267.out))):w.heap.size<=gb273));have n7_:=za.mk ((by rw [hg];exact (zcc (by repeat (with_reducible first|exact HB.out|apply zm|apply zk|refine zh ?_ (zf.ge HI256.out)|refine zh ?_ GE251.out|refine zh ?_ GE252.out|refine zh ?_ GE267.out))):w.heap.size<=gb273));have n8_:=za.mk ((by rw [hg];exact Nat.ne_of_lt (zco (g:=gb251) (o:= .cells #[.int .i64 0,.int .i64 0,.int .i64 0,.int .i64 0,.int .i64 0] 25 (0,0)) (by exact BK251.out)):gb251≠gb273));have n9_:=za.mk ((by rw [hg];exact Nat.ne_of_gt (zco (g:=gb251) (o:= .cells #[.int .i64 0,.int .i64 0,.int .i64 0,.int .i64 0,.int .i64 0] 25 (0,0)) (by exact BK251.out)):gb273≠gb251));have n10_:=za.mk ((by rw [hg];exact Nat.ne_of_lt (zco (g:=gb252) (o:= .cells #[.int .i64 0,.int .i64 0] 27 (0,0)) (by exact BK252.out)):gb252≠gb273));have n11_:=za.mk ((by rw [hg];exact Nat.ne_of_gt (zco (g:=gb252) (o:= .cells #[.int .i64 0,.int .i64 0] 27 (0,0)) (by exact BK252.out)):gb273≠gb252));have n12_:=za.mk ((by rw [hg];exact Nat.ne_of_lt (zco (g:=gb267) (o:= .cells #[.int .i64 x268000_7,.int .i64 x268001_7,.int .i64 x268002_7,.int .i64 x268003_7,.int .i64 x268004_7] 25 (0,0)) (by exact BK267.out)):gb267≠gb273));have n13_:=za.mk ((by rw [hg];exact Nat.ne_of_gt (zco (g:=gb267) (o:= .cells #[.int .i64 x268000_7,.int .i64 x268001_7,.int .i64 x268002_7,.int .i64 x268003_7,.int .i64 x268004_7] 25 (0,0)) (by exact BK267.out)):gb273≠gb267));have n14_:=za.mk ((by rw [hg];exact Nat.ne_of_lt (zf.lt (show zf w _ g256 t253 t271 t272 from by repeat (with_reducible first|exact HI256.out|apply zf.alloc|apply zf.drewN|refine zf.far ?_ NB256_251.out _|refine zf.far ?_ NB256_252.out _|refine zf.far ?_ NB256_267.out _))):g256≠gb273));have n15_:=za.mk ((by rw [hg];exact Nat.ne_of_gt (zf.lt (show zf w _ g256 t253 t271 t272 from by repeat (with_reducible first|exact HI256.out|apply zf.alloc|apply zf.drewN|refine zf.far ?_ NB256_251.out _|refine zf.far ?_ NB256_252.out _|refine zf.far ?_ NB256_267.out _))):gb273≠g256));clear BK251;clear BK252;clear BK267;clear HI256;clear HB;have BK251:=n0_;have BK252:=n1_;have BK267:=n2_;have HI256:=n3_;have HB:=n4_;have BK273:=n5_;have GW273:=n6_;have GE273:=n7_;have NB251_273:=n8_;have NB273_251:=n9_;have NB252_273:=n10_;have NB273_252:=n11_;have NB267_273:=n12_;have NB273_267:=n13_;have NB256_273:=n14_;have NB273_256:=n15_;clear n0_ n1_ n2_ n3_ n4_ n5_ n6_ n7_ n8_ n9_ n10_ n11_ n12_ n13_ n14_ n15_;clear hb hbox hg;have hnb34:=NB273_251.out;have hnc34:=NB251_273.out;have hnb35:=NB273_252.out;have hnc35:=NB252_273.out;have hnb36:=NB273_267.out;have hnc36:=NB267_273.out;have hnb37:=NB273_256.out;have hnc37:=NB256_273.out;have hcz38_0:w33.cell? ⟨gb273,0,none⟩=some (.int .i64 0):=(zq BK273.out 0).trans rfl;have hcz38_1:w33.cell? ⟨gb273,1,none⟩=some (.int .i64 0):=(zq BK273.out 1).trans rfl;have hfz38_0:=zn BK273.out 0;have hfz38_1:=zn BK273.out 1)|((with_reducible refine zQ (f:=22) rfl ?_);refine zaZ (some 31) rfl rfl Tryz.func22 (by kernel_rfl) rfl #[.agg #[.int .i64 t269,.int .i64 t270]] rfl (by (try simp only [List.map_toArray,List.map_cons,List.map_nil]);first|done|rfl) ?_;(with_reducible refine (zbX.calls t269 t270 true _ A26.out).mono ?_);rintro e w39 ⟨rfl,hb⟩;refine ⟨_,rfl,?_⟩;have n0_:=za.mk (zaC (g:=gb251) (o:= .cells #[.int .i64 0,.int .i64 0,.int .i64 0,.int .i64 0,.int .i64 0] 25 (0,0)) (by refine zal ?_ NB251_273.out _;refine zal ?_ NB251_273.out _;exact BK251.out) hb);have n1_:=za.mk (zaC (g:=gb252) (o:= .cells #[.int .i64 0,.int .i64 0] 27 (0,0)) (by refine zal ?_ NB252_273.out _;refine zal ?_ NB252_273.out _;exact BK252.out) hb);have n2_:=za.mk (zaC (g:=gb267) (o:= .cells #[.int .i64 x268000_7,.int .i64 x268001_7,.int .i64 x268002_7,.int .i64 x268003_7,.int .i64 x268004_7] 25 (0,0)) (by refine zal ?_ NB267_273.out _;refine zal ?_ NB267_273.out _;exact BK267.out) hb);have n3_:=za.mk (zf.below (show zf w ((w33.setCell ⟨gb273,0,none⟩ (.int .i64 t269)).setCell ⟨gb273,1,none⟩ (.int .i64 t270)) g256 t253 t271 t272 from by repeat (with_reducible first|exact HI256.out|apply zf.alloc|apply zf.drewN|refine zf.far ?_ NB256_251.out _|refine zf.far ?_ NB256_252.out _|refine zf.far ?_ NB256_267.out _|refine zf.far ?_ NB256_273.out _)) hb);have n4_:=za.mk (zaC (g:=gb273) (o:= .cells #[.int .i64 t269,.int .i64 t270] 27 (0,0)) (by refine zaq (cs:=#[.int .i64 t269,.int .i64 0]) ?_ 1 _ rfl;refine zaq (cs:=#[.int .i64 0,.int .i64 0]) ?_ 0 _ rfl;exact BK273.out) hb);have n5_:=za.mk (zaF (by repeat (with_reducible first|exact HB.out|apply zm|apply zk|refine zh ?_ (zf.ge HI256.out)|refine zh ?_ GE251.out|refine zh ?_ GE252.out|refine zh ?_ GE267.out|refine zh ?_ GE273.out)) hb);clear BK251;clear BK252;clear BK267;clear HI256;clear BK273;clear HB;have BK251:=n0_;have BK252:=n1_;have BK267:=n2_;have HI256:=n3_;have BK273:=n4_;have HB:=n5_;clear n0_ n1_ n2_ n3_ n4_ n5_;(try clear hb);(try clear hb2);(try clear hk);(try clear hi)))
    have n0_:=za.mk (zhO BK251.out)
    have n1_:=za.mk (zhO BK252.out)
    have n2_:=za.mk (zhO BK267.out)
    have n3_:=za.mk (zhO BK273.out)
    have n4_:=za.mk (zf.drew HI256.out)
    have n5_:=za.mk (zbL HB.out)
    clear BK251
    clear BK252
    clear BK267
    clear BK273
    clear HI256
    clear HB
    have BK251:=n0_
    have BK252:=n1_
    have BK267:=n2_
    have BK273:=n3_
    have HI256:=n4_
    have HB:=n5_
    clear n0_ n1_ n2_ n3_ n4_ n5_
    refine zBZ (n:=4) (S:=fun w'=>w'.cell? ⟨gb267,0,none⟩=some (.int .i64 x268000_7)/\w'.cell? ⟨gb267,1,none⟩=some (.int .i64 x268001_7)/\w'.cell? ⟨gb267,2,none⟩=some (.int .i64 x268002_7)/\w'.cell? ⟨gb267,3,none⟩=some (.int .i64 x268003_7)/\w'.cell? ⟨gb267,4,none⟩=some (.int .i64 x268004_7)/\w'.cell? ⟨gb273,0,none⟩=some (.int .i64 t269)/\w'.cell? ⟨gb273,1,none⟩=some (.int .i64 t270)) (ds:= []) #[false,false,false,false] (by kernel_rfl) rfl rfl ⟨(zq BK267.out 0).trans rfl,(zq BK267.out 1).trans rfl,(zq BK267.out 2).trans rfl,(zq BK267.out 3).trans rfl,(zq BK267.out 4).trans rfl,(zq BK273.out 0).trans rfl,(zq BK273.out 1).trans rfl⟩ (fun hHeld=>?_)
    generalize w39.drew=w40 at BK251 BK252 BK267 BK273 HI256 HB hHeld ⊢
    refine zBX (i:=0) (N:=some 35) (v:=?_) (a':=?_) #[true,false,false,false] rfl rfl (by kernel_rfl) (fun _ _ _ h=>h) (Or.inl ⟨by rfl,?_⟩) hHeld ?_ ?_
    rotate_left
    ·rintro w' ⟨s0,s1,s2,s3,s4,s5,s6⟩
     go_simp
     with_reducible rfl
    rotate_left
    ·simp only [Act.put,List.setIfInBounds_toArray,List.set_cons_zero,List.set_cons_succ,zj6,zj7]
     rfl
    refine zBX (i:=1) (N:=some 36) (v:=?_) (a':=?_) #[true,true,false,false] rfl rfl (by kernel_rfl) (fun _ _ _ h=>h) (Or.inl ⟨by rfl,?_⟩) hHeld ?_ ?_
    rotate_left
    ·rintro w' ⟨s0,s1,s2,s3,s4,s5,s6⟩
     go_simp
     with_reducible rfl
    rotate_left
    ·simp only [Act.put,List.setIfInBounds_toArray,List.set_cons_zero,List.set_cons_succ,zj6,zj7]
     rfl
    refine one_ (i:=2) (N:=none) #[true,true,true,false] rfl rfl (by kernel_rfl) (by decide) (fun K hK=>?_)
    have hs41:w40.cell? ⟨gb251,0,none⟩=some (.int .i64 0):=(zq BK251.out 0).trans rfl
    have hfs41:=zn BK251.out 0
    have hns41_1:=NB252_251.out
    have hns41_2:=NB267_251.out
    have hns41_3:=NB273_251.out
    have hms41_1:=NB251_252.out
    have hms41_2:=NB251_267.out
    have hms41_3:=NB251_273.out
    have hs42:w40.cell? ⟨gb251,1,none⟩=some (.int .i64 0):=(zq BK251.out 1).trans rfl
    have hfs42:=zn BK251.out 1
    have hns42_1:=NB252_251.out
    have hns42_2:=NB267_251.out
    have hns42_3:=NB273_251.out
    have hms42_1:=NB251_252.out
    have hms42_2:=NB251_267.out
    have hms42_3:=NB251_273.out
    have hs43:w40.cell? ⟨gb251,2,none⟩=some (.int .i64 0):=(zq BK251.out 2).trans rfl
    have hfs43:=zn BK251.out 2
    have hns43_1:=NB252_251.out
    have hns43_2:=NB267_251.out
    have hns43_3:=NB273_251.out
    have hms43_1:=NB251_252.out
    have hms43_2:=NB251_267.out
    have hms43_3:=NB251_273.out
    have hs44:w40.cell? ⟨gb251,3,none⟩=some (.int .i64 0):=(zq BK251.out 3).trans rfl
    have hfs44:=zn BK251.out 3
    have hns44_1:=NB252_251.out
    have hns44_2:=NB267_251.out
    have hns44_3:=NB273_251.out
    have hms44_1:=NB251_252.out
    have hms44_2:=NB251_267.out
    have hms44_3:=NB251_273.out
    have hs45:w40.cell? ⟨gb251,4,none⟩=some (.int .i64 0):=(zq BK251.out 4).trans rfl
    have hfs45:=zn BK251.out 4
    have hns45_1:=NB252_251.out
    have hns45_2:=NB267_251.out
    have hns45_3:=NB273_251.out
    have hms45_1:=NB251_252.out
    have hms45_2:=NB251_267.out
    have hms45_3:=NB251_273.out
    refine zB4 (w1:=?_) (by rfl) rfl ?_ ?_
    rotate_left
    ·go_simp
     rfl
    refine hK.out _ _ ⟨((cell_far (p:=⟨gb251,_,none⟩) NB267_251.out _).trans (((cell_far (p:=⟨gb251,_,none⟩) NB267_251.out _).trans (((cell_far (p:=⟨gb251,_,none⟩) NB267_251.out _).trans (((cell_far (p:=⟨gb251,_,none⟩) NB267_251.out _).trans (((cell_far (p:=⟨gb251,_,none⟩) NB267_251.out _).trans (hHeld.1)))))))))),((cell_far (p:=⟨gb251,_,none⟩) NB267_251.out _).trans (((cell_far (p:=⟨gb251,_,none⟩) NB267_251.out _).trans (((cell_far (p:=⟨gb251,_,none⟩) NB267_251.out _).trans (((cell_far (p:=⟨gb251,_,none⟩) NB267_251.out _).trans (((cell_far (p:=⟨gb251,_,none⟩) NB267_251.out _).trans (hHeld.2.1)))))))))),((cell_far (p:=⟨gb251,_,none⟩) NB267_251.out _).trans (((cell_far (p:=⟨gb251,_,none⟩) NB267_251.out _).trans (((cell_far (p:=⟨gb251,_,none⟩) NB267_251.out _).trans (((cell_far (p:=⟨gb251,_,none⟩) NB267_251.out _).trans (((cell_far (p:=⟨gb251,_,none⟩) NB267_251.out _).trans (hHeld.2.2.1)))))))))),((cell_far (p:=⟨gb251,_,none⟩) NB267_251.out _).trans (((cell_far (p:=⟨gb251,_,none⟩) NB267_251.out _).trans (((cell_far (p:=⟨gb251,_,none⟩) NB267_251.out _).trans (((cell_far (p:=⟨gb251,_,none⟩) NB267_251.out _).trans (((cell_far (p:=⟨gb251,_,none⟩) NB267_251.out _).trans (hHeld.2.2.2.1)))))))))),((cell_far (p:=⟨gb251,_,none⟩) NB267_251.out _).trans (((cell_far (p:=⟨gb251,_,none⟩) NB267_251.out _).trans (((cell_far (p:=⟨gb251,_,none⟩) NB267_251.out _).trans (((cell_far (p:=⟨gb251,_,none⟩) NB267_251.out _).trans (((cell_far (p:=⟨gb251,_,none⟩) NB267_251.out _).trans (hHeld.2.2.2.2.1)))))))))),((cell_far (p:=⟨gb251,_,none⟩) NB273_251.out _).trans (((cell_far (p:=⟨gb251,_,none⟩) NB273_251.out _).trans (((cell_far (p:=⟨gb251,_,none⟩) NB273_251.out _).trans (((cell_far (p:=⟨gb251,_,none⟩) NB273_251.out _).trans (((cell_far (p:=⟨gb251,_,none⟩) NB273_251.out _).trans (hHeld.2.2.2.2.2.1)))))))))),((cell_far (p:=⟨gb251,_,none⟩) NB273_251.out _).trans (((cell_far (p:=⟨gb251,_,none⟩) NB273_251.out _).trans (((cell_far (p:=⟨gb251,_,none⟩) NB273_251.out _).trans (((cell_far (p:=⟨gb251,_,none⟩) NB273_251.out _).trans (((cell_far (p:=⟨gb251,_,none⟩) NB273_251.out _).trans (hHeld.2.2.2.2.2.2))))))))))⟩ (fun hHeld=>?_)
    clear hK K
    refine one_ (i:=3) (N:=none) #[true,true,true,true] rfl rfl (by kernel_rfl) (by decide) (fun K hK=>?_)
    have hs46:w40.cell? ⟨gb252,0,none⟩=some (.int .i64 0):=(zq BK252.out 0).trans rfl
    have hfs46:=zn BK252.out 0
    have hns46_0:=NB251_252.out
    have hns46_2:=NB267_252.out
    have hns46_3:=NB273_252.out
    have hms46_0:=NB252_251.out
    have hms46_2:=NB252_267.out
    have hms46_3:=NB252_273.out
    have hs47:w40.cell? ⟨gb252,1,none⟩=some (.int .i64 0):=(zq BK252.out 1).trans rfl
    have hfs47:=zn BK252.out 1
    have hns47_0:=NB251_252.out
    have hns47_2:=NB267_252.out
    have hns47_3:=NB273_252.out
    have hms47_0:=NB252_251.out
    have hms47_2:=NB252_267.out
    have hms47_3:=NB252_273.out
    refine zB4 (w1:=?_) (by rfl) rfl ?_ ?_
    rotate_left
    ·go_simp
     rfl
    refine hK.out _ _ ⟨((cell_far (p:=⟨gb252,_,none⟩) NB267_252.out _).trans (((cell_far (p:=⟨gb252,_,none⟩) NB267_252.out _).trans (hHeld.1)))),((cell_far (p:=⟨gb252,_,none⟩) NB267_252.out _).trans (((cell_far (p:=⟨gb252,_,none⟩) NB267_252.out _).trans (hHeld.2.1)))),((cell_far (p:=⟨gb252,_,none⟩) NB267_252.out _).trans (((cell_far (p:=⟨gb252,_,none⟩) NB267_252.out _).trans (hHeld.2.2.1)))),((cell_far (p:=⟨gb252,_,none⟩) NB267_252.out _).trans (((cell_far (p:=⟨gb252,_,none⟩) NB267_252.out _).trans (hHeld.2.2.2.1)))),((cell_far (p:=⟨gb252,_,none⟩) NB267_252.out _).trans (((cell_far (p:=⟨gb252,_,none⟩) NB267_252.out _).trans (hHeld.2.2.2.2.1)))),((cell_far (p:=⟨gb252,_,none⟩) NB273_252.out _).trans (((cell_far (p:=⟨gb252,_,none⟩) NB273_252.out _).trans (hHeld.2.2.2.2.2.1)))),((cell_far (p:=⟨gb252,_,none⟩) NB273_252.out _).trans (((cell_far (p:=⟨gb252,_,none⟩) NB273_252.out _).trans (hHeld.2.2.2.2.2.2))))⟩ (fun hHeld=>?_)
    clear hK K
    refine zHS (by kernel_rfl) ?_
    try go_wp2
    refine bodyPost_ret (zt2 rfl _ _ gb251 gb252 25 27 #[.int .i64 x268000_7,.int .i64 x268001_7,.int .i64 x268002_7,.int .i64 x268003_7,.int .i64 x268004_7] #[.int .i64 t269,.int .i64 t270] (0,0) (0,0) _ _ rfl (by refine zal ?_ NB251_252.out _;refine zal ?_ NB251_252.out _;refine zaq (cs:=#[.int .i64 x268000_7,.int .i64 x268001_7,.int .i64 x268002_7,.int .i64 x268003_7,.int .i64 0]) ?_ 4 _ rfl;refine zaq (cs:=#[.int .i64 x268000_7,.int .i64 x268001_7,.int .i64 x268002_7,.int .i64 0,.int .i64 0]) ?_ 3 _ rfl;refine zaq (cs:=#[.int .i64 x268000_7,.int .i64 x268001_7,.int .i64 0,.int .i64 0,.int .i64 0]) ?_ 2 _ rfl;refine zaq (cs:=#[.int .i64 x268000_7,.int .i64 0,.int .i64 0,.int .i64 0,.int .i64 0]) ?_ 1 _ rfl;refine zaq (cs:=#[.int .i64 0,.int .i64 0,.int .i64 0,.int .i64 0,.int .i64 0]) ?_ 0 _ rfl;exact BK251.out) Tryz.underlying25 rfl (by kernel_rfl) rfl (by refine zaq (cs:=#[.int .i64 t269,.int .i64 0]) ?_ 1 _ rfl;refine zaq (cs:=#[.int .i64 0,.int .i64 0]) ?_ 0 _ rfl;refine zal ?_ NB252_251.out _;refine zal ?_ NB252_251.out _;refine zal ?_ NB252_251.out _;refine zal ?_ NB252_251.out _;refine zal ?_ NB252_251.out _;exact BK252.out) Tryz.underlying27 rfl (by kernel_rfl)) rfl ?_
    exact ⟨by first|rfl|(simp [*]<;>rfl),by repeat (with_reducible first|exact HB.out|apply zm|apply zk|refine zh ?_ (zf.ge HI256.out)|refine zh ?_ GE251.out|refine zh ?_ GE252.out|refine zh ?_ GE267.out|refine zh ?_ GE273.out)⟩
   ·replace c27:=Bool.eq_false_iff.mpr c27
    subst c27
    replace H:((zby.f kj7 t253 t271 t272).bind fun bt275=>(some (x268000_7,x268001_7,x268002_7,x268003_7,x268004_7,bt275.1,bt275.2.1)))=some (r1,r2,r3,r4,r5,r6,r7):=by rw [if_neg (show ¬(false=true) by decide)] at H;exact H
    obtain ⟨⟨t275,t276,t277,t278⟩,A480,H⟩:=Option.bind_eq_some_iff.mp H
    replace H:(some (x268000_7,x268001_7,x268002_7,x268003_7,x268004_7,t275,t276))=some (r1,r2,r3,r4,r5,r6,r7):=H
    have A48:=za.mk A480
    clear A480
    simp only [Option.some.injEq,Prod.mk.injEq] at H
    obtain ⟨rfl,rfl,rfl,rfl,rfl,rfl,rfl⟩:=H
    have hnb49:=NB267_251.out
    have hnc49:=NB251_267.out
    have hnb50:=NB267_252.out
    have hnc50:=NB252_267.out
    have hnb51:=NB267_256.out
    have hnc51:=NB256_267.out
    have hcz52_0:wc.cell? ⟨gb267,0,none⟩=some (.int .i64 x268000_7):=(zq BK267.out 0).trans rfl
    have hcz52_1:wc.cell? ⟨gb267,1,none⟩=some (.int .i64 x268001_7):=(zq BK267.out 1).trans rfl
    have hcz52_2:wc.cell? ⟨gb267,2,none⟩=some (.int .i64 x268002_7):=(zq BK267.out 2).trans rfl
    have hcz52_3:wc.cell? ⟨gb267,3,none⟩=some (.int .i64 x268003_7):=(zq BK267.out 3).trans rfl
    have hcz52_4:wc.cell? ⟨gb267,4,none⟩=some (.int .i64 x268004_7):=(zq BK267.out 4).trans rfl
    have hfz52_0:=zn BK267.out 0
    have hfz52_1:=zn BK267.out 1
    have hfz52_2:=zn BK267.out 2
    have hfz52_3:=zn BK267.out 3
    have hfz52_4:=zn BK267.out 4
    try go_wp2_with (first|((with_reducible refine zQ (f:=21) rfl ?_);refine zaZ (some 29) rfl rfl Tryz.func21 (by kernel_rfl) rfl #[.pointer (some ⟨g256,0,none⟩),.agg #[.int .i64 x268000_7,.int .i64 x268001_7,.int .i64 x268002_7,.int .i64 x268003_7,.int .i64 x268004_7]] rfl (by (try simp only [List.map_toArray,List.map_cons,List.map_nil]);first|done|rfl) ?_;(with_reducible refine (zak.calls kj7 g256 t253 t265 t266 x268000_7 x268001_7 x268002_7 x268003_7 x268004_7 t269 t270 t271 t272 w _ ?side1 ?side2 A25.out).mono ?_);(case side1=>repeat (with_reducible first|exact HI256.out|apply zf.alloc|apply zf.drewN|refine zf.far ?_ NB256_251.out _|refine zf.far ?_ NB256_252.out _|refine zf.far ?_ NB256_267.out _));(case side2=>repeat (with_reducible first|exact HB.out|apply zm|apply zk|refine zh ?_ (zf.ge HI256.out)|refine zh ?_ GE251.out|refine zh ?_ GE252.out|refine zh ?_ GE267.out));rintro e w53 ⟨rfl,hi,hb,hk⟩;refine ⟨_,rfl,?_⟩;have n0_:=za.mk (zl.blk hk (g':=gb251) (o:= .cells #[.int .i64 0,.int .i64 0,.int .i64 0,.int .i64 0,.int .i64 0] 25 (0,0)) (by exact BK251.out) NB251_256.out (by simp));have n1_:=za.mk (zl.blk hk (g':=gb252) (o:= .cells #[.int .i64 0,.int .i64 0] 27 (0,0)) (by exact BK252.out) NB252_256.out (by simp));have n2_:=za.mk (zl.blk hk (g':=gb267) (o:= .cells #[.int .i64 x268000_7,.int .i64 x268001_7,.int .i64 x268002_7,.int .i64 x268003_7,.int .i64 x268004_7] 25 (0,0)) (by exact BK267.out) NB267_256.out (by simp));have n3_:=za.mk (hb);have n4_:=za.mk (hi);clear BK251;clear BK252;clear BK267;clear HB;clear HI256;have BK251:=n0_;have BK252:=n1_;have BK267:=n2_;have HB:=n3_;have HI256:=n4_;clear n0_ n1_ n2_ n3_ n4_;(try clear hb);(try clear hb2);(try clear hk);(try clear hi))|((with_reducible refine zbw (N:=10) rfl ?_);refine zbz ?hg (N:=10) ?hd (cs:=#[.int .i64 0,.int .i64 0]) (t:=27) ?hr ?_;(case hd=>rfl);(case hg=>rfl);(case hr=>first|(go_simp;done)|(go_simp;rfl));intro gb273 hg w54 hbox hb;have n0_:=za.mk (zaC (g:=gb251) (o:= .cells #[.int .i64 0,.int .i64 0,.int .i64 0,.int .i64 0,.int .i64 0] 25 (0,0)) (by exact BK251.out) hb);have n1_:=za.mk (zaC (g:=gb252) (o:= .cells #[.int .i64 0,.int .i64 0] 27 (0,0)) (by exact BK252.out) hb);have n2_:=za.mk (zaC (g:=gb267) (o:= .cells #[.int .i64 x268000_7,.int .i64 x268001_7,.int .i64 x268002_7,.int .i64 x268003_7,.int .i64 x268004_7] 25 (0,0)) (by exact BK267.out) hb);have n3_:=za.mk (zf.below (by repeat (with_reducible first|exact HI256.out|apply zf.alloc|apply zf.drewN|refine zf.far ?_ NB256_251.out _|refine zf.far ?_ NB256_252.out _|refine zf.far ?_ NB256_267.out _)) hb);have n4_:=za.mk (zaF (by repeat (with_reducible first|exact HB.out|apply zm|apply zk|refine zh ?_ (zf.ge HI256.out)|refine zh ?_ GE251.out|refine zh ?_ GE252.out|refine zh ?_ GE267.out)) hb);have n5_:=za.mk (hbox);have n6_:=za.mk ((by rw [hg];exact (zcc (by repeat (with_reducible first|exact HB.out|apply zm|apply zk|refine zh ?_ (zf.ge HI256.out)|refine zh ?_ GE251.out|refine zh ?_ GE252.out|refine zh ?_ GE267.out))):w.heap.size<=gb273));have n7_:=za.mk ((by rw [hg];exact (zcc (by repeat (with_reducible first|exact HB.out|apply zm|apply zk|refine zh ?_ (zf.ge HI256.out)|refine zh ?_ GE251.out|refine zh ?_ GE252.out|refine zh ?_ GE267.out))):w.heap.size<=gb273));have n8_:=za.mk ((by rw [hg];exact Nat.ne_of_lt (zco (g:=gb251) (o:= .cells #[.int .i64 0,.int .i64 0,.int .i64 0,.int .i64 0,.int .i64 0] 25 (0,0)) (by exact BK251.out)):gb251≠gb273));have n9_:=za.mk ((by rw [hg];exact Nat.ne_of_gt (zco (g:=gb251) (o:= .cells #[.int .i64 0,.int .i64 0,.int .i64 0,.int .i64 0,.int .i64 0] 25 (0,0)) (by exact BK251.out)):gb273≠gb251));have n10_:=za.mk ((by rw [hg];exact Nat.ne_of_lt (zco (g:=gb252) (o:= .cells #[.int .i64 0,.int .i64 0] 27 (0,0)) (by exact BK252.out)):gb252≠gb273));have n11_:=za.mk ((by rw [hg];exact Nat.ne_of_gt (zco (g:=gb252) (o:= .cells #[.int .i64 0,.int .i64 0] 27 (0,0)) (by exact BK252.out)):gb273≠gb252));have n12_:=za.mk ((by rw [hg];exact Nat.ne_of_lt (zco (g:=gb267) (o:= .cells #[.int .i64 x268000_7,.int .i64 x268001_7,.int .i64 x268002_7,.int .i64 x268003_7,.int .i64 x268004_7] 25 (0,0)) (by exact BK267.out)):gb267≠gb273));have n13_:=za.mk ((by rw [hg];exact Nat.ne_of_gt (zco (g:=gb267) (o:= .cells #[.int .i64 x268000_7,.int .i64 x268001_7,.int .i64 x268002_7,.int .i64 x268003_7,.int .i64 x268004_7] 25 (0,0)) (by exact BK267.out)):gb273≠gb267));have n14_:=za.mk ((by rw [hg];exact Nat.ne_of_lt (zf.lt (show zf w _ g256 t253 t271 t272 from by repeat (with_reducible first|exact HI256.out|apply zf.alloc|apply zf.drewN|refine zf.far ?_ NB256_251.out _|refine zf.far ?_ NB256_252.out _|refine zf.far ?_ NB256_267.out _))):g256≠gb273));have n15_:=za.mk ((by rw [hg];exact Nat.ne_of_gt (zf.lt (show zf w _ g256 t253 t271 t272 from by repeat (with_reducible first|exact HI256.out|apply zf.alloc|apply zf.drewN|refine zf.far ?_ NB256_251.out _|refine zf.far ?_ NB256_252.out _|refine zf.far ?_ NB256_267.out _))):gb273≠g256));clear BK251;clear BK252;clear BK267;clear HI256;clear HB;have BK251:=n0_;have BK252:=n1_;have BK267:=n2_;have HI256:=n3_;have HB:=n4_;have BK273:=n5_;have GW273:=n6_;have GE273:=n7_;have NB251_273:=n8_;have NB273_251:=n9_;have NB252_273:=n10_;have NB273_252:=n11_;have NB267_273:=n12_;have NB273_267:=n13_;have NB256_273:=n14_;have NB273_256:=n15_;clear n0_ n1_ n2_ n3_ n4_ n5_ n6_ n7_ n8_ n9_ n10_ n11_ n12_ n13_ n14_ n15_;clear hb hbox hg;have hnb55:=NB273_251.out;have hnc55:=NB251_273.out;have hnb56:=NB273_252.out;have hnc56:=NB252_273.out;have hnb57:=NB273_267.out;have hnc57:=NB267_273.out;have hnb58:=NB273_256.out;have hnc58:=NB256_273.out;have hcz59_0:w54.cell? ⟨gb273,0,none⟩=some (.int .i64 0):=(zq BK273.out 0).trans rfl;have hcz59_1:w54.cell? ⟨gb273,1,none⟩=some (.int .i64 0):=(zq BK273.out 1).trans rfl;have hfz59_0:=zn BK273.out 0;have hfz59_1:=zn BK273.out 1)|((with_reducible refine zQ (f:=22) rfl ?_);refine zaZ (some 31) rfl rfl Tryz.func22 (by kernel_rfl) rfl #[.agg #[.int .i64 t269,.int .i64 t270]] rfl (by (try simp only [List.map_toArray,List.map_cons,List.map_nil]);first|done|rfl) ?_;(with_reducible refine (zbX.calls t269 t270 false _ A26.out).mono ?_);rintro e w60 ⟨rfl,hb⟩;refine ⟨_,rfl,?_⟩;have n0_:=za.mk (zaC (g:=gb251) (o:= .cells #[.int .i64 0,.int .i64 0,.int .i64 0,.int .i64 0,.int .i64 0] 25 (0,0)) (by refine zal ?_ NB251_273.out _;refine zal ?_ NB251_273.out _;exact BK251.out) hb);have n1_:=za.mk (zaC (g:=gb252) (o:= .cells #[.int .i64 0,.int .i64 0] 27 (0,0)) (by refine zal ?_ NB252_273.out _;refine zal ?_ NB252_273.out _;exact BK252.out) hb);have n2_:=za.mk (zaC (g:=gb267) (o:= .cells #[.int .i64 x268000_7,.int .i64 x268001_7,.int .i64 x268002_7,.int .i64 x268003_7,.int .i64 x268004_7] 25 (0,0)) (by refine zal ?_ NB267_273.out _;refine zal ?_ NB267_273.out _;exact BK267.out) hb);have n3_:=za.mk (zf.below (show zf w ((w54.setCell ⟨gb273,0,none⟩ (.int .i64 t269)).setCell ⟨gb273,1,none⟩ (.int .i64 t270)) g256 t253 t271 t272 from by repeat (with_reducible first|exact HI256.out|apply zf.alloc|apply zf.drewN|refine zf.far ?_ NB256_251.out _|refine zf.far ?_ NB256_252.out _|refine zf.far ?_ NB256_267.out _|refine zf.far ?_ NB256_273.out _)) hb);have n4_:=za.mk (zaC (g:=gb273) (o:= .cells #[.int .i64 t269,.int .i64 t270] 27 (0,0)) (by refine zaq (cs:=#[.int .i64 t269,.int .i64 0]) ?_ 1 _ rfl;refine zaq (cs:=#[.int .i64 0,.int .i64 0]) ?_ 0 _ rfl;exact BK273.out) hb);have n5_:=za.mk (zaF (by repeat (with_reducible first|exact HB.out|apply zm|apply zk|refine zh ?_ (zf.ge HI256.out)|refine zh ?_ GE251.out|refine zh ?_ GE252.out|refine zh ?_ GE267.out|refine zh ?_ GE273.out)) hb);clear BK251;clear BK252;clear BK267;clear HI256;clear BK273;clear HB;have BK251:=n0_;have BK252:=n1_;have BK267:=n2_;have HI256:=n3_;have BK273:=n4_;have HB:=n5_;clear n0_ n1_ n2_ n3_ n4_ n5_;(try clear hb);(try clear hb2);(try clear hk);(try clear hi))|((with_reducible refine zQ (f:=23) rfl ?_);refine zaZ (some 34) rfl rfl Tryz.func23 (by kernel_rfl) rfl #[.pointer (some ⟨g256,0,none⟩)] rfl (by (try simp only [List.map_toArray,List.map_cons,List.map_nil]);first|done|rfl) ?_;(with_reducible refine (zby.calls kj7 g256 t253 t271 t272 t275 t276 t277 t278 w _ ?side1 ?side2 A48.out).mono ?_);(case side1=>repeat (with_reducible first|exact HI256.out|apply zf.alloc|apply zf.drewN|refine zf.far ?_ NB256_251.out _|refine zf.far ?_ NB256_252.out _|refine zf.far ?_ NB256_267.out _|refine zf.far ?_ NB256_273.out _));(case side2=>repeat (with_reducible first|exact HB.out|apply zm|apply zk|refine zh ?_ (zf.ge HI256.out)|refine zh ?_ GE251.out|refine zh ?_ GE252.out|refine zh ?_ GE267.out|refine zh ?_ GE273.out));rintro e w61 ⟨rfl,hi,hb,hk⟩;refine ⟨_,rfl,?_⟩;have n0_:=za.mk (zl.blk hk (g':=gb251) (o:= .cells #[.int .i64 0,.int .i64 0,.int .i64 0,.int .i64 0,.int .i64 0] 25 (0,0)) (by exact BK251.out) NB251_256.out (by simp));have n1_:=za.mk (zl.blk hk (g':=gb252) (o:= .cells #[.int .i64 0,.int .i64 0] 27 (0,0)) (by exact BK252.out) NB252_256.out (by simp));have n2_:=za.mk (zl.blk hk (g':=gb267) (o:= .cells #[.int .i64 x268000_7,.int .i64 x268001_7,.int .i64 x268002_7,.int .i64 x268003_7,.int .i64 x268004_7] 25 (0,0)) (by exact BK267.out) NB267_256.out (by simp));have n3_:=za.mk (zl.blk hk (g':=gb273) (o:= .cells #[.int .i64 t269,.int .i64 t270] 27 (0,0)) (by exact BK273.out) NB273_256.out (by simp));have n4_:=za.mk (hb);have n5_:=za.mk (hi);clear BK251;clear BK252;clear BK267;clear BK273;clear HB;clear HI256;have BK251:=n0_;have BK252:=n1_;have BK267:=n2_;have BK273:=n3_;have HB:=n4_;have HI256:=n5_;clear n0_ n1_ n2_ n3_ n4_ n5_;(try clear hb);(try clear hb2);(try clear hk);(try clear hi);have hcz62_0:w61.cell? ⟨gb273,0,none⟩=some (.int .i64 t269):=(zq BK273.out 0).trans rfl;have hcz62_1:w61.cell? ⟨gb273,1,none⟩=some (.int .i64 t270):=(zq BK273.out 1).trans rfl;have hfz62_0:=zn BK273.out 0;have hfz62_1:=zn BK273.out 1))
    have n0_:za (((w61.setCell ⟨gb273,0,none⟩ (.int .i64 t275)).setCell ⟨gb273,1,none⟩ (.int .i64 t276)).heap[gb251]?=some (.cells #[.int .i64 0,.int .i64 0,.int .i64 0,.int .i64 0,.int .i64 0] 25 (0,0))):=⟨by refine zal ?_ NB251_273.out _;refine zal ?_ NB251_273.out _;exact BK251.out⟩
    have n1_:za (((w61.setCell ⟨gb273,0,none⟩ (.int .i64 t275)).setCell ⟨gb273,1,none⟩ (.int .i64 t276)).heap[gb252]?=some (.cells #[.int .i64 0,.int .i64 0] 27 (0,0))):=⟨by refine zal ?_ NB252_273.out _;refine zal ?_ NB252_273.out _;exact BK252.out⟩
    have n2_:za (((w61.setCell ⟨gb273,0,none⟩ (.int .i64 t275)).setCell ⟨gb273,1,none⟩ (.int .i64 t276)).heap[gb267]?=some (.cells #[.int .i64 x268000_7,.int .i64 x268001_7,.int .i64 x268002_7,.int .i64 x268003_7,.int .i64 x268004_7] 25 (0,0))):=⟨by refine zal ?_ NB267_273.out _;refine zal ?_ NB267_273.out _;exact BK267.out⟩
    have n3_:za (((w61.setCell ⟨gb273,0,none⟩ (.int .i64 t275)).setCell ⟨gb273,1,none⟩ (.int .i64 t276)).heap[gb273]?=some (.cells #[.int .i64 t275,.int .i64 t276] 27 (0,0))):=⟨by refine zaq (cs:=#[.int .i64 t275,.int .i64 t270]) ?_ 1 _ rfl;refine zaq (cs:=#[.int .i64 t269,.int .i64 t270]) ?_ 0 _ rfl;exact BK273.out⟩
    have n4_:za (zf w ((w61.setCell ⟨gb273,0,none⟩ (.int .i64 t275)).setCell ⟨gb273,1,none⟩ (.int .i64 t276)) g256 t253 t277 t278):=⟨by repeat (with_reducible first|exact HI256.out|apply zf.alloc|apply zf.drewN|refine zf.far ?_ NB256_251.out _|refine zf.far ?_ NB256_252.out _|refine zf.far ?_ NB256_267.out _|refine zf.far ?_ NB256_273.out _)⟩
    have n5_:za (Below w.heap.size w ((w61.setCell ⟨gb273,0,none⟩ (.int .i64 t275)).setCell ⟨gb273,1,none⟩ (.int .i64 t276))):=⟨by repeat (with_reducible first|exact HB.out|apply zm|apply zk|refine zh ?_ (zf.ge HI256.out)|refine zh ?_ GE251.out|refine zh ?_ GE252.out|refine zh ?_ GE267.out|refine zh ?_ GE273.out)⟩
    (try clear BK251)
    (try clear BK252)
    (try clear BK267)
    (try clear BK273)
    (try clear HI256)
    (try clear HB)
    generalize ((w61.setCell ⟨gb273,0,none⟩ (.int .i64 t275)).setCell ⟨gb273,1,none⟩ (.int .i64 t276))=w63 at n0_ n1_ n2_ n3_ n4_ n5_ ⊢
    have BK251:=n0_
    have BK252:=n1_
    have BK267:=n2_
    have BK273:=n3_
    have HI256:=n4_
    have HB:=n5_
    clear n0_ n1_ n2_ n3_ n4_ n5_
    have n0_:=za.mk (zhO BK251.out)
    have n1_:=za.mk (zhO BK252.out)
    have n2_:=za.mk (zhO BK267.out)
    have n3_:=za.mk (zhO BK273.out)
    have n4_:=za.mk (zf.drew HI256.out)
    have n5_:=za.mk (zbL HB.out)
    clear BK251
    clear BK252
    clear BK267
    clear BK273
    clear HI256
    clear HB
    have BK251:=n0_
    have BK252:=n1_
    have BK267:=n2_
    have BK273:=n3_
    have HI256:=n4_
    have HB:=n5_
    clear n0_ n1_ n2_ n3_ n4_ n5_
    refine zBZ (n:=4) (S:=fun w'=>w'.cell? ⟨gb267,0,none⟩=some (.int .i64 x268000_7)/\w'.cell? ⟨gb267,1,none⟩=some (.int .i64 x268001_7)/\w'.cell? ⟨gb267,2,none⟩=some (.int .i64 x268002_7)/\w'.cell? ⟨gb267,3,none⟩=some (.int .i64 x268003_7)/\w'.cell? ⟨gb267,4,none⟩=some (.int .i64 x268004_7)/\w'.cell? ⟨gb273,0,none⟩=some (.int .i64 t275)/\w'.cell? ⟨gb273,1,none⟩=some (.int .i64 t276)) (ds:= []) #[false,false,false,false] (by kernel_rfl) rfl rfl ⟨(zq BK267.out 0).trans rfl,(zq BK267.out 1).trans rfl,(zq BK267.out 2).trans rfl,(zq BK267.out 3).trans rfl,(zq BK267.out 4).trans rfl,(zq BK273.out 0).trans rfl,(zq BK273.out 1).trans rfl⟩ (fun hHeld=>?_)
    generalize w63.drew=w64 at BK251 BK252 BK267 BK273 HI256 HB hHeld ⊢
    refine zBX (i:=0) (N:=some 35) (v:=?_) (a':=?_) #[true,false,false,false] rfl rfl (by kernel_rfl) (fun _ _ _ h=>h) (Or.inl ⟨by rfl,?_⟩) hHeld ?_ ?_
    rotate_left
    ·rintro w' ⟨s0,s1,s2,s3,s4,s5,s6⟩
     go_simp
     with_reducible rfl
    rotate_left
    ·simp only [Act.put,List.setIfInBounds_toArray,List.set_cons_zero,List.set_cons_succ,zj6,zj7]
     rfl
    refine zBX (i:=1) (N:=some 36) (v:=?_) (a':=?_) #[true,true,false,false] rfl rfl (by kernel_rfl) (fun _ _ _ h=>h) (Or.inl ⟨by rfl,?_⟩) hHeld ?_ ?_
    rotate_left
    ·rintro w' ⟨s0,s1,s2,s3,s4,s5,s6⟩
     go_simp
     with_reducible rfl
    rotate_left
    ·simp only [Act.put,List.setIfInBounds_toArray,List.set_cons_zero,List.set_cons_succ,zj6,zj7]
     rfl
    refine one_ (i:=2) (N:=none) #[true,true,true,false] rfl rfl (by kernel_rfl) (by decide) (fun K hK=>?_)
    have hs65:w64.cell? ⟨gb251,0,none⟩=some (.int .i64 0):=(zq BK251.out 0).trans rfl
    have hfs65:=zn BK251.out 0
    have hns65_1:=NB252_251.out
    have hns65_2:=NB267_251.out
    have hns65_3:=NB273_251.out
    have hms65_1:=NB251_252.out
    have hms65_2:=NB251_267.out
    have hms65_3:=NB251_273.out
    have hs66:w64.cell? ⟨gb251,1,none⟩=some (.int .i64 0):=(zq BK251.out 1).trans rfl
    have hfs66:=zn BK251.out 1
    have hns66_1:=NB252_251.out
    have hns66_2:=NB267_251.out
    have hns66_3:=NB273_251.out
    have hms66_1:=NB251_252.out
    have hms66_2:=NB251_267.out
    have hms66_3:=NB251_273.out
    have hs67:w64.cell? ⟨gb251,2,none⟩=some (.int .i64 0):=(zq BK251.out 2).trans rfl
    have hfs67:=zn BK251.out 2
    have hns67_1:=NB252_251.out
    have hns67_2:=NB267_251.out
    have hns67_3:=NB273_251.out
    have hms67_1:=NB251_252.out
    have hms67_2:=NB251_267.out
    have hms67_3:=NB251_273.out
    have hs68:w64.cell? ⟨gb251,3,none⟩=some (.int .i64 0):=(zq BK251.out 3).trans rfl
    have hfs68:=zn BK251.out 3
    have hns68_1:=NB252_251.out
    have hns68_2:=NB267_251.out
    have hns68_3:=NB273_251.out
    have hms68_1:=NB251_252.out
    have hms68_2:=NB251_267.out
    have hms68_3:=NB251_273.out
    have hs69:w64.cell? ⟨gb251,4,none⟩=some (.int .i64 0):=(zq BK251.out 4).trans rfl
    have hfs69:=zn BK251.out 4
    have hns69_1:=NB252_251.out
    have hns69_2:=NB267_251.out
    have hns69_3:=NB273_251.out
    have hms69_1:=NB251_252.out
    have hms69_2:=NB251_267.out
    have hms69_3:=NB251_273.out
    refine zB4 (w1:=?_) (by rfl) rfl ?_ ?_
    rotate_left
    ·go_simp
     rfl
    refine hK.out _ _ ⟨((cell_far (p:=⟨gb251,_,none⟩) NB267_251.out _).trans (((cell_far (p:=⟨gb251,_,none⟩) NB267_251.out _).trans (((cell_far (p:=⟨gb251,_,none⟩) NB267_251.out _).trans (((cell_far (p:=⟨gb251,_,none⟩) NB267_251.out _).trans (((cell_far (p:=⟨gb251,_,none⟩) NB267_251.out _).trans (hHeld.1)))))))))),((cell_far (p:=⟨gb251,_,none⟩) NB267_251.out _).trans (((cell_far (p:=⟨gb251,_,none⟩) NB267_251.out _).trans (((cell_far (p:=⟨gb251,_,none⟩) NB267_251.out _).trans (((cell_far (p:=⟨gb251,_,none⟩) NB267_251.out _).trans (((cell_far (p:=⟨gb251,_,none⟩) NB267_251.out _).trans (hHeld.2.1)))))))))),((cell_far (p:=⟨gb251,_,none⟩) NB267_251.out _).trans (((cell_far (p:=⟨gb251,_,none⟩) NB267_251.out _).trans (((cell_far (p:=⟨gb251,_,none⟩) NB267_251.out _).trans (((cell_far (p:=⟨gb251,_,none⟩) NB267_251.out _).trans (((cell_far (p:=⟨gb251,_,none⟩) NB267_251.out _).trans (hHeld.2.2.1)))))))))),((cell_far (p:=⟨gb251,_,none⟩) NB267_251.out _).trans (((cell_far (p:=⟨gb251,_,none⟩) NB267_251.out _).trans (((cell_far (p:=⟨gb251,_,none⟩) NB267_251.out _).trans (((cell_far (p:=⟨gb251,_,none⟩) NB267_251.out _).trans (((cell_far (p:=⟨gb251,_,none⟩) NB267_251.out _).trans (hHeld.2.2.2.1)))))))))),((cell_far (p:=⟨gb251,_,none⟩) NB267_251.out _).trans (((cell_far (p:=⟨gb251,_,none⟩) NB267_251.out _).trans (((cell_far (p:=⟨gb251,_,none⟩) NB267_251.out _).trans (((cell_far (p:=⟨gb251,_,none⟩) NB267_251.out _).trans (((cell_far (p:=⟨gb251,_,none⟩) NB267_251.out _).trans (hHeld.2.2.2.2.1)))))))))),((cell_far (p:=⟨gb251,_,none⟩) NB273_251.out _).trans (((cell_far (p:=⟨gb251,_,none⟩) NB273_251.out _).trans (((cell_far (p:=⟨gb251,_,none⟩) NB273_251.out _).trans (((cell_far (p:=⟨gb251,_,none⟩) NB273_251.out _).trans (((cell_far (p:=⟨gb251,_,none⟩) NB273_251.out _).trans (hHeld.2.2.2.2.2.1)))))))))),((cell_far (p:=⟨gb251,_,none⟩) NB273_251.out _).trans (((cell_far (p:=⟨gb251,_,none⟩) NB273_251.out _).trans (((cell_far (p:=⟨gb251,_,none⟩) NB273_251.out _).trans (((cell_far (p:=⟨gb251,_,none⟩) NB273_251.out _).trans (((cell_far (p:=⟨gb251,_,none⟩) NB273_251.out _).trans (hHeld.2.2.2.2.2.2))))))))))⟩ (fun hHeld=>?_)
    clear hK K
    refine one_ (i:=3) (N:=none) #[true,true,true,true] rfl rfl (by kernel_rfl) (by decide) (fun K hK=>?_)
    have hs70:w64.cell? ⟨gb252,0,none⟩=some (.int .i64 0):=(zq BK252.out 0).trans rfl
    have hfs70:=zn BK252.out 0
    have hns70_0:=NB251_252.out
    have hns70_2:=NB267_252.out
    have hns70_3:=NB273_252.out
    have hms70_0:=NB252_251.out
    have hms70_2:=NB252_267.out
    have hms70_3:=NB252_273.out
    have hs71:w64.cell? ⟨gb252,1,none⟩=some (.int .i64 0):=(zq BK252.out 1).trans rfl
    have hfs71:=zn BK252.out 1
    have hns71_0:=NB251_252.out
    have hns71_2:=NB267_252.out
    have hns71_3:=NB273_252.out
    have hms71_0:=NB252_251.out
    have hms71_2:=NB252_267.out
    have hms71_3:=NB252_273.out
    refine zB4 (w1:=?_) (by rfl) rfl ?_ ?_
    rotate_left
    ·go_simp
     rfl
    refine hK.out _ _ ⟨((cell_far (p:=⟨gb252,_,none⟩) NB267_252.out _).trans (((cell_far (p:=⟨gb252,_,none⟩) NB267_252.out _).trans (hHeld.1)))),((cell_far (p:=⟨gb252,_,none⟩) NB267_252.out _).trans (((cell_far (p:=⟨gb252,_,none⟩) NB267_252.out _).trans (hHeld.2.1)))),((cell_far (p:=⟨gb252,_,none⟩) NB267_252.out _).trans (((cell_far (p:=⟨gb252,_,none⟩) NB267_252.out _).trans (hHeld.2.2.1)))),((cell_far (p:=⟨gb252,_,none⟩) NB267_252.out _).trans (((cell_far (p:=⟨gb252,_,none⟩) NB267_252.out _).trans (hHeld.2.2.2.1)))),((cell_far (p:=⟨gb252,_,none⟩) NB267_252.out _).trans (((cell_far (p:=⟨gb252,_,none⟩) NB267_252.out _).trans (hHeld.2.2.2.2.1)))),((cell_far (p:=⟨gb252,_,none⟩) NB273_252.out _).trans (((cell_far (p:=⟨gb252,_,none⟩) NB273_252.out _).trans (hHeld.2.2.2.2.2.1)))),((cell_far (p:=⟨gb252,_,none⟩) NB273_252.out _).trans (((cell_far (p:=⟨gb252,_,none⟩) NB273_252.out _).trans (hHeld.2.2.2.2.2.2))))⟩ (fun hHeld=>?_)
    clear hK K
    refine zHS (by kernel_rfl) ?_
    try go_wp2
    refine bodyPost_ret (zt2 rfl _ _ gb251 gb252 25 27 #[.int .i64 x268000_7,.int .i64 x268001_7,.int .i64 x268002_7,.int .i64 x268003_7,.int .i64 x268004_7] #[.int .i64 t275,.int .i64 t276] (0,0) (0,0) _ _ rfl (by refine zal ?_ NB251_252.out _;refine zal ?_ NB251_252.out _;refine zaq (cs:=#[.int .i64 x268000_7,.int .i64 x268001_7,.int .i64 x268002_7,.int .i64 x268003_7,.int .i64 0]) ?_ 4 _ rfl;refine zaq (cs:=#[.int .i64 x268000_7,.int .i64 x268001_7,.int .i64 x268002_7,.int .i64 0,.int .i64 0]) ?_ 3 _ rfl;refine zaq (cs:=#[.int .i64 x268000_7,.int .i64 x268001_7,.int .i64 0,.int .i64 0,.int .i64 0]) ?_ 2 _ rfl;refine zaq (cs:=#[.int .i64 x268000_7,.int .i64 0,.int .i64 0,.int .i64 0,.int .i64 0]) ?_ 1 _ rfl;refine zaq (cs:=#[.int .i64 0,.int .i64 0,.int .i64 0,.int .i64 0,.int .i64 0]) ?_ 0 _ rfl;exact BK251.out) Tryz.underlying25 rfl (by kernel_rfl) rfl (by refine zaq (cs:=#[.int .i64 t275,.int .i64 0]) ?_ 1 _ rfl;refine zaq (cs:=#[.int .i64 0,.int .i64 0]) ?_ 0 _ rfl;refine zal ?_ NB252_251.out _;refine zal ?_ NB252_251.out _;refine zal ?_ NB252_251.out _;refine zal ?_ NB252_251.out _;refine zal ?_ NB252_251.out _;exact BK252.out) Tryz.underlying27 rfl (by kernel_rfl)) rfl ?_
    exact ⟨by first|rfl|(simp [*]<;>rfl),by repeat (with_reducible first|exact HB.out|apply zm|apply zk|refine zh ?_ (zf.ge HI256.out)|refine zh ?_ GE251.out|refine zh ?_ GE252.out|refine zh ?_ GE267.out|refine zh ?_ GE273.out)⟩
end Go.Proofs.YtkenfaengphiiaaGreatDoor.PFnCylinders
-- CUT
