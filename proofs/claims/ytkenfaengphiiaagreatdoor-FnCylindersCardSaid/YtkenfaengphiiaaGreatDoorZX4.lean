/- The law FnCylinders gives true, whatever bytes come in, where the listed tables hold what the program's text lays. The card: the tables tied to the text. No other conditions. (One of the texts of its proof, put together by a program of this session.) -/
import Derived.Test.YtkenfaengphiiaaGreatDoorZX0
import Derived.Test.YtkenfaengphiiaaGreatDoorZX1
import Derived.Test.YtkenfaengphiiaaGreatDoorZX2
set_option linter.unusedSectionVars false
set_option linter.unusedSimpArgs false
set_option linter.unusedVariables false
namespace Go.Proofs.YtkenfaengphiiaaGreatDoor.PFnCylinders
open Go.RowKit Go.Proofs.YtkenfaengphiiaaGreatDoorW.PrintWords Go.Proofs.YtkenfaengphiiaaGreatDoorW.PrintLast Go.Proofs.YtkenfaengphiiaaGreatDoorW.PrintMore
def zhf.f (a0:Int) (a1:Int):Option (Int):=if a0<a1 then (some a0) else (some a1)
set_option maxHeartbeats 8000000 in
set_option maxRecDepth 100000 in
theorem zhf.calls (a0:Int) (a1:Int) (r:Int) (w:World) (h:zhf.f a0 a1=some r):
  Calls Tryz.prog 58 #[.int .i64 a0,.int .i64 a1] w fun e w'=>e= .returned (.int .i64 r)/\zcv w w':=by
 have H:(if a0<a1 then (some a0) else (some a1))=some r:=h
 clear h
 by_cases c3:a0<a1
 ·rw [if_pos c3] at H
  have c3b0:decide (a0<a1)=true:=decide_eq_true c3
  clear c3
  obtain rfl:=Option.some.inj H
  go_enter Tryz.func58,Tryz.ntmps58
  go_wp2
  go_ret
  exact ⟨by first|rfl|(simp;done)|(simp [*];done),by repeat (first|exact zcv.refl _|apply zcv.step)⟩
 ·rw [if_neg c3] at H
  have c3b0:decide (a0<a1)=false:=decide_eq_false c3
  clear c3
  obtain rfl:=Option.some.inj H
  go_enter Tryz.func58,Tryz.ntmps58
  go_wp2
  go_ret
  exact ⟨by first|rfl|(simp;done)|(simp [*];done),by repeat (first|exact zcv.refl _|apply zcv.step)⟩
def zfT.f (a0:Int) (a1:Int):Option (Int):=if a0>a1 then (some a0) else (some a1)
set_option maxHeartbeats 8000000 in
set_option maxRecDepth 100000 in
theorem zfT.calls (a0:Int) (a1:Int) (r:Int) (w:World) (h:zfT.f a0 a1=some r):
  Calls Tryz.prog 59 #[.int .i64 a0,.int .i64 a1] w fun e w'=>e= .returned (.int .i64 r)/\zcv w w':=by
 have H:(if a0>a1 then (some a0) else (some a1))=some r:=h
 clear h
 by_cases c3:a0>a1
 ·rw [if_pos c3] at H
  have c3b0:decide (a1<a0)=true:=decide_eq_true c3
  clear c3
  obtain rfl:=Option.some.inj H
  go_enter Tryz.func59,Tryz.ntmps59
  go_wp2
  go_ret
  exact ⟨by first|rfl|(simp;done)|(simp [*];done),by repeat (first|exact zcv.refl _|apply zcv.step)⟩
 ·rw [if_neg c3] at H
  have c3b0:decide (a1<a0)=false:=decide_eq_false c3
  clear c3
  obtain rfl:=Option.some.inj H
  go_enter Tryz.func59,Tryz.ntmps59
  go_wp2
  go_ret
  exact ⟨by first|rfl|(simp;done)|(simp [*];done),by repeat (first|exact zcv.refl _|apply zcv.step)⟩
def zfS.f (k:Nat) (s0_0:List Int) (s0_1:Int) (s0_2:Int):Option (Int×Int×Int×Int):=(zby.f k s0_0 s0_1 s0_2).bind fun bt206=>((zJ.f s0_0 bt206.2.2.1 bt206.2.2.2 16).bind fun bt211=>(if bt211.1=0 then ((zS.f s0_0 bt211.2.1 bt211.2.2 (([900000001,(-900000001),(-9223372036854775808)]:List Int))).bind fun bt217=>(some (bt217.1,bt206.2.1,bt217.2.1,bt217.2.2))) else (if bt211.1=1 then ((zS.f s0_0 bt211.2.1 bt211.2.2 (([1800000001,(-1800000000),9223372036854775807]:List Int))).bind fun bt223=>(some (bt206.1,bt223.1,bt223.2.1,bt223.2.2))) else (some (bt206.1,bt206.2.1,bt211.2.1,bt211.2.2)))))
set_option maxHeartbeats 8000000 in
set_option maxRecDepth 100000 in
theorem zfS.calls (k:Nat) (g:Nat) (s0_0:List Int) (s0_1:Int) (s0_2:Int) (r1:Int) (r2:Int) (r3:Int) (r4:Int) (w0 w:World) (hI:zf w0 w g s0_0 s0_1 s0_2) (hB:Below w0.heap.size w0 w) (h:zfS.f k s0_0 s0_1 s0_2=some (r1,r2,r3,r4)):
  Calls Tryz.prog 65 #[.pointer (some ⟨g,0,none⟩)] w fun e w'=>e= .returned (.agg #[.int .i64 r1,.int .i64 r2])/\zf w0 w' g s0_0 r3 r4/\Below w0.heap.size w0 w'/\zl w w' g none:=by
 have hu27:=Tryz.underlying27
 have HI0:=za.mk hI
 have HK:=za.mk (zl.refl w g none)
 have HL:=za.mk hB.size
 clear hI
 have HW0:=za.mk hB.size
 have HB:=za.mk hB
 clear hB
 have H:((zby.f k s0_0 s0_1 s0_2).bind fun bt206=>((zJ.f s0_0 bt206.2.2.1 bt206.2.2.2 16).bind fun bt211=>(if bt211.1=0 then ((zS.f s0_0 bt211.2.1 bt211.2.2 (([900000001,(-900000001),(-9223372036854775808)]:List Int))).bind fun bt217=>(some (bt217.1,bt206.2.1,bt217.2.1,bt217.2.2))) else (if bt211.1=1 then ((zS.f s0_0 bt211.2.1 bt211.2.2 (([1800000001,(-1800000000),9223372036854775807]:List Int))).bind fun bt223=>(some (bt206.1,bt223.1,bt223.2.1,bt223.2.2))) else (some (bt206.1,bt206.2.1,bt211.2.1,bt211.2.2))))))=some (r1,r2,r3,r4):=h
 clear h
 obtain ⟨⟨t206,t207,t208,t209⟩,A20,H⟩:=Option.bind_eq_some_iff.mp H
 replace H:((zJ.f s0_0 t208 t209 16).bind fun bt211=>(if bt211.1=0 then ((zS.f s0_0 bt211.2.1 bt211.2.2 (([900000001,(-900000001),(-9223372036854775808)]:List Int))).bind fun bt217=>(some (bt217.1,t207,bt217.2.1,bt217.2.2))) else (if bt211.1=1 then ((zS.f s0_0 bt211.2.1 bt211.2.2 (([1800000001,(-1800000000),9223372036854775807]:List Int))).bind fun bt223=>(some (t206,bt223.1,bt223.2.1,bt223.2.2))) else (some (t206,t207,bt211.2.1,bt211.2.2)))))=some (r1,r2,r3,r4):=H
 have A2:=za.mk A20
 clear A20
 obtain ⟨⟨t211,t212,t213⟩,A30,H⟩:=Option.bind_eq_some_iff.mp H
 replace H:(if t211=0 then ((zS.f s0_0 t212 t213 (([900000001,(-900000001),(-9223372036854775808)]:List Int))).bind fun bt217=>(some (bt217.1,t207,bt217.2.1,bt217.2.2))) else (if t211=1 then ((zS.f s0_0 t212 t213 (([1800000001,(-1800000000),9223372036854775807]:List Int))).bind fun bt223=>(some (t206,bt223.1,bt223.2.1,bt223.2.2))) else (some (t206,t207,t212,t213))))=some (r1,r2,r3,r4):=H
 have A3:=za.mk A30
 clear A30
 by_cases c4:t211=0
 ·rw [if_pos c4] at H
  have c4b0:(t211==0)=true:=beq_iff_eq.mpr c4
  have c4b1:(t211 != 0)=false:=bne_eq_false_iff_eq.mpr c4
  clear c4
  obtain ⟨y214,hy214⟩:∃y_:List Int,y_=(([900000001,(-900000001),(-9223372036854775808)]:List Int)):=⟨_,rfl⟩
  replace H:((zS.f s0_0 t212 t213 y214).bind fun bt217=>(some (bt217.1,t207,bt217.2.1,bt217.2.2)))=some (r1,r2,r3,r4):=by first|(rw [hy214];with_reducible exact H)|(have H2_:=(Option.bind_some _ _).symm.trans H;rw [hy214];with_reducible exact H2_)|(have H2_:=(Option.bind_some _ _).symm.trans H;with_reducible exact H2_)|with_reducible exact H|(rw [hy214];exact H)|exact H
  have Ny214:=za.mk hy214
  clear hy214
  obtain ⟨⟨t217,t218,t219⟩,A50,H⟩:=Option.bind_eq_some_iff.mp H
  replace H:(some (t217,t207,t218,t219))=some (r1,r2,r3,r4):=H
  have A5:=za.mk A50
  clear A50
  simp only [Option.some.injEq,Prod.mk.injEq] at H
  obtain ⟨rfl,rfl,rfl,rfl⟩:=H
  go_enter Tryz.func65,Tryz.ntmps65
  go_wp2_with (first|((with_reducible refine zbw (N:=2) rfl ?_);refine zbz ?hg (N:=2) ?hd (cs:=#[.int .i64 0,.int .i64 0]) (t:=27) ?hr ?_;(case hd=>rfl);(case hg=>rfl);(case hr=>first|(go_simp;done)|(go_simp;rfl));intro gb205 hg w6 hbox hb;have n0_:=za.mk (zf.below (by repeat (with_reducible first|exact HI0.out|apply zf.alloc|apply zf.drewN|apply zf.drew)) hb);have n1_:=za.mk (zl.trans (by repeat (with_reducible first|exact HK.out|apply zl.set_|apply zu|apply zw)) (zl.of_below hb g none) (.inl rfl));have n2_:=za.mk (zaF (by repeat (with_reducible first|exact HB.out|apply zm|apply zk|refine zh ?_ (zf.ge HI0.out))) hb);have n3_:=za.mk (hbox);have n4_:=za.mk ((by rw [hg];exact (zaL (w:=w) (g:=g) (row:=none) (by repeat (with_reducible first|exact HK.out|apply zl.set_|apply zu|apply zw))):w.heap.size<=gb205));have n5_:=za.mk ((Nat.le_trans HW0.out (by rw [hg];exact (zaL (w:=w) (g:=g) (row:=none) (by repeat (with_reducible first|exact HK.out|apply zl.set_|apply zu|apply zw))):w.heap.size<=gb205):w0.heap.size<=gb205));have n6_:=za.mk ((by rw [hg];exact Nat.ne_of_lt (zf.lt (show zf w0 _ g s0_0 s0_1 s0_2 from by repeat (with_reducible first|exact HI0.out|apply zf.alloc|apply zf.drewN|apply zf.drew))):g≠gb205));have n7_:=za.mk ((by rw [hg];exact Nat.ne_of_gt (zf.lt (show zf w0 _ g s0_0 s0_1 s0_2 from by repeat (with_reducible first|exact HI0.out|apply zf.alloc|apply zf.drewN|apply zf.drew))):gb205≠g));clear HI0;clear HK;clear HB;have HI0:=n0_;have HK:=n1_;have HB:=n2_;have BK205:=n3_;have GW205:=n4_;have GE205:=n5_;have NB0_205:=n6_;have NB205_0:=n7_;clear n0_ n1_ n2_ n3_ n4_ n5_ n6_ n7_;clear hb hbox hg)|((with_reducible refine zQ (f:=23) rfl ?_);refine zaZ (some 5) rfl rfl Tryz.func23 (by kernel_rfl) rfl #[.pointer (some ⟨g,0,none⟩)] rfl (by (try simp only [List.map_toArray,List.map_cons,List.map_nil]);first|done|rfl) ?_;(with_reducible refine (zby.calls k g s0_0 s0_1 s0_2 t206 t207 t208 t209 w0 _ ?side1 ?side2 A2.out).mono ?_);(case side1=>repeat (with_reducible first|exact HI0.out|apply zf.alloc|apply zf.drewN|refine zf.far ?_ NB0_205.out _));(case side2=>repeat (with_reducible first|exact HB.out|apply zm|apply zk|refine zh ?_ (zf.ge HI0.out)|refine zh ?_ GE205.out));rintro e w7 ⟨rfl,hi,hb,hk⟩;refine ⟨_,rfl,?_⟩;have n0_:=za.mk (zl.blk hk (g':=gb205) (o:= .cells #[.int .i64 0,.int .i64 0] 27 (0,0)) (by exact BK205.out) NB205_0.out (by simp));have n1_:=za.mk (zl.trans (by repeat (with_reducible first|exact HK.out|apply zl.set_|apply zu|apply zw|refine zF ?_ GW205.out _)) hk (.inl rfl));have n2_:=za.mk (hb);have n3_:=za.mk (hi);clear BK205;clear HK;clear HB;clear HI0;have BK205:=n0_;have HK:=n1_;have HB:=n2_;have HI0:=n3_;clear n0_ n1_ n2_ n3_;(try clear hb);(try clear hb2);(try clear hk);(try clear hi))|((with_reducible refine zbw (N:=3) rfl ?_);refine zbz ?hg (N:=3) ?hd (cs:=#[.int .i64 0,.int .i64 0]) (t:=27) ?hr ?_;(case hd=>rfl);(case hg=>rfl);(case hr=>first|(go_simp;done)|(go_simp;rfl));intro gb210 hg w8 hbox hb;have n0_:=za.mk (zf.below (by repeat (with_reducible first|exact HI0.out|apply zf.alloc|apply zf.drewN|refine zf.far ?_ NB0_205.out _)) hb);have n1_:=za.mk (zaC (g:=gb205) (o:= .cells #[.int .i64 0,.int .i64 0] 27 (0,0)) (by exact BK205.out) hb);have n2_:=za.mk (zl.trans (by repeat (with_reducible first|exact HK.out|apply zl.set_|apply zu|apply zw|refine zF ?_ GW205.out _)) (zl.of_below hb g none) (.inl rfl));have n3_:=za.mk (zaF (by repeat (with_reducible first|exact HB.out|apply zm|apply zk|refine zh ?_ (zf.ge HI0.out)|refine zh ?_ GE205.out)) hb);have n4_:=za.mk (hbox);have n5_:=za.mk ((by rw [hg];exact (zaL (w:=w) (g:=g) (row:=none) (by repeat (with_reducible first|exact HK.out|apply zl.set_|apply zu|apply zw|refine zF ?_ GW205.out _))):w.heap.size<=gb210));have n6_:=za.mk ((Nat.le_trans HW0.out (by rw [hg];exact (zaL (w:=w) (g:=g) (row:=none) (by repeat (with_reducible first|exact HK.out|apply zl.set_|apply zu|apply zw|refine zF ?_ GW205.out _))):w.heap.size<=gb210):w0.heap.size<=gb210));have n7_:=za.mk ((by rw [hg];exact Nat.ne_of_lt (zco (g:=gb205) (o:= .cells #[.int .i64 0,.int .i64 0] 27 (0,0)) (by exact BK205.out)):gb205≠gb210));have n8_:=za.mk ((by rw [hg];exact Nat.ne_of_gt (zco (g:=gb205) (o:= .cells #[.int .i64 0,.int .i64 0] 27 (0,0)) (by exact BK205.out)):gb210≠gb205));have n9_:=za.mk ((by rw [hg];exact Nat.ne_of_lt (zf.lt (show zf w0 _ g s0_0 t208 t209 from by repeat (with_reducible first|exact HI0.out|apply zf.alloc|apply zf.drewN|refine zf.far ?_ NB0_205.out _))):g≠gb210));have n10_:=za.mk ((by rw [hg];exact Nat.ne_of_gt (zf.lt (show zf w0 _ g s0_0 t208 t209 from by repeat (with_reducible first|exact HI0.out|apply zf.alloc|apply zf.drewN|refine zf.far ?_ NB0_205.out _))):gb210≠g));clear HI0;clear BK205;clear HK;clear HB;have HI0:=n0_;have BK205:=n1_;have HK:=n2_;have HB:=n3_;have BK210:=n4_;have GW210:=n5_;have GE210:=n6_;have NB205_210:=n7_;have NB210_205:=n8_;have NB0_210:=n9_;have NB210_0:=n10_;clear n0_ n1_ n2_ n3_ n4_ n5_ n6_ n7_ n8_ n9_ n10_;clear hb hbox hg;have hnb9:=NB210_205.out;have hnc9:=NB205_210.out;have hnb10:=NB210_0.out;have hnc10:=NB0_210.out;have hcz11_0:w8.cell? ⟨gb210,0,none⟩=some (.int .i64 0):=(zq BK210.out 0).trans rfl;have hcz11_1:w8.cell? ⟨gb210,1,none⟩=some (.int .i64 0):=(zq BK210.out 1).trans rfl;have hfz11_0:=zn BK210.out 0;have hfz11_1:=zn BK210.out 1)|((with_reducible refine zQ (f:=19) rfl ?_);refine zaZ (some 7) rfl rfl Tryz.func19 (by kernel_rfl) rfl #[.pointer (some ⟨g,0,none⟩),.int .i64 16] rfl (by (try simp only [List.map_toArray,List.map_cons,List.map_nil]);first|done|rfl) ?_;(with_reducible refine (zJ.calls g s0_0 t208 t209 16 t211 t212 t213 w0 _ ?side1 ?side2 A3.out).mono ?_);(case side1=>repeat (with_reducible first|exact HI0.out|apply zf.alloc|apply zf.drewN|refine zf.far ?_ NB0_205.out _|refine zf.far ?_ NB0_210.out _));(case side2=>repeat (with_reducible first|exact HB.out|apply zm|apply zk|refine zh ?_ (zf.ge HI0.out)|refine zh ?_ GE205.out|refine zh ?_ GE210.out));rintro e w12 ⟨rfl,hi,hb,hk⟩;refine ⟨_,rfl,?_⟩;have n0_:=za.mk (zl.blk hk (g':=gb205) (o:= .cells #[.int .i64 0,.int .i64 0] 27 (0,0)) (by refine zal ?_ NB205_210.out _;refine zal ?_ NB205_210.out _;exact BK205.out) NB205_0.out (by simp));have n1_:=za.mk (zl.blk hk (g':=gb210) (o:= .cells #[.int .i64 t206,.int .i64 t207] 27 (0,0)) (by refine zaq (cs:=#[.int .i64 t206,.int .i64 0]) ?_ 1 _ rfl;refine zaq (cs:=#[.int .i64 0,.int .i64 0]) ?_ 0 _ rfl;exact BK210.out) NB210_0.out (by simp));have n2_:=za.mk (zl.trans (by repeat (with_reducible first|exact HK.out|apply zl.set_|apply zu|apply zw|refine zF ?_ GW205.out _|refine zF ?_ GW210.out _)) hk (.inl rfl));have n3_:=za.mk (hb);have n4_:=za.mk (hi);clear BK205;clear BK210;clear HK;clear HB;clear HI0;have BK205:=n0_;have BK210:=n1_;have HK:=n2_;have HB:=n3_;have HI0:=n4_;clear n0_ n1_ n2_ n3_ n4_;(try clear hb);(try clear hb2);(try clear hk);(try clear hi))|((with_reducible refine zbw (N:=11) rfl ?_);refine Kd.zBD (Kd.int .i64) _ 2 ?hg (N:=11) ?hd (xs:=([900000001,(-900000001),(-9223372036854775808)]:List Int)) (inner:= [.int .i64 900000001,.int .i64 (-900000001),.int .i64 (-9223372036854775808)]) (ok:=fun _=>True) (okp:=fun _=>True) ?hr ?hp (fun _ hk=>hk) trivial (Below.refl _ _) (Nat.le_refl _) (by simp) ?_;(case hd=>rfl);(case hg=>rfl);(case hr=>first|(go_simp;done)|(go_simp;rfl));(case hp=>exact (Reps.one (show Kd.M (Kd.int .i64) _ _ _ 900000001 [.int .i64 900000001] from rfl) (Reps.one (show Kd.M (Kd.int .i64) _ _ _ (-900000001) [.int .i64 (-900000001)] from rfl) (Reps.one (show Kd.M (Kd.int .i64) _ _ _ (-9223372036854775808) [.int .i64 (-9223372036854775808)] from rfl) (Reps.none _ _)))));intro v215 w13 ho14 hb hg_ hnew_;clear hg_ hnew_;(first|rw [<- Ny214.out] at ho14|(simp only [Int.reduceToNat] at ho14;rw [<- Ny214.out] at ho14));have n0_:=za.mk (Kd.znX ho14 (zaL (w:=w) (g:=g) (row:=none) (by repeat (with_reducible first|exact HK.out|apply zl.set_|apply zu|apply zw|refine zF ?_ GW205.out _|refine zF ?_ GW210.out _))));have n1_:=za.mk (zf.below (by repeat (with_reducible first|exact HI0.out|apply zf.alloc|apply zf.drewN|refine zf.far ?_ NB0_205.out _|refine zf.far ?_ NB0_210.out _)) hb);have n2_:=za.mk (zaC (g:=gb205) (o:= .cells #[.int .i64 0,.int .i64 0] 27 (0,0)) (by exact BK205.out) hb);have n3_:=za.mk (zaC (g:=gb210) (o:= .cells #[.int .i64 t206,.int .i64 t207] 27 (0,0)) (by exact BK210.out) hb);have n4_:=za.mk (zl.trans (by repeat (with_reducible first|exact HK.out|apply zl.set_|apply zu|apply zw|refine zF ?_ GW205.out _|refine zF ?_ GW210.out _)) (zl.of_below hb g none) (.inl rfl));have n5_:=za.mk (zaF (by repeat (with_reducible first|exact HB.out|apply zm|apply zk|refine zh ?_ (zf.ge HI0.out)|refine zh ?_ GE205.out|refine zh ?_ GE210.out)) hb);clear HI0;clear BK205;clear BK210;clear HK;clear HB;have HO216:=n0_;have HI0:=n1_;have BK205:=n2_;have BK210:=n3_;have HK:=n4_;have HB:=n5_;clear n0_ n1_ n2_ n3_ n4_ n5_;clear hb ho14;obtain ⟨Ao15,co15,eo15⟩:=Kd.zpJ HO216.out;subst eo15)|((with_reducible refine zQ (f:=68) rfl ?_);refine zaZ (some 12) rfl rfl Tryz.func68 (by kernel_rfl) rfl #[.pointer (some ⟨g,0,none⟩),.slice Ao15 y214.length co15] rfl (by (try simp only [List.map_toArray,List.map_cons,List.map_nil]);first|done|rfl) ?_;(with_reducible refine (zS.calls g s0_0 t212 t213 _ _ y214 t217 t218 t219 w0 _ ?side1 ?side2 ?side3 ?side4 ?side5 A5.out).mono ?_);(case side1=>repeat (with_reducible first|exact HI0.out|apply zf.alloc|apply zf.drewN|refine zf.far ?_ NB0_205.out _|refine zf.far ?_ NB0_210.out _));(case side2=>repeat (with_reducible first|exact HB.out|apply zm|apply zk|refine zh ?_ (zf.ge HI0.out)|refine zh ?_ GE205.out|refine zh ?_ GE210.out));(case side3=>repeat (first|exact (Kd.zg5 HO216.out).2.2|(with_reducible refine Kd.zpV ?_ _)|(with_reducible refine Kd.zpU ?_ _)|(with_reducible refine Kd.zuz ?_)));(case side4=>exact (Kd.zg5 HO216.out).2.1);(case side5=>exact zlp (zf.own_ne HI0.out HO216.out (by decide)));rintro e w16 ⟨rfl,hi,hb,hk⟩;refine ⟨_,rfl,?_⟩;have n0_:=za.mk (zl.blk hk (g':=gb205) (o:= .cells #[.int .i64 0,.int .i64 0] 27 (0,0)) (by exact BK205.out) NB205_0.out (by simp));have n1_:=za.mk (zl.blk hk (g':=gb210) (o:= .cells #[.int .i64 t206,.int .i64 t207] 27 (0,0)) (by exact BK210.out) NB210_0.out (by simp));have n2_:=za.mk (Kd.zmW (Kd.zp9 (zf.apart (show zf w0 _ g s0_0 t212 t213 from by repeat (with_reducible first|exact HI0.out|apply zf.alloc|apply zf.drewN|refine zf.far ?_ NB0_205.out _|refine zf.far ?_ NB0_210.out _)) (by (with_reducible repeat (first|apply Kd.zmY|apply Kd.zmX|apply Kd.zqa));exact HO216.out) (by decide)) hk (fun _ h=>h.2)) (fun _ h=>h.1));have n3_:=za.mk (zl.trans (by repeat (with_reducible first|exact HK.out|apply zl.set_|apply zu|apply zw|refine zF ?_ GW205.out _|refine zF ?_ GW210.out _)) hk (.inl rfl));have n4_:=za.mk (hb);have n5_:=za.mk (hi);clear BK205;clear BK210;clear HO216;clear HK;clear HB;clear HI0;have BK205:=n0_;have BK210:=n1_;have HO216:=n2_;have HK:=n3_;have HB:=n4_;have HI0:=n5_;clear n0_ n1_ n2_ n3_ n4_ n5_;(try clear hb);(try clear hb2);(try clear hk);(try clear hi);have hcz17_0:w16.cell? ⟨gb210,0,none⟩=some (.int .i64 t206):=(zq BK210.out 0).trans rfl;have hcz17_1:w16.cell? ⟨gb210,1,none⟩=some (.int .i64 t207):=(zq BK210.out 1).trans rfl;have hfz17_0:=zn BK210.out 0;have hfz17_1:=zn BK210.out 1;have hnb18:=NB205_0.out;have hnc18:=NB0_205.out;have hcz19_0:w16.cell? ⟨gb205,0,none⟩=some (.int .i64 0):=(zq BK205.out 0).trans rfl;have hcz19_1:w16.cell? ⟨gb205,1,none⟩=some (.int .i64 0):=(zq BK205.out 1).trans rfl;have hfz19_0:=zn BK205.out 0;have hfz19_1:=zn BK205.out 1))
  refine bodyPost_ret (results_cell_row rfl _ _ gb205 27 #[.int .i64 t217,.int .i64 t207] (0,0) _ rfl (by refine zaq (cs:=#[.int .i64 t217,.int .i64 0]) ?_ 1 _ rfl;refine zaq (cs:=#[.int .i64 0,.int .i64 0]) ?_ 0 _ rfl;refine zal ?_ NB205_210.out _;exact BK205.out) Tryz.underlying27 rfl (by kernel_rfl)) rfl ?_
  exact ⟨by first|rfl|(simp [*]<;>rfl),by repeat (with_reducible first|exact HI0.out|apply zf.alloc|apply zf.drewN|refine zf.far ?_ NB0_205.out _|refine zf.far ?_ NB0_210.out _),by repeat (with_reducible first|exact HB.out|apply zm|apply zk|refine zh ?_ (zf.ge HI0.out)|refine zh ?_ GE205.out|refine zh ?_ GE210.out),by repeat (with_reducible first|exact HK.out|apply zl.set_|apply zu|apply zw|refine zF ?_ GW205.out _|refine zF ?_ GW210.out _)⟩
 ·rw [if_neg c4] at H
  have c4b0:(t211==0)=false:=beq_eq_false_iff_ne.mpr c4
  have c4b1:(t211 != 0)=true:=bne_iff_ne.mpr c4
  by_cases c20:t211=1
  ·rw [if_pos c20] at H
   have c20b0:(t211==1)=true:=beq_iff_eq.mpr c20
   have c20b1:(t211 != 1)=false:=bne_eq_false_iff_eq.mpr c20
   clear c20
   obtain ⟨y220,hy220⟩:∃y_:List Int,y_=(([1800000001,(-1800000000),9223372036854775807]:List Int)):=⟨_,rfl⟩
   replace H:((zS.f s0_0 t212 t213 y220).bind fun bt223=>(some (t206,bt223.1,bt223.2.1,bt223.2.2)))=some (r1,r2,r3,r4):=by first|(rw [hy220];with_reducible exact H)|(have H2_:=(Option.bind_some _ _).symm.trans H;rw [hy220];with_reducible exact H2_)|(have H2_:=(Option.bind_some _ _).symm.trans H;with_reducible exact H2_)|with_reducible exact H|(rw [hy220];exact H)|exact H
   have Ny220:=za.mk hy220
   clear hy220
   obtain ⟨⟨t223,t224,t225⟩,A210,H⟩:=Option.bind_eq_some_iff.mp H
   replace H:(some (t206,t223,t224,t225))=some (r1,r2,r3,r4):=H
   have A21:=za.mk A210
   clear A210
   simp only [Option.some.injEq,Prod.mk.injEq] at H
   obtain ⟨rfl,rfl,rfl,rfl⟩:=H
   go_enter Tryz.func65,Tryz.ntmps65
   go_wp2_with (first|((with_reducible refine zbw (N:=2) rfl ?_);refine zbz ?hg (N:=2) ?hd (cs:=#[.int .i64 0,.int .i64 0]) (t:=27) ?hr ?_;(case hd=>rfl);(case hg=>rfl);(case hr=>first|(go_simp;done)|(go_simp;rfl));intro gb205 hg w22 hbox hb;have n0_:=za.mk (zf.below (by repeat (with_reducible first|exact HI0.out|apply zf.alloc|apply zf.drewN|apply zf.drew)) hb);have n1_:=za.mk (zl.trans (by repeat (with_reducible first|exact HK.out|apply zl.set_|apply zu|apply zw)) (zl.of_below hb g none) (.inl rfl));have n2_:=za.mk (zaF (by repeat (with_reducible first|exact HB.out|apply zm|apply zk|refine zh ?_ (zf.ge HI0.out))) hb);have n3_:=za.mk (hbox);have n4_:=za.mk ((by rw [hg];exact (zaL (w:=w) (g:=g) (row:=none) (by repeat (with_reducible first|exact HK.out|apply zl.set_|apply zu|apply zw))):w.heap.size<=gb205));have n5_:=za.mk ((Nat.le_trans HW0.out (by rw [hg];exact (zaL (w:=w) (g:=g) (row:=none) (by repeat (with_reducible first|exact HK.out|apply zl.set_|apply zu|apply zw))):w.heap.size<=gb205):w0.heap.size<=gb205));have n6_:=za.mk ((by rw [hg];exact Nat.ne_of_lt (zf.lt (show zf w0 _ g s0_0 s0_1 s0_2 from by repeat (with_reducible first|exact HI0.out|apply zf.alloc|apply zf.drewN|apply zf.drew))):g≠gb205));have n7_:=za.mk ((by rw [hg];exact Nat.ne_of_gt (zf.lt (show zf w0 _ g s0_0 s0_1 s0_2 from by repeat (with_reducible first|exact HI0.out|apply zf.alloc|apply zf.drewN|apply zf.drew))):gb205≠g));clear HI0;clear HK;clear HB;have HI0:=n0_;have HK:=n1_;have HB:=n2_;have BK205:=n3_;have GW205:=n4_;have GE205:=n5_;have NB0_205:=n6_;have NB205_0:=n7_;clear n0_ n1_ n2_ n3_ n4_ n5_ n6_ n7_;clear hb hbox hg)|((with_reducible refine zQ (f:=23) rfl ?_);refine zaZ (some 5) rfl rfl Tryz.func23 (by kernel_rfl) rfl #[.pointer (some ⟨g,0,none⟩)] rfl (by (try simp only [List.map_toArray,List.map_cons,List.map_nil]);first|done|rfl) ?_;(with_reducible refine (zby.calls k g s0_0 s0_1 s0_2 t206 t207 t208 t209 w0 _ ?side1 ?side2 A2.out).mono ?_);(case side1=>repeat (with_reducible first|exact HI0.out|apply zf.alloc|apply zf.drewN|refine zf.far ?_ NB0_205.out _));(case side2=>repeat (with_reducible first|exact HB.out|apply zm|apply zk|refine zh ?_ (zf.ge HI0.out)|refine zh ?_ GE205.out));rintro e w23 ⟨rfl,hi,hb,hk⟩;refine ⟨_,rfl,?_⟩;have n0_:=za.mk (zl.blk hk (g':=gb205) (o:= .cells #[.int .i64 0,.int .i64 0] 27 (0,0)) (by exact BK205.out) NB205_0.out (by simp));have n1_:=za.mk (zl.trans (by repeat (with_reducible first|exact HK.out|apply zl.set_|apply zu|apply zw|refine zF ?_ GW205.out _)) hk (.inl rfl));have n2_:=za.mk (hb);have n3_:=za.mk (hi);clear BK205;clear HK;clear HB;clear HI0;have BK205:=n0_;have HK:=n1_;have HB:=n2_;have HI0:=n3_;clear n0_ n1_ n2_ n3_;(try clear hb);(try clear hb2);(try clear hk);(try clear hi))|((with_reducible refine zbw (N:=3) rfl ?_);refine zbz ?hg (N:=3) ?hd (cs:=#[.int .i64 0,.int .i64 0]) (t:=27) ?hr ?_;(case hd=>rfl);(case hg=>rfl);(case hr=>first|(go_simp;done)|(go_simp;rfl));intro gb210 hg w24 hbox hb;have n0_:=za.mk (zf.below (by repeat (with_reducible first|exact HI0.out|apply zf.alloc|apply zf.drewN|refine zf.far ?_ NB0_205.out _)) hb);have n1_:=za.mk (zaC (g:=gb205) (o:= .cells #[.int .i64 0,.int .i64 0] 27 (0,0)) (by exact BK205.out) hb);have n2_:=za.mk (zl.trans (by repeat (with_reducible first|exact HK.out|apply zl.set_|apply zu|apply zw|refine zF ?_ GW205.out _)) (zl.of_below hb g none) (.inl rfl));have n3_:=za.mk (zaF (by repeat (with_reducible first|exact HB.out|apply zm|apply zk|refine zh ?_ (zf.ge HI0.out)|refine zh ?_ GE205.out)) hb);have n4_:=za.mk (hbox);have n5_:=za.mk ((by rw [hg];exact (zaL (w:=w) (g:=g) (row:=none) (by repeat (with_reducible first|exact HK.out|apply zl.set_|apply zu|apply zw|refine zF ?_ GW205.out _))):w.heap.size<=gb210));have n6_:=za.mk ((Nat.le_trans HW0.out (by rw [hg];exact (zaL (w:=w) (g:=g) (row:=none) (by repeat (with_reducible first|exact HK.out|apply zl.set_|apply zu|apply zw|refine zF ?_ GW205.out _))):w.heap.size<=gb210):w0.heap.size<=gb210));have n7_:=za.mk ((by rw [hg];exact Nat.ne_of_lt (zco (g:=gb205) (o:= .cells #[.int .i64 0,.int .i64 0] 27 (0,0)) (by exact BK205.out)):gb205≠gb210));have n8_:=za.mk ((by rw [hg];exact Nat.ne_of_gt (zco (g:=gb205) (o:= .cells #[.int .i64 0,.int .i64 0] 27 (0,0)) (by exact BK205.out)):gb210≠gb205));have n9_:=za.mk ((by rw [hg];exact Nat.ne_of_lt (zf.lt (show zf w0 _ g s0_0 t208 t209 from by repeat (with_reducible first|exact HI0.out|apply zf.alloc|apply zf.drewN|refine zf.far ?_ NB0_205.out _))):g≠gb210));have n10_:=za.mk ((by rw [hg];exact Nat.ne_of_gt (zf.lt (show zf w0 _ g s0_0 t208 t209 from by repeat (with_reducible first|exact HI0.out|apply zf.alloc|apply zf.drewN|refine zf.far ?_ NB0_205.out _))):gb210≠g));clear HI0;clear BK205;clear HK;clear HB;have HI0:=n0_;have BK205:=n1_;have HK:=n2_;have HB:=n3_;have BK210:=n4_;have GW210:=n5_;have GE210:=n6_;have NB205_210:=n7_;have NB210_205:=n8_;have NB0_210:=n9_;have NB210_0:=n10_;clear n0_ n1_ n2_ n3_ n4_ n5_ n6_ n7_ n8_ n9_ n10_;clear hb hbox hg;have hnb25:=NB210_205.out;have hnc25:=NB205_210.out;have hnb26:=NB210_0.out;have hnc26:=NB0_210.out;have hcz27_0:w24.cell? ⟨gb210,0,none⟩=some (.int .i64 0):=(zq BK210.out 0).trans rfl;have hcz27_1:w24.cell? ⟨gb210,1,none⟩=some (.int .i64 0):=(zq BK210.out 1).trans rfl;have hfz27_0:=zn BK210.out 0;have hfz27_1:=zn BK210.out 1)|((with_reducible refine zQ (f:=19) rfl ?_);refine zaZ (some 7) rfl rfl Tryz.func19 (by kernel_rfl) rfl #[.pointer (some ⟨g,0,none⟩),.int .i64 16] rfl (by (try simp only [List.map_toArray,List.map_cons,List.map_nil]);first|done|rfl) ?_;(with_reducible refine (zJ.calls g s0_0 t208 t209 16 t211 t212 t213 w0 _ ?side1 ?side2 A3.out).mono ?_);(case side1=>repeat (with_reducible first|exact HI0.out|apply zf.alloc|apply zf.drewN|refine zf.far ?_ NB0_205.out _|refine zf.far ?_ NB0_210.out _));(case side2=>repeat (with_reducible first|exact HB.out|apply zm|apply zk|refine zh ?_ (zf.ge HI0.out)|refine zh ?_ GE205.out|refine zh ?_ GE210.out));rintro e w28 ⟨rfl,hi,hb,hk⟩;refine ⟨_,rfl,?_⟩;have n0_:=za.mk (zl.blk hk (g':=gb205) (o:= .cells #[.int .i64 0,.int .i64 0] 27 (0,0)) (by refine zal ?_ NB205_210.out _;refine zal ?_ NB205_210.out _;exact BK205.out) NB205_0.out (by simp));have n1_:=za.mk (zl.blk hk (g':=gb210) (o:= .cells #[.int .i64 t206,.int .i64 t207] 27 (0,0)) (by refine zaq (cs:=#[.int .i64 t206,.int .i64 0]) ?_ 1 _ rfl;refine zaq (cs:=#[.int .i64 0,.int .i64 0]) ?_ 0 _ rfl;exact BK210.out) NB210_0.out (by simp));have n2_:=za.mk (zl.trans (by repeat (with_reducible first|exact HK.out|apply zl.set_|apply zu|apply zw|refine zF ?_ GW205.out _|refine zF ?_ GW210.out _)) hk (.inl rfl));have n3_:=za.mk (hb);have n4_:=za.mk (hi);clear BK205;clear BK210;clear HK;clear HB;clear HI0;have BK205:=n0_;have BK210:=n1_;have HK:=n2_;have HB:=n3_;have HI0:=n4_;clear n0_ n1_ n2_ n3_ n4_;(try clear hb);(try clear hb2);(try clear hk);(try clear hi))|((with_reducible refine zbw (N:=17) rfl ?_);refine Kd.zBD (Kd.int .i64) _ 2 ?hg (N:=17) ?hd (xs:=([1800000001,(-1800000000),9223372036854775807]:List Int)) (inner:= [.int .i64 1800000001,.int .i64 (-1800000000),.int .i64 9223372036854775807]) (ok:=fun _=>True) (okp:=fun _=>True) ?hr ?hp (fun _ hk=>hk) trivial (Below.refl _ _) (Nat.le_refl _) (by simp) ?_;(case hd=>rfl);(case hg=>rfl);(case hr=>first|(go_simp;done)|(go_simp;rfl));(case hp=>exact (Reps.one (show Kd.M (Kd.int .i64) _ _ _ 1800000001 [.int .i64 1800000001] from rfl) (Reps.one (show Kd.M (Kd.int .i64) _ _ _ (-1800000000) [.int .i64 (-1800000000)] from rfl) (Reps.one (show Kd.M (Kd.int .i64) _ _ _ 9223372036854775807 [.int .i64 9223372036854775807] from rfl) (Reps.none _ _)))));intro v221 w29 ho30 hb hg_ hnew_;clear hg_ hnew_;(first|rw [<- Ny220.out] at ho30|(simp only [Int.reduceToNat] at ho30;rw [<- Ny220.out] at ho30));have n0_:=za.mk (Kd.znX ho30 (zaL (w:=w) (g:=g) (row:=none) (by repeat (with_reducible first|exact HK.out|apply zl.set_|apply zu|apply zw|refine zF ?_ GW205.out _|refine zF ?_ GW210.out _))));have n1_:=za.mk (zf.below (by repeat (with_reducible first|exact HI0.out|apply zf.alloc|apply zf.drewN|refine zf.far ?_ NB0_205.out _|refine zf.far ?_ NB0_210.out _)) hb);have n2_:=za.mk (zaC (g:=gb205) (o:= .cells #[.int .i64 0,.int .i64 0] 27 (0,0)) (by exact BK205.out) hb);have n3_:=za.mk (zaC (g:=gb210) (o:= .cells #[.int .i64 t206,.int .i64 t207] 27 (0,0)) (by exact BK210.out) hb);have n4_:=za.mk (zl.trans (by repeat (with_reducible first|exact HK.out|apply zl.set_|apply zu|apply zw|refine zF ?_ GW205.out _|refine zF ?_ GW210.out _)) (zl.of_below hb g none) (.inl rfl));have n5_:=za.mk (zaF (by repeat (with_reducible first|exact HB.out|apply zm|apply zk|refine zh ?_ (zf.ge HI0.out)|refine zh ?_ GE205.out|refine zh ?_ GE210.out)) hb);clear HI0;clear BK205;clear BK210;clear HK;clear HB;have HO222:=n0_;have HI0:=n1_;have BK205:=n2_;have BK210:=n3_;have HK:=n4_;have HB:=n5_;clear n0_ n1_ n2_ n3_ n4_ n5_;clear hb ho30;obtain ⟨Ao31,co31,eo31⟩:=Kd.zpJ HO222.out;subst eo31)|((with_reducible refine zQ (f:=68) rfl ?_);refine zaZ (some 18) rfl rfl Tryz.func68 (by kernel_rfl) rfl #[.pointer (some ⟨g,0,none⟩),.slice Ao31 y220.length co31] rfl (by (try simp only [List.map_toArray,List.map_cons,List.map_nil]);first|done|rfl) ?_;(with_reducible refine (zS.calls g s0_0 t212 t213 _ _ y220 t223 t224 t225 w0 _ ?side1 ?side2 ?side3 ?side4 ?side5 A21.out).mono ?_);(case side1=>repeat (with_reducible first|exact HI0.out|apply zf.alloc|apply zf.drewN|refine zf.far ?_ NB0_205.out _|refine zf.far ?_ NB0_210.out _));(case side2=>repeat (with_reducible first|exact HB.out|apply zm|apply zk|refine zh ?_ (zf.ge HI0.out)|refine zh ?_ GE205.out|refine zh ?_ GE210.out));(case side3=>repeat (first|exact (Kd.zg5 HO222.out).2.2|(with_reducible refine Kd.zpV ?_ _)|(with_reducible refine Kd.zpU ?_ _)|(with_reducible refine Kd.zuz ?_)));(case side4=>exact (Kd.zg5 HO222.out).2.1);(case side5=>exact zlp (zf.own_ne HI0.out HO222.out (by decide)));rintro e w32 ⟨rfl,hi,hb,hk⟩;refine ⟨_,rfl,?_⟩;have n0_:=za.mk (zl.blk hk (g':=gb205) (o:= .cells #[.int .i64 0,.int .i64 0] 27 (0,0)) (by exact BK205.out) NB205_0.out (by simp));have n1_:=za.mk (zl.blk hk (g':=gb210) (o:= .cells #[.int .i64 t206,.int .i64 t207] 27 (0,0)) (by exact BK210.out) NB210_0.out (by simp));have n2_:=za.mk (Kd.zmW (Kd.zp9 (zf.apart (show zf w0 _ g s0_0 t212 t213 from by repeat (with_reducible first|exact HI0.out|apply zf.alloc|apply zf.drewN|refine zf.far ?_ NB0_205.out _|refine zf.far ?_ NB0_210.out _)) (by (with_reducible repeat (first|apply Kd.zmY|apply Kd.zmX|apply Kd.zqa));exact HO222.out) (by decide)) hk (fun _ h=>h.2)) (fun _ h=>h.1));have n3_:=za.mk (zl.trans (by repeat (with_reducible first|exact HK.out|apply zl.set_|apply zu|apply zw|refine zF ?_ GW205.out _|refine zF ?_ GW210.out _)) hk (.inl rfl));have n4_:=za.mk (hb);have n5_:=za.mk (hi);clear BK205;clear BK210;clear HO222;clear HK;clear HB;clear HI0;have BK205:=n0_;have BK210:=n1_;have HO222:=n2_;have HK:=n3_;have HB:=n4_;have HI0:=n5_;clear n0_ n1_ n2_ n3_ n4_ n5_;(try clear hb);(try clear hb2);(try clear hk);(try clear hi);have hcz33_0:w32.cell? ⟨gb210,0,none⟩=some (.int .i64 t206):=(zq BK210.out 0).trans rfl;have hcz33_1:w32.cell? ⟨gb210,1,none⟩=some (.int .i64 t207):=(zq BK210.out 1).trans rfl;have hfz33_0:=zn BK210.out 0;have hfz33_1:=zn BK210.out 1;have hnb34:=NB205_0.out;have hnc34:=NB0_205.out;have hcz35_0:w32.cell? ⟨gb205,0,none⟩=some (.int .i64 0):=(zq BK205.out 0).trans rfl;have hcz35_1:w32.cell? ⟨gb205,1,none⟩=some (.int .i64 0):=(zq BK205.out 1).trans rfl;have hfz35_0:=zn BK205.out 0;have hfz35_1:=zn BK205.out 1))
   refine bodyPost_ret (results_cell_row rfl _ _ gb205 27 #[.int .i64 t206,.int .i64 t223] (0,0) _ rfl (by refine zaq (cs:=#[.int .i64 t206,.int .i64 0]) ?_ 1 _ rfl;refine zaq (cs:=#[.int .i64 0,.int .i64 0]) ?_ 0 _ rfl;refine zal ?_ NB205_210.out _;exact BK205.out) Tryz.underlying27 rfl (by kernel_rfl)) rfl ?_
   exact ⟨by first|rfl|(simp [*]<;>rfl),by repeat (with_reducible first|exact HI0.out|apply zf.alloc|apply zf.drewN|refine zf.far ?_ NB0_205.out _|refine zf.far ?_ NB0_210.out _),by repeat (with_reducible first|exact HB.out|apply zm|apply zk|refine zh ?_ (zf.ge HI0.out)|refine zh ?_ GE205.out|refine zh ?_ GE210.out),by repeat (with_reducible first|exact HK.out|apply zl.set_|apply zu|apply zw|refine zF ?_ GW205.out _|refine zF ?_ GW210.out _)⟩
  ·rw [if_neg c20] at H
   have c20b0:(t211==1)=false:=beq_eq_false_iff_ne.mpr c20
   have c20b1:(t211 != 1)=true:=bne_iff_ne.mpr c20
   simp only [Option.some.injEq,Prod.mk.injEq] at H
   obtain ⟨rfl,rfl,rfl,rfl⟩:=H
   go_enter Tryz.func65,Tryz.ntmps65
   go_wp2_with (first|((with_reducible refine zbw (N:=2) rfl ?_);refine zbz ?hg (N:=2) ?hd (cs:=#[.int .i64 0,.int .i64 0]) (t:=27) ?hr ?_;(case hd=>rfl);(case hg=>rfl);(case hr=>first|(go_simp;done)|(go_simp;rfl));intro gb205 hg w36 hbox hb;have n0_:=za.mk (zf.below (by repeat (with_reducible first|exact HI0.out|apply zf.alloc|apply zf.drewN|apply zf.drew)) hb);have n1_:=za.mk (zl.trans (by repeat (with_reducible first|exact HK.out|apply zl.set_|apply zu|apply zw)) (zl.of_below hb g none) (.inl rfl));have n2_:=za.mk (zaF (by repeat (with_reducible first|exact HB.out|apply zm|apply zk|refine zh ?_ (zf.ge HI0.out))) hb);have n3_:=za.mk (hbox);have n4_:=za.mk ((by rw [hg];exact (zaL (w:=w) (g:=g) (row:=none) (by repeat (with_reducible first|exact HK.out|apply zl.set_|apply zu|apply zw))):w.heap.size<=gb205));have n5_:=za.mk ((Nat.le_trans HW0.out (by rw [hg];exact (zaL (w:=w) (g:=g) (row:=none) (by repeat (with_reducible first|exact HK.out|apply zl.set_|apply zu|apply zw))):w.heap.size<=gb205):w0.heap.size<=gb205));have n6_:=za.mk ((by rw [hg];exact Nat.ne_of_lt (zf.lt (show zf w0 _ g s0_0 s0_1 s0_2 from by repeat (with_reducible first|exact HI0.out|apply zf.alloc|apply zf.drewN|apply zf.drew))):g≠gb205));have n7_:=za.mk ((by rw [hg];exact Nat.ne_of_gt (zf.lt (show zf w0 _ g s0_0 s0_1 s0_2 from by repeat (with_reducible first|exact HI0.out|apply zf.alloc|apply zf.drewN|apply zf.drew))):gb205≠g));clear HI0;clear HK;clear HB;have HI0:=n0_;have HK:=n1_;have HB:=n2_;have BK205:=n3_;have GW205:=n4_;have GE205:=n5_;have NB0_205:=n6_;have NB205_0:=n7_;clear n0_ n1_ n2_ n3_ n4_ n5_ n6_ n7_;clear hb hbox hg)|((with_reducible refine zQ (f:=23) rfl ?_);refine zaZ (some 5) rfl rfl Tryz.func23 (by kernel_rfl) rfl #[.pointer (some ⟨g,0,none⟩)] rfl (by (try simp only [List.map_toArray,List.map_cons,List.map_nil]);first|done|rfl) ?_;(with_reducible refine (zby.calls k g s0_0 s0_1 s0_2 t206 t207 t208 t209 w0 _ ?side1 ?side2 A2.out).mono ?_);(case side1=>repeat (with_reducible first|exact HI0.out|apply zf.alloc|apply zf.drewN|refine zf.far ?_ NB0_205.out _));(case side2=>repeat (with_reducible first|exact HB.out|apply zm|apply zk|refine zh ?_ (zf.ge HI0.out)|refine zh ?_ GE205.out));rintro e w37 ⟨rfl,hi,hb,hk⟩;refine ⟨_,rfl,?_⟩;have n0_:=za.mk (zl.blk hk (g':=gb205) (o:= .cells #[.int .i64 0,.int .i64 0] 27 (0,0)) (by exact BK205.out) NB205_0.out (by simp));have n1_:=za.mk (zl.trans (by repeat (with_reducible first|exact HK.out|apply zl.set_|apply zu|apply zw|refine zF ?_ GW205.out _)) hk (.inl rfl));have n2_:=za.mk (hb);have n3_:=za.mk (hi);clear BK205;clear HK;clear HB;clear HI0;have BK205:=n0_;have HK:=n1_;have HB:=n2_;have HI0:=n3_;clear n0_ n1_ n2_ n3_;(try clear hb);(try clear hb2);(try clear hk);(try clear hi))|((with_reducible refine zbw (N:=3) rfl ?_);refine zbz ?hg (N:=3) ?hd (cs:=#[.int .i64 0,.int .i64 0]) (t:=27) ?hr ?_;(case hd=>rfl);(case hg=>rfl);(case hr=>first|(go_simp;done)|(go_simp;rfl));intro gb210 hg w38 hbox hb;have n0_:=za.mk (zf.below (by repeat (with_reducible first|exact HI0.out|apply zf.alloc|apply zf.drewN|refine zf.far ?_ NB0_205.out _)) hb);have n1_:=za.mk (zaC (g:=gb205) (o:= .cells #[.int .i64 0,.int .i64 0] 27 (0,0)) (by exact BK205.out) hb);have n2_:=za.mk (zl.trans (by repeat (with_reducible first|exact HK.out|apply zl.set_|apply zu|apply zw|refine zF ?_ GW205.out _)) (zl.of_below hb g none) (.inl rfl));have n3_:=za.mk (zaF (by repeat (with_reducible first|exact HB.out|apply zm|apply zk|refine zh ?_ (zf.ge HI0.out)|refine zh ?_ GE205.out)) hb);have n4_:=za.mk (hbox);have n5_:=za.mk ((by rw [hg];exact (zaL (w:=w) (g:=g) (row:=none) (by repeat (with_reducible first|exact HK.out|apply zl.set_|apply zu|apply zw|refine zF ?_ GW205.out _))):w.heap.size<=gb210));have n6_:=za.mk ((Nat.le_trans HW0.out (by rw [hg];exact (zaL (w:=w) (g:=g) (row:=none) (by repeat (with_reducible first|exact HK.out|apply zl.set_|apply zu|apply zw|refine zF ?_ GW205.out _))):w.heap.size<=gb210):w0.heap.size<=gb210));have n7_:=za.mk ((by rw [hg];exact Nat.ne_of_lt (zco (g:=gb205) (o:= .cells #[.int .i64 0,.int .i64 0] 27 (0,0)) (by exact BK205.out)):gb205≠gb210));have n8_:=za.mk ((by rw [hg];exact Nat.ne_of_gt (zco (g:=gb205) (o:= .cells #[.int .i64 0,.int .i64 0] 27 (0,0)) (by exact BK205.out)):gb210≠gb205));have n9_:=za.mk ((by rw [hg];exact Nat.ne_of_lt (zf.lt (show zf w0 _ g s0_0 t208 t209 from by repeat (with_reducible first|exact HI0.out|apply zf.alloc|apply zf.drewN|refine zf.far ?_ NB0_205.out _))):g≠gb210));have n10_:=za.mk ((by rw [hg];exact Nat.ne_of_gt (zf.lt (show zf w0 _ g s0_0 t208 t209 from by repeat (with_reducible first|exact HI0.out|apply zf.alloc|apply zf.drewN|refine zf.far ?_ NB0_205.out _))):gb210≠g));clear HI0;clear BK205;clear HK;clear HB;have HI0:=n0_;have BK205:=n1_;have HK:=n2_;have HB:=n3_;have BK210:=n4_;have GW210:=n5_;have GE210:=n6_;have NB205_210:=n7_;have NB210_205:=n8_;have NB0_210:=n9_;have NB210_0:=n10_;clear n0_ n1_ n2_ n3_ n4_ n5_ n6_ n7_ n8_ n9_ n10_;clear hb hbox hg;have hnb39:=NB210_205.out;have hnc39:=NB205_210.out;have hnb40:=NB210_0.out;have hnc40:=NB0_210.out;have hcz41_0:w38.cell? ⟨gb210,0,none⟩=some (.int .i64 0):=(zq BK210.out 0).trans rfl;have hcz41_1:w38.cell? ⟨gb210,1,none⟩=some (.int .i64 0):=(zq BK210.out 1).trans rfl;have hfz41_0:=zn BK210.out 0;have hfz41_1:=zn BK210.out 1)|((with_reducible refine zQ (f:=19) rfl ?_);refine zaZ (some 7) rfl rfl Tryz.func19 (by kernel_rfl) rfl #[.pointer (some ⟨g,0,none⟩),.int .i64 16] rfl (by (try simp only [List.map_toArray,List.map_cons,List.map_nil]);first|done|rfl) ?_;(with_reducible refine (zJ.calls g s0_0 t208 t209 16 t211 t212 t213 w0 _ ?side1 ?side2 A3.out).mono ?_);(case side1=>repeat (with_reducible first|exact HI0.out|apply zf.alloc|apply zf.drewN|refine zf.far ?_ NB0_205.out _|refine zf.far ?_ NB0_210.out _));(case side2=>repeat (with_reducible first|exact HB.out|apply zm|apply zk|refine zh ?_ (zf.ge HI0.out)|refine zh ?_ GE205.out|refine zh ?_ GE210.out));rintro e w42 ⟨rfl,hi,hb,hk⟩;refine ⟨_,rfl,?_⟩;have n0_:=za.mk (zl.blk hk (g':=gb205) (o:= .cells #[.int .i64 0,.int .i64 0] 27 (0,0)) (by refine zal ?_ NB205_210.out _;refine zal ?_ NB205_210.out _;exact BK205.out) NB205_0.out (by simp));have n1_:=za.mk (zl.blk hk (g':=gb210) (o:= .cells #[.int .i64 t206,.int .i64 t207] 27 (0,0)) (by refine zaq (cs:=#[.int .i64 t206,.int .i64 0]) ?_ 1 _ rfl;refine zaq (cs:=#[.int .i64 0,.int .i64 0]) ?_ 0 _ rfl;exact BK210.out) NB210_0.out (by simp));have n2_:=za.mk (zl.trans (by repeat (with_reducible first|exact HK.out|apply zl.set_|apply zu|apply zw|refine zF ?_ GW205.out _|refine zF ?_ GW210.out _)) hk (.inl rfl));have n3_:=za.mk (hb);have n4_:=za.mk (hi);clear BK205;clear BK210;clear HK;clear HB;clear HI0;have BK205:=n0_;have BK210:=n1_;have HK:=n2_;have HB:=n3_;have HI0:=n4_;clear n0_ n1_ n2_ n3_ n4_;(try clear hb);(try clear hb2);(try clear hk);(try clear hi);have hcz43_0:w42.cell? ⟨gb210,0,none⟩=some (.int .i64 t206):=(zq BK210.out 0).trans rfl;have hcz43_1:w42.cell? ⟨gb210,1,none⟩=some (.int .i64 t207):=(zq BK210.out 1).trans rfl;have hfz43_0:=zn BK210.out 0;have hfz43_1:=zn BK210.out 1;have hnb44:=NB205_0.out;have hnc44:=NB0_205.out;have hcz45_0:w42.cell? ⟨gb205,0,none⟩=some (.int .i64 0):=(zq BK205.out 0).trans rfl;have hcz45_1:w42.cell? ⟨gb205,1,none⟩=some (.int .i64 0):=(zq BK205.out 1).trans rfl;have hfz45_0:=zn BK205.out 0;have hfz45_1:=zn BK205.out 1))
   refine bodyPost_ret (results_cell_row rfl _ _ gb205 27 #[.int .i64 t206,.int .i64 t207] (0,0) _ rfl (by refine zaq (cs:=#[.int .i64 t206,.int .i64 0]) ?_ 1 _ rfl;refine zaq (cs:=#[.int .i64 0,.int .i64 0]) ?_ 0 _ rfl;exact BK205.out) Tryz.underlying27 rfl (by kernel_rfl)) rfl ?_
   exact ⟨by first|rfl|(simp [*]<;>rfl),by repeat (with_reducible first|exact HI0.out|apply zf.alloc|apply zf.drewN|refine zf.far ?_ NB0_205.out _|refine zf.far ?_ NB0_210.out _),by repeat (with_reducible first|exact HB.out|apply zm|apply zk|refine zh ?_ (zf.ge HI0.out)|refine zh ?_ GE205.out|refine zh ?_ GE210.out),by repeat (with_reducible first|exact HK.out|apply zl.set_|apply zu|apply zw|refine zF ?_ GW205.out _|refine zF ?_ GW210.out _)⟩
def zfo.f (a0:Int):Option (Int):=(zbd.f a0 1 4).bind fun t226=>(if t226=true then (some 1) else none)
set_option maxHeartbeats 8000000 in
set_option maxRecDepth 100000 in
theorem zfo.calls (a0:Int) (r:Int) (w:World) (h:zfo.f a0=some r):
  Calls Tryz.prog 66 #[.int .i64 a0] w fun e w'=>e= .returned (.int .i64 r)/\zcv w w':=by
 have H:((zbd.f a0 1 4).bind fun t226=>(if t226=true then (some 1) else none))=some r:=h
 clear h
 obtain ⟨t226,A20,H⟩:=Option.bind_eq_some_iff.mp H
 replace H:(if t226=true then (some 1) else none)=some r:=H
 have A2:=za.mk A20
 clear A20
 by_cases c3:t226=true
 ·subst c3
  replace H:(some 1)=some r:=by rw [if_pos rfl] at H;exact H
  obtain rfl:=Option.some.inj H
  go_enter Tryz.func66,Tryz.ntmps66
  go_wp2_with (first|((with_reducible refine zQ (f:=61) rfl ?_);refine zaZ (some 5) rfl rfl Tryz.func61 (by kernel_rfl) rfl #[.int .i64 a0,.int .i64 1,.int .i64 4] rfl (by (try simp only [List.map_toArray,List.map_cons,List.map_nil]);first|done|rfl) ?_;(with_reducible refine (zbd.calls a0 1 4 true _ A2.out).mono ?_);rintro e w' ⟨rfl,⟨nd,rfl⟩⟩;refine ⟨_,rfl,?_⟩))
  go_ret
  exact ⟨by first|rfl|(simp;done)|(simp [*];done),by repeat (first|exact zcv.refl _|apply zcv.step)⟩
 ·exact absurd H (by simp [c3])
mutual
def zak.j0:Nat->Bool->List Int->Int->Int->Int->Int->Int->Int->Int->Int->Int->Option (Int×Int×Int×Int)
 | 0,_,_,_,_,_,_,_,_,_,_,_=>none
 | k+1,x15,x1000,x1001,x1002,x231000,x231001,x231002,x231003,x231004,x237000,x237001=>if x15=true then (some (x237000,x237001,x1001,x1002)) else ((zfo.f x231000).bind fun t241=>(if t241=3 then none else (zak.j1 k x231001 x1000 x1001 x1002 x231000 x231001 x231002 x231003 x231004)))
def zak.j1:Nat->Int->List Int->Int->Int->Int->Int->Int->Int->Int->Option (Int×Int×Int×Int)
 | 0,_,_,_,_,_,_,_,_,_=>none
 | k+1,x6,x1000,x1001,x1002,x231000,x231001,x231002,x231003,x231004=>(zJ.f x1000 x1001 x1002 81).bind fun bt242=>((zhf.f (wrap64 (x6+(wrap64 ((wrap64 (bt242.1-40))*10000000)))) 900000000).bind fun t245=>((zfT.f (-900000000) t245).bind fun t246=>((zJ.f x1000 bt242.2.1 bt242.2.2 161).bind fun bt247=>((zbi.f (wrap64 (x231002+(wrap64 ((wrap64 (bt247.1-80))*10000000))))).bind fun t250=>(some (t246,t250,bt247.2.1,bt247.2.2))))))
end
def zak.f (k:Nat) (s0_0:List Int) (s0_1:Int) (s0_2:Int) (a1_0:Int) (a1_1:Int) (a1_2:Int) (a1_3:Int) (a1_4:Int):Option (Int×Int×Int×Int):=(zfS.f k s0_0 s0_1 s0_2).bind fun bt232=>((zax.f s0_0 bt232.2.2.1 bt232.2.2.2 4).bind fun bt237=>(if bt237.1=true then (zak.j0 k true s0_0 bt237.2.1 bt237.2.2 a1_0 a1_1 a1_2 a1_3 a1_4 bt232.1 bt232.2.1) else ((zbX.f bt232.1 bt232.2.1).bind fun t240=>(zak.j0 k (!t240) s0_0 bt237.2.1 bt237.2.2 a1_0 a1_1 a1_2 a1_3 a1_4 bt232.1 bt232.2.1))))
def zak.T8:Bool×List (List Nat×List Nat):=(true,[([],[]),([0],[0]),([1,1],[1]),([],[]),([3],[3]),([],[]),([5,2],[5]),([6],[6]),([7],[7]),([4,8],[4,8]),([9,6],[9]),([2,10],[2,10]),([11,10,0,1,2,3,4,5,6,7,8,9,10,11],[11])])
def zak.B8:List Nat:= [0,1,3,0,8,0,39,103,231,511,1023,2047,4095]
theorem zak.tab8:rtab .any (opsOf Tryz.f21 8)=zak.T8:=by kernel_rfl
theorem zak.bits8:zmB zak.T8.2 zak.B8=true:=by kernel_rfl
set_option maxHeartbeats 8000000 in
set_option maxRecDepth 100000 in
theorem zak.calls (k:Nat) (g:Nat) (s0_0:List Int) (s0_1:Int) (s0_2:Int) (a1_0:Int) (a1_1:Int) (a1_2:Int) (a1_3:Int) (a1_4:Int) (r1:Int) (r2:Int) (r3:Int) (r4:Int) (w0 w:World) (hI:zf w0 w g s0_0 s0_1 s0_2) (hB:Below w0.heap.size w0 w) (h:zak.f k s0_0 s0_1 s0_2 a1_0 a1_1 a1_2 a1_3 a1_4=some (r1,r2,r3,r4)):
  Calls Tryz.prog 21 #[.pointer (some ⟨g,0,none⟩),.agg #[.int .i64 a1_0,.int .i64 a1_1,.int .i64 a1_2,.int .i64 a1_3,.int .i64 a1_4]] w fun e w'=>e= .returned (.agg #[.int .i64 r1,.int .i64 r2])/\zf w0 w' g s0_0 r3 r4/\Below w0.heap.size w0 w'/\zl w w' g none:=by
 have hu25:=Tryz.underlying25
 have hu27:=Tryz.underlying27
 have HI0:=za.mk hI
 have HK:=za.mk (zl.refl w g none)
 have HL:=za.mk hB.size
 clear hI
 have HW0:=za.mk hB.size
 have HB:=za.mk hB
 clear hB
 have H:((zfS.f k s0_0 s0_1 s0_2).bind fun bt232=>((zax.f s0_0 bt232.2.2.1 bt232.2.2.2 4).bind fun bt237=>(if bt237.1=true then (zak.j0 k true s0_0 bt237.2.1 bt237.2.2 a1_0 a1_1 a1_2 a1_3 a1_4 bt232.1 bt232.2.1) else ((zbX.f bt232.1 bt232.2.1).bind fun t240=>(zak.j0 k (!t240) s0_0 bt237.2.1 bt237.2.2 a1_0 a1_1 a1_2 a1_3 a1_4 bt232.1 bt232.2.1)))))=some (r1,r2,r3,r4):=h
 clear h
 obtain ⟨⟨t232,t233,t234,t235⟩,A30,H⟩:=Option.bind_eq_some_iff.mp H
 replace H:((zax.f s0_0 t234 t235 4).bind fun bt237=>(if bt237.1=true then (zak.j0 k true s0_0 bt237.2.1 bt237.2.2 a1_0 a1_1 a1_2 a1_3 a1_4 t232 t233) else ((zbX.f t232 t233).bind fun t240=>(zak.j0 k (!t240) s0_0 bt237.2.1 bt237.2.2 a1_0 a1_1 a1_2 a1_3 a1_4 t232 t233))))=some (r1,r2,r3,r4):=H
 have A3:=za.mk A30
 clear A30
 have HC4:=za.mk H
 clear H
 go_enter Tryz.func21,Tryz.ntmps21
 go_upto_region 2 with (first|((with_reducible refine zbw (N:=3) rfl ?_);refine zbz ?hg (N:=3) ?hd (cs:=#[.int .i64 a1_0,.int .i64 a1_1,.int .i64 a1_2,.int .i64 a1_3,.int .i64 a1_4]) (t:=25) ?hr ?_;(case hd=>rfl);(case hg=>rfl);(case hr=>first|(go_simp;done)|(go_simp;rfl));intro gb230 hg w5 hbox hb;have n0_:=za.mk (zf.below (by repeat (with_reducible first|exact HI0.out|apply zf.alloc|apply zf.drewN|apply zf.drew)) hb);have n1_:=za.mk (zl.trans (by repeat (with_reducible first|exact HK.out|apply zl.set_|apply zu|apply zw)) (zl.of_below hb g none) (.inl rfl));have n2_:=za.mk (zaF (by repeat (with_reducible first|exact HB.out|apply zm|apply zk|refine zh ?_ (zf.ge HI0.out))) hb);have n3_:=za.mk (hbox);have n4_:=za.mk ((by rw [hg];exact (zaL (w:=w) (g:=g) (row:=none) (by repeat (with_reducible first|exact HK.out|apply zl.set_|apply zu|apply zw))):w.heap.size<=gb230));have n5_:=za.mk ((Nat.le_trans HW0.out (by rw [hg];exact (zaL (w:=w) (g:=g) (row:=none) (by repeat (with_reducible first|exact HK.out|apply zl.set_|apply zu|apply zw))):w.heap.size<=gb230):w0.heap.size<=gb230));have n6_:=za.mk ((by rw [hg];exact Nat.ne_of_lt (zf.lt (show zf w0 _ g s0_0 s0_1 s0_2 from by repeat (with_reducible first|exact HI0.out|apply zf.alloc|apply zf.drewN|apply zf.drew))):g≠gb230));have n7_:=za.mk ((by rw [hg];exact Nat.ne_of_gt (zf.lt (show zf w0 _ g s0_0 s0_1 s0_2 from by repeat (with_reducible first|exact HI0.out|apply zf.alloc|apply zf.drewN|apply zf.drew))):gb230≠g));clear HI0;clear HK;clear HB;have HI0:=n0_;have HK:=n1_;have HB:=n2_;have BK230:=n3_;have GW230:=n4_;have GE230:=n5_;have NB0_230:=n6_;have NB230_0:=n7_;clear n0_ n1_ n2_ n3_ n4_ n5_ n6_ n7_;clear hb hbox hg)|((with_reducible refine zbw (N:=4) rfl ?_);refine zbz ?hg (N:=4) ?hd (cs:=#[.int .i64 0,.int .i64 0]) (t:=27) ?hr ?_;(case hd=>rfl);(case hg=>rfl);(case hr=>first|(go_simp;done)|(go_simp;rfl));intro gb231 hg w6 hbox hb;have n0_:=za.mk (zf.below (by repeat (with_reducible first|exact HI0.out|apply zf.alloc|apply zf.drewN|refine zf.far ?_ NB0_230.out _)) hb);have n1_:=za.mk (zaC (g:=gb230) (o:= .cells #[.int .i64 a1_0,.int .i64 a1_1,.int .i64 a1_2,.int .i64 a1_3,.int .i64 a1_4] 25 (0,0)) (by exact BK230.out) hb);have n2_:=za.mk (zl.trans (by repeat (with_reducible first|exact HK.out|apply zl.set_|apply zu|apply zw|refine zF ?_ GW230.out _)) (zl.of_below hb g none) (.inl rfl));have n3_:=za.mk (zaF (by repeat (with_reducible first|exact HB.out|apply zm|apply zk|refine zh ?_ (zf.ge HI0.out)|refine zh ?_ GE230.out)) hb);have n4_:=za.mk (hbox);have n5_:=za.mk ((by rw [hg];exact (zaL (w:=w) (g:=g) (row:=none) (by repeat (with_reducible first|exact HK.out|apply zl.set_|apply zu|apply zw|refine zF ?_ GW230.out _))):w.heap.size<=gb231));have n6_:=za.mk ((Nat.le_trans HW0.out (by rw [hg];exact (zaL (w:=w) (g:=g) (row:=none) (by repeat (with_reducible first|exact HK.out|apply zl.set_|apply zu|apply zw|refine zF ?_ GW230.out _))):w.heap.size<=gb231):w0.heap.size<=gb231));have n7_:=za.mk ((by rw [hg];exact Nat.ne_of_lt (zco (g:=gb230) (o:= .cells #[.int .i64 a1_0,.int .i64 a1_1,.int .i64 a1_2,.int .i64 a1_3,.int .i64 a1_4] 25 (0,0)) (by exact BK230.out)):gb230≠gb231));have n8_:=za.mk ((by rw [hg];exact Nat.ne_of_gt (zco (g:=gb230) (o:= .cells #[.int .i64 a1_0,.int .i64 a1_1,.int .i64 a1_2,.int .i64 a1_3,.int .i64 a1_4] 25 (0,0)) (by exact BK230.out)):gb231≠gb230));have n9_:=za.mk ((by rw [hg];exact Nat.ne_of_lt (zf.lt (show zf w0 _ g s0_0 s0_1 s0_2 from by repeat (with_reducible first|exact HI0.out|apply zf.alloc|apply zf.drewN|refine zf.far ?_ NB0_230.out _))):g≠gb231));have n10_:=za.mk ((by rw [hg];exact Nat.ne_of_gt (zf.lt (show zf w0 _ g s0_0 s0_1 s0_2 from by repeat (with_reducible first|exact HI0.out|apply zf.alloc|apply zf.drewN|refine zf.far ?_ NB0_230.out _))):gb231≠g));clear HI0;clear BK230;clear HK;clear HB;have HI0:=n0_;have BK230:=n1_;have HK:=n2_;have HB:=n3_;have BK231:=n4_;have GW231:=n5_;have GE231:=n6_;have NB230_231:=n7_;have NB231_230:=n8_;have NB0_231:=n9_;have NB231_0:=n10_;clear n0_ n1_ n2_ n3_ n4_ n5_ n6_ n7_ n8_ n9_ n10_;clear hb hbox hg)|((with_reducible refine zQ (f:=65) rfl ?_);refine zaZ (some 8) rfl rfl Tryz.func65 (by kernel_rfl) rfl #[.pointer (some ⟨g,0,none⟩)] rfl (by (try simp only [List.map_toArray,List.map_cons,List.map_nil]);first|done|rfl) ?_;(with_reducible refine (zfS.calls k g s0_0 s0_1 s0_2 t232 t233 t234 t235 w0 _ ?side1 ?side2 A3.out).mono ?_);(case side1=>repeat (with_reducible first|exact HI0.out|apply zf.alloc|apply zf.drewN|refine zf.far ?_ NB0_230.out _|refine zf.far ?_ NB0_231.out _));(case side2=>repeat (with_reducible first|exact HB.out|apply zm|apply zk|refine zh ?_ (zf.ge HI0.out)|refine zh ?_ GE230.out|refine zh ?_ GE231.out));rintro e w7 ⟨rfl,hi,hb,hk⟩;refine ⟨_,rfl,?_⟩;have n0_:=za.mk (zl.blk hk (g':=gb230) (o:= .cells #[.int .i64 a1_0,.int .i64 a1_1,.int .i64 a1_2,.int .i64 a1_3,.int .i64 a1_4] 25 (0,0)) (by exact BK230.out) NB230_0.out (by simp));have n1_:=za.mk (zl.blk hk (g':=gb231) (o:= .cells #[.int .i64 0,.int .i64 0] 27 (0,0)) (by exact BK231.out) NB231_0.out (by simp));have n2_:=za.mk (zl.trans (by repeat (with_reducible first|exact HK.out|apply zl.set_|apply zu|apply zw|refine zF ?_ GW230.out _|refine zF ?_ GW231.out _)) hk (.inl rfl));have n3_:=za.mk (hb);have n4_:=za.mk (hi);clear BK230;clear BK231;clear HK;clear HB;clear HI0;have BK230:=n0_;have BK231:=n1_;have HK:=n2_;have HB:=n3_;have HI0:=n4_;clear n0_ n1_ n2_ n3_ n4_;(try clear hb);(try clear hb2);(try clear hk);(try clear hi))|((with_reducible refine zbw (N:=5) rfl ?_);refine zbz ?hg (N:=5) ?hd (cs:=#[.int .i64 0,.int .i64 0]) (t:=27) ?hr ?_;(case hd=>rfl);(case hg=>rfl);(case hr=>first|(go_simp;done)|(go_simp;rfl));intro gb236 hg w8 hbox hb;have n0_:=za.mk (zf.below (by repeat (with_reducible first|exact HI0.out|apply zf.alloc|apply zf.drewN|refine zf.far ?_ NB0_230.out _|refine zf.far ?_ NB0_231.out _)) hb);have n1_:=za.mk (zaC (g:=gb230) (o:= .cells #[.int .i64 a1_0,.int .i64 a1_1,.int .i64 a1_2,.int .i64 a1_3,.int .i64 a1_4] 25 (0,0)) (by exact BK230.out) hb);have n2_:=za.mk (zaC (g:=gb231) (o:= .cells #[.int .i64 0,.int .i64 0] 27 (0,0)) (by exact BK231.out) hb);have n3_:=za.mk (zl.trans (by repeat (with_reducible first|exact HK.out|apply zl.set_|apply zu|apply zw|refine zF ?_ GW230.out _|refine zF ?_ GW231.out _)) (zl.of_below hb g none) (.inl rfl));have n4_:=za.mk (zaF (by repeat (with_reducible first|exact HB.out|apply zm|apply zk|refine zh ?_ (zf.ge HI0.out)|refine zh ?_ GE230.out|refine zh ?_ GE231.out)) hb);have n5_:=za.mk (hbox);have n6_:=za.mk ((by rw [hg];exact (zaL (w:=w) (g:=g) (row:=none) (by repeat (with_reducible first|exact HK.out|apply zl.set_|apply zu|apply zw|refine zF ?_ GW230.out _|refine zF ?_ GW231.out _))):w.heap.size<=gb236));have n7_:=za.mk ((Nat.le_trans HW0.out (by rw [hg];exact (zaL (w:=w) (g:=g) (row:=none) (by repeat (with_reducible first|exact HK.out|apply zl.set_|apply zu|apply zw|refine zF ?_ GW230.out _|refine zF ?_ GW231.out _))):w.heap.size<=gb236):w0.heap.size<=gb236));have n8_:=za.mk ((by rw [hg];exact Nat.ne_of_lt (zco (g:=gb230) (o:= .cells #[.int .i64 a1_0,.int .i64 a1_1,.int .i64 a1_2,.int .i64 a1_3,.int .i64 a1_4] 25 (0,0)) (by exact BK230.out)):gb230≠gb236));have n9_:=za.mk ((by rw [hg];exact Nat.ne_of_gt (zco (g:=gb230) (o:= .cells #[.int .i64 a1_0,.int .i64 a1_1,.int .i64 a1_2,.int .i64 a1_3,.int .i64 a1_4] 25 (0,0)) (by exact BK230.out)):gb236≠gb230));have n10_:=za.mk ((by rw [hg];exact Nat.ne_of_lt (zco (g:=gb231) (o:= .cells #[.int .i64 0,.int .i64 0] 27 (0,0)) (by exact BK231.out)):gb231≠gb236));have n11_:=za.mk ((by rw [hg];exact Nat.ne_of_gt (zco (g:=gb231) (o:= .cells #[.int .i64 0,.int .i64 0] 27 (0,0)) (by exact BK231.out)):gb236≠gb231));have n12_:=za.mk ((by rw [hg];exact Nat.ne_of_lt (zf.lt (show zf w0 _ g s0_0 t234 t235 from by repeat (with_reducible first|exact HI0.out|apply zf.alloc|apply zf.drewN|refine zf.far ?_ NB0_230.out _|refine zf.far ?_ NB0_231.out _))):g≠gb236));have n13_:=za.mk ((by rw [hg];exact Nat.ne_of_gt (zf.lt (show zf w0 _ g s0_0 t234 t235 from by repeat (with_reducible first|exact HI0.out|apply zf.alloc|apply zf.drewN|refine zf.far ?_ NB0_230.out _|refine zf.far ?_ NB0_231.out _))):gb236≠g));clear HI0;clear BK230;clear BK231;clear HK;clear HB;have HI0:=n0_;have BK230:=n1_;have BK231:=n2_;have HK:=n3_;have HB:=n4_;have BK236:=n5_;have GW236:=n6_;have GE236:=n7_;have NB230_236:=n8_;have NB236_230:=n9_;have NB231_236:=n10_;have NB236_231:=n11_;have NB0_236:=n12_;have NB236_0:=n13_;clear n0_ n1_ n2_ n3_ n4_ n5_ n6_ n7_ n8_ n9_ n10_ n11_ n12_ n13_;clear hb hbox hg;have hnb9:=NB236_230.out;have hnc9:=NB230_236.out;have hnb10:=NB236_231.out;have hnc10:=NB231_236.out;have hnb11:=NB236_0.out;have hnc11:=NB0_236.out;have hcz12_0:w8.cell? ⟨gb236,0,none⟩=some (.int .i64 0):=(zq BK236.out 0).trans rfl;have hcz12_1:w8.cell? ⟨gb236,1,none⟩=some (.int .i64 0):=(zq BK236.out 1).trans rfl;have hfz12_0:=zn BK236.out 0;have hfz12_1:=zn BK236.out 1))
 (try simp only [Act.put,List.setIfInBounds_toArray,List.set_cons_zero,List.set_cons_succ])
 go_cut [15] (fun v15 wc=>∃(kq:Nat) (x15_3:Bool) (x1001_3:Int) (x1002_3:Int),v15= .bool x15_3/\za (zak.j0 kq x15_3 s0_0 x1001_3 x1002_3 a1_0 a1_1 a1_2 a1_3 a1_4 t232 t233=some (r1,r2,r3,r4))/\za (kq<=k)/\za (wc.heap[gb230]?=some (.cells #[.int .i64 a1_0,.int .i64 a1_1,.int .i64 a1_2,.int .i64 a1_3,.int .i64 a1_4] 25 (0,0)))/\za (wc.heap[gb231]?=some (.cells #[.int .i64 0,.int .i64 0] 27 (0,0)))/\za (wc.heap[gb236]?=some (.cells #[.int .i64 t232,.int .i64 t233] 27 (0,0)))/\za (zf w0 wc g s0_0 x1001_3 x1002_3)/\za (zl w wc g none)/\za (Below w0.heap.size w0 wc))
 case first=>
  have H:=HC4.out
  clear HC4
  obtain ⟨⟨t237,t238,t239⟩,A130,H⟩:=Option.bind_eq_some_iff.mp H
  replace H:(if t237=true then (zak.j0 k true s0_0 t238 t239 a1_0 a1_1 a1_2 a1_3 a1_4 t232 t233) else ((zbX.f t232 t233).bind fun t240=>(zak.j0 k (!t240) s0_0 t238 t239 a1_0 a1_1 a1_2 a1_3 a1_4 t232 t233)))=some (r1,r2,r3,r4):=H
  have A13:=za.mk A130
  clear A130
  by_cases c14:t237=true
  ·subst c14
   replace H:(zak.j0 k true s0_0 t238 t239 a1_0 a1_1 a1_2 a1_3 a1_4 t232 t233)=some (r1,r2,r3,r4):=by rw [if_pos rfl] at H;exact H
   have H':=za.mk H
   clear H
   go_wp2_with (first|((with_reducible refine zQ (f:=62) rfl ?_);refine zaZ (some 10) rfl rfl Tryz.func62 (by kernel_rfl) rfl #[.pointer (some ⟨g,0,none⟩),.int .i64 4] rfl (by (try simp only [List.map_toArray,List.map_cons,List.map_nil]);first|done|rfl) ?_;(with_reducible refine (zax.calls g s0_0 t234 t235 4 true t238 t239 w0 _ ?side1 ?side2 A13.out).mono ?_);(case side1=>repeat (with_reducible first|exact HI0.out|apply zf.alloc|apply zf.drewN|refine zf.far ?_ NB0_230.out _|refine zf.far ?_ NB0_231.out _|refine zf.far ?_ NB0_236.out _));(case side2=>repeat (with_reducible first|exact HB.out|apply zm|apply zk|refine zh ?_ (zf.ge HI0.out)|refine zh ?_ GE230.out|refine zh ?_ GE231.out|refine zh ?_ GE236.out));rintro e w15 ⟨rfl,hi,hb,hk⟩;refine ⟨_,rfl,?_⟩;have n0_:=za.mk (zl.blk hk (g':=gb230) (o:= .cells #[.int .i64 a1_0,.int .i64 a1_1,.int .i64 a1_2,.int .i64 a1_3,.int .i64 a1_4] 25 (0,0)) (by refine zal ?_ NB230_236.out _;refine zal ?_ NB230_236.out _;exact BK230.out) NB230_0.out (by simp));have n1_:=za.mk (zl.blk hk (g':=gb231) (o:= .cells #[.int .i64 0,.int .i64 0] 27 (0,0)) (by refine zal ?_ NB231_236.out _;refine zal ?_ NB231_236.out _;exact BK231.out) NB231_0.out (by simp));have n2_:=za.mk (zl.blk hk (g':=gb236) (o:= .cells #[.int .i64 t232,.int .i64 t233] 27 (0,0)) (by refine zaq (cs:=#[.int .i64 t232,.int .i64 0]) ?_ 1 _ rfl;refine zaq (cs:=#[.int .i64 0,.int .i64 0]) ?_ 0 _ rfl;exact BK236.out) NB236_0.out (by simp));have n3_:=za.mk (zl.trans (by repeat (with_reducible first|exact HK.out|apply zl.set_|apply zu|apply zw|refine zF ?_ GW230.out _|refine zF ?_ GW231.out _|refine zF ?_ GW236.out _)) hk (.inl rfl));have n4_:=za.mk (hb);have n5_:=za.mk (hi);clear BK230;clear BK231;clear BK236;clear HK;clear HB;clear HI0;have BK230:=n0_;have BK231:=n1_;have BK236:=n2_;have HK:=n3_;have HB:=n4_;have HI0:=n5_;clear n0_ n1_ n2_ n3_ n4_ n5_;(try clear hb);(try clear hb2);(try clear hk);(try clear hi)))
   go_meet
   case rel=>exact ⟨_,(true),(t238),(t239),(by first|rfl|(simp;done)|(simp [*];done)),H',⟨by first|omega|exact Nat.le_refl _⟩,⟨by exact BK230.out⟩,⟨by exact BK231.out⟩,⟨by exact BK236.out⟩,⟨by repeat (with_reducible first|exact HI0.out|apply zf.alloc|apply zf.drewN|refine zf.far ?_ NB0_230.out _|refine zf.far ?_ NB0_231.out _|refine zf.far ?_ NB0_236.out _)⟩,⟨by repeat (with_reducible first|exact HK.out|apply zl.set_|apply zu|apply zw|refine zF ?_ GW230.out _|refine zF ?_ GW231.out _|refine zF ?_ GW236.out _)⟩,⟨by repeat (with_reducible first|exact HB.out|apply zm|apply zk|refine zh ?_ (zf.ge HI0.out)|refine zh ?_ GE230.out|refine zh ?_ GE231.out|refine zh ?_ GE236.out)⟩⟩
  ·replace c14:=Bool.eq_false_iff.mpr c14
   subst c14
   replace H:((zbX.f t232 t233).bind fun t240=>(zak.j0 k (!t240) s0_0 t238 t239 a1_0 a1_1 a1_2 a1_3 a1_4 t232 t233))=some (r1,r2,r3,r4):=by rw [if_neg (show ¬(false=true) by decide)] at H;exact H
   obtain ⟨t240,A160,H⟩:=Option.bind_eq_some_iff.mp H
   replace H:(zak.j0 k (!t240) s0_0 t238 t239 a1_0 a1_1 a1_2 a1_3 a1_4 t232 t233)=some (r1,r2,r3,r4):=H
   have A16:=za.mk A160
   clear A160
   have H':=za.mk H
   clear H
   go_wp2_with (first|((with_reducible refine zQ (f:=62) rfl ?_);refine zaZ (some 10) rfl rfl Tryz.func62 (by kernel_rfl) rfl #[.pointer (some ⟨g,0,none⟩),.int .i64 4] rfl (by (try simp only [List.map_toArray,List.map_cons,List.map_nil]);first|done|rfl) ?_;(with_reducible refine (zax.calls g s0_0 t234 t235 4 false t238 t239 w0 _ ?side1 ?side2 A13.out).mono ?_);(case side1=>repeat (with_reducible first|exact HI0.out|apply zf.alloc|apply zf.drewN|refine zf.far ?_ NB0_230.out _|refine zf.far ?_ NB0_231.out _|refine zf.far ?_ NB0_236.out _));(case side2=>repeat (with_reducible first|exact HB.out|apply zm|apply zk|refine zh ?_ (zf.ge HI0.out)|refine zh ?_ GE230.out|refine zh ?_ GE231.out|refine zh ?_ GE236.out));rintro e w17 ⟨rfl,hi,hb,hk⟩;refine ⟨_,rfl,?_⟩;have n0_:=za.mk (zl.blk hk (g':=gb230) (o:= .cells #[.int .i64 a1_0,.int .i64 a1_1,.int .i64 a1_2,.int .i64 a1_3,.int .i64 a1_4] 25 (0,0)) (by refine zal ?_ NB230_236.out _;refine zal ?_ NB230_236.out _;exact BK230.out) NB230_0.out (by simp));have n1_:=za.mk (zl.blk hk (g':=gb231) (o:= .cells #[.int .i64 0,.int .i64 0] 27 (0,0)) (by refine zal ?_ NB231_236.out _;refine zal ?_ NB231_236.out _;exact BK231.out) NB231_0.out (by simp));have n2_:=za.mk (zl.blk hk (g':=gb236) (o:= .cells #[.int .i64 t232,.int .i64 t233] 27 (0,0)) (by refine zaq (cs:=#[.int .i64 t232,.int .i64 0]) ?_ 1 _ rfl;refine zaq (cs:=#[.int .i64 0,.int .i64 0]) ?_ 0 _ rfl;exact BK236.out) NB236_0.out (by simp));have n3_:=za.mk (zl.trans (by repeat (with_reducible first|exact HK.out|apply zl.set_|apply zu|apply zw|refine zF ?_ GW230.out _|refine zF ?_ GW231.out _|refine zF ?_ GW236.out _)) hk (.inl rfl));have n4_:=za.mk (hb);have n5_:=za.mk (hi);clear BK230;clear BK231;clear BK236;clear HK;clear HB;clear HI0;have BK230:=n0_;have BK231:=n1_;have BK236:=n2_;have HK:=n3_;have HB:=n4_;have HI0:=n5_;clear n0_ n1_ n2_ n3_ n4_ n5_;(try clear hb);(try clear hb2);(try clear hk);(try clear hi);have hnb18:=NB236_230.out;have hnc18:=NB230_236.out;have hnb19:=NB236_231.out;have hnc19:=NB231_236.out;have hnb20:=NB236_0.out;have hnc20:=NB0_236.out;have hcz21_0:w17.cell? ⟨gb236,0,none⟩=some (.int .i64 t232):=(zq BK236.out 0).trans rfl;have hcz21_1:w17.cell? ⟨gb236,1,none⟩=some (.int .i64 t233):=(zq BK236.out 1).trans rfl;have hfz21_0:=zn BK236.out 0;have hfz21_1:=zn BK236.out 1)|(go_at_call 22;(with_reducible refine (zbX.calls t232 t233 t240 _ A16.out).mono ?_);rintro e w22 ⟨rfl,hb⟩;have n0_:=za.mk (zf.below (by repeat (with_reducible first|exact HI0.out|apply zf.alloc|apply zf.drewN|refine zf.far ?_ NB0_230.out _|refine zf.far ?_ NB0_231.out _|refine zf.far ?_ NB0_236.out _)) hb);have n1_:=za.mk (zaC (g:=gb230) (o:= .cells #[.int .i64 a1_0,.int .i64 a1_1,.int .i64 a1_2,.int .i64 a1_3,.int .i64 a1_4] 25 (0,0)) (by exact BK230.out) hb);have n2_:=za.mk (zaC (g:=gb231) (o:= .cells #[.int .i64 0,.int .i64 0] 27 (0,0)) (by exact BK231.out) hb);have n3_:=za.mk (zaC (g:=gb236) (o:= .cells #[.int .i64 t232,.int .i64 t233] 27 (0,0)) (by exact BK236.out) hb);have n4_:=za.mk (zl.trans (by repeat (with_reducible first|exact HK.out|apply zl.set_|apply zu|apply zw|refine zF ?_ GW230.out _|refine zF ?_ GW231.out _|refine zF ?_ GW236.out _)) (zl.of_below hb g none) (.inl rfl));have n5_:=za.mk (zaF (by repeat (with_reducible first|exact HB.out|apply zm|apply zk|refine zh ?_ (zf.ge HI0.out)|refine zh ?_ GE230.out|refine zh ?_ GE231.out|refine zh ?_ GE236.out)) hb);clear HI0;clear BK230;clear BK231;clear BK236;clear HK;clear HB;have HI0:=n0_;have BK230:=n1_;have BK231:=n2_;have BK236:=n3_;have HK:=n4_;have HB:=n5_;clear n0_ n1_ n2_ n3_ n4_ n5_;(try clear hb);(try clear hb2);(try clear hk);(try clear hi)))
   go_meet
   case rel=>exact ⟨_,(!t240),(t238),(t239),(by first|rfl|(simp;done)|(simp [*];done)),H',⟨by first|omega|exact Nat.le_refl _⟩,⟨by exact BK230.out⟩,⟨by exact BK231.out⟩,⟨by exact BK236.out⟩,⟨by repeat (with_reducible first|exact HI0.out|apply zf.alloc|apply zf.drewN|refine zf.far ?_ NB0_230.out _|refine zf.far ?_ NB0_231.out _|refine zf.far ?_ NB0_236.out _)⟩,⟨by repeat (with_reducible first|exact HK.out|apply zl.set_|apply zu|apply zw|refine zF ?_ GW230.out _|refine zF ?_ GW231.out _|refine zF ?_ GW236.out _)⟩,⟨by repeat (with_reducible first|exact HB.out|apply zm|apply zk|refine zh ?_ (zf.ge HI0.out)|refine zh ?_ GE230.out|refine zh ?_ GE231.out|refine zh ?_ GE236.out)⟩⟩
 case rest=>
  clear HC4
  obtain ⟨kq,x15_3,x1001_3,x1002_3,rfl,HA,HJ3,BK230,BK231,BK236,HI0,HK,HB⟩:=hcut
  cases kq with
  | zero=>exact absurd HA.out (by simp [zak.j0])
  | succ kj3=>
   have H:=HA.out
   clear HA
   simp only [zak.j0] at H
   by_cases c23:x15_3=true
   ·subst c23
    replace H:(some (t232,t233,x1001_3,x1002_3))=some (r1,r2,r3,r4):=by rw [if_pos rfl] at H;exact H
    simp only [Option.some.injEq,Prod.mk.injEq] at H
    obtain ⟨rfl,rfl,rfl,rfl⟩:=H
    have hnb24:=NB236_230.out
    have hnc24:=NB230_236.out
    have hnb25:=NB236_231.out
    have hnc25:=NB231_236.out
    have hnb26:=NB236_0.out
    have hnc26:=NB0_236.out
    have hcz27_0:wc.cell? ⟨gb236,0,none⟩=some (.int .i64 t232):=(zq BK236.out 0).trans rfl
    have hcz27_1:wc.cell? ⟨gb236,1,none⟩=some (.int .i64 t233):=(zq BK236.out 1).trans rfl
    have hfz27_0:=zn BK236.out 0
    have hfz27_1:=zn BK236.out 1
    have hnb28:=NB231_230.out
    have hnc28:=NB230_231.out
    have hnb29:=NB231_0.out
    have hnc29:=NB0_231.out
    have hcz30_0:wc.cell? ⟨gb231,0,none⟩=some (.int .i64 0):=(zq BK231.out 0).trans rfl
    have hcz30_1:wc.cell? ⟨gb231,1,none⟩=some (.int .i64 0):=(zq BK231.out 1).trans rfl
    have hfz30_0:=zn BK231.out 0
    have hfz30_1:=zn BK231.out 1
    go_wp2
    refine bodyPost_ret (results_cell_row rfl _ _ gb231 27 #[.int .i64 t232,.int .i64 t233] (0,0) _ rfl (by refine zaq (cs:=#[.int .i64 t232,.int .i64 0]) ?_ 1 _ rfl;refine zaq (cs:=#[.int .i64 0,.int .i64 0]) ?_ 0 _ rfl;exact BK231.out) Tryz.underlying27 rfl (by kernel_rfl)) rfl ?_
    exact ⟨by first|rfl|(simp [*]<;>rfl),by repeat (with_reducible first|exact HI0.out|apply zf.alloc|apply zf.drewN|refine zf.far ?_ NB0_230.out _|refine zf.far ?_ NB0_231.out _|refine zf.far ?_ NB0_236.out _),by repeat (with_reducible first|exact HB.out|apply zm|apply zk|refine zh ?_ (zf.ge HI0.out)|refine zh ?_ GE230.out|refine zh ?_ GE231.out|refine zh ?_ GE236.out),by repeat (with_reducible first|exact HK.out|apply zl.set_|apply zu|apply zw|refine zF ?_ GW230.out _|refine zF ?_ GW231.out _|refine zF ?_ GW236.out _)⟩
   ·replace c23:=Bool.eq_false_iff.mpr c23
    subst c23
    replace H:((zfo.f a1_0).bind fun t241=>(if t241=3 then none else (zak.j1 kj3 a1_1 s0_0 x1001_3 x1002_3 a1_0 a1_1 a1_2 a1_3 a1_4)))=some (r1,r2,r3,r4):=by rw [if_neg (show ¬(false=true) by decide)] at H;exact H
    obtain ⟨t241,A310,H⟩:=Option.bind_eq_some_iff.mp H
    replace H:(if t241=3 then none else (zak.j1 kj3 a1_1 s0_0 x1001_3 x1002_3 a1_0 a1_1 a1_2 a1_3 a1_4))=some (r1,r2,r3,r4):=H
    have A31:=za.mk A310
    clear A310
    have HC32:=za.mk H
    clear H
    have hnb33:=NB230_231.out
    have hnc33:=NB231_230.out
    have hnb34:=NB230_236.out
    have hnc34:=NB236_230.out
    have hnb35:=NB230_0.out
    have hnc35:=NB0_230.out
    have hcz36_0:wc.cell? ⟨gb230,0,none⟩=some (.int .i64 a1_0):=(zq BK230.out 0).trans rfl
    have hcz36_1:wc.cell? ⟨gb230,1,none⟩=some (.int .i64 a1_1):=(zq BK230.out 1).trans rfl
    have hcz36_2:wc.cell? ⟨gb230,2,none⟩=some (.int .i64 a1_2):=(zq BK230.out 2).trans rfl
    have hcz36_3:wc.cell? ⟨gb230,3,none⟩=some (.int .i64 a1_3):=(zq BK230.out 3).trans rfl
    have hcz36_4:wc.cell? ⟨gb230,4,none⟩=some (.int .i64 a1_4):=(zq BK230.out 4).trans rfl
    have hfz36_0:=zn BK230.out 0
    have hfz36_1:=zn BK230.out 1
    have hfz36_2:=zn BK230.out 2
    have hfz36_3:=zn BK230.out 3
    have hfz36_4:=zn BK230.out 4
    go_upto_if 22 with (first|((with_reducible refine zQ (f:=66) rfl ?_);refine zaZ (some 21) rfl rfl Tryz.func66 (by kernel_rfl) rfl #[.int .i64 a1_0] rfl (by (try simp only [List.map_toArray,List.map_cons,List.map_nil]);first|done|rfl) ?_;(with_reducible refine (zfo.calls a1_0 t241 _ A31.out).mono ?_);rintro e w' ⟨rfl,⟨nd,rfl⟩⟩;refine ⟨_,rfl,?_⟩))
    (try simp only [Act.put,List.setIfInBounds_toArray,List.set_cons_zero,List.set_cons_succ])
    go_cut [6] (fun v6 wc=>∃(kq:Nat) (x6_31:Int),v6= .int .i64 x6_31/\za (zak.j1 kq x6_31 s0_0 x1001_3 x1002_3 a1_0 a1_1 a1_2 a1_3 a1_4=some (r1,r2,r3,r4))/\za (kq<=kj3)/\za (wc.heap[gb230]?=some (.cells #[.int .i64 a1_0,.int .i64 a1_1,.int .i64 a1_2,.int .i64 a1_3,.int .i64 a1_4] 25 (0,0)))/\za (wc.heap[gb231]?=some (.cells #[.int .i64 0,.int .i64 0] 27 (0,0)))/\za (wc.heap[gb236]?=some (.cells #[.int .i64 t232,.int .i64 t233] 27 (0,0)))/\za (zf w0 wc g s0_0 x1001_3 x1002_3)/\za (zl w wc g none)/\za (Below w0.heap.size w0 wc))
    case first=>
     have H:=HC32.out
     clear HC32
     by_cases c37:t241=3
     ·exact absurd H (by simp [c37])
     ·rw [if_neg c37] at H
      have c37b0:(t241==3)=false:=beq_eq_false_iff_ne.mpr c37
      have c37b1:(t241 != 3)=true:=bne_iff_ne.mpr c37
      (first|rw [c37b0]|(simp only [zj6,zj7];rw [c37b0])|skip)
      have H':=za.mk H
      clear H
      go_wp2
      go_meet
      case rel=>exact ⟨_,(a1_1),(by first|rfl|(simp;done)|(simp [*];done)),H',⟨by have:=HJ3.out;first|omega|exact Nat.le_refl _⟩,⟨by exact BK230.out⟩,⟨by exact BK231.out⟩,⟨by exact BK236.out⟩,⟨by repeat (with_reducible first|exact HI0.out|apply zf.alloc|apply zf.drewN|refine zf.far ?_ NB0_230.out _|refine zf.far ?_ NB0_231.out _|refine zf.far ?_ NB0_236.out _)⟩,⟨by repeat (with_reducible first|exact HK.out|apply zl.set_|apply zu|apply zw|refine zF ?_ GW230.out _|refine zF ?_ GW231.out _|refine zF ?_ GW236.out _)⟩,⟨by repeat (with_reducible first|exact HB.out|apply zm|apply zk|refine zh ?_ (zf.ge HI0.out)|refine zh ?_ GE230.out|refine zh ?_ GE231.out|refine zh ?_ GE236.out)⟩⟩
    case rest=>
     clear HC32
     obtain ⟨kq,x6_31,rfl,HA,HJ31,BK230,BK231,BK236,HI0,HK,HB⟩:=hcut
     cases kq with
     | zero=>exact absurd HA.out (by simp [zak.j1])
     | succ kj31=>
      have H:=HA.out
      clear HA
      simp only [zak.j1] at H
      obtain ⟨⟨t242,t243,t244⟩,A420,H⟩:=Option.bind_eq_some_iff.mp H
      replace H:((zhf.f (wrap64 (x6_31+(wrap64 ((wrap64 (t242-40))*10000000)))) 900000000).bind fun t245=>((zfT.f (-900000000) t245).bind fun t246=>((zJ.f s0_0 t243 t244 161).bind fun bt247=>((zbi.f (wrap64 (a1_2+(wrap64 ((wrap64 (bt247.1-80))*10000000))))).bind fun t250=>(some (t246,t250,bt247.2.1,bt247.2.2))))))=some (r1,r2,r3,r4):=H
      have A42:=za.mk A420
      clear A420
      obtain ⟨t245,A430,H⟩:=Option.bind_eq_some_iff.mp H
      replace H:((zfT.f (-900000000) t245).bind fun t246=>((zJ.f s0_0 t243 t244 161).bind fun bt247=>((zbi.f (wrap64 (a1_2+(wrap64 ((wrap64 (bt247.1-80))*10000000))))).bind fun t250=>(some (t246,t250,bt247.2.1,bt247.2.2)))))=some (r1,r2,r3,r4):=H
      have A43:=za.mk A430
      clear A430
      obtain ⟨t246,A440,H⟩:=Option.bind_eq_some_iff.mp H
      replace H:((zJ.f s0_0 t243 t244 161).bind fun bt247=>((zbi.f (wrap64 (a1_2+(wrap64 ((wrap64 (bt247.1-80))*10000000))))).bind fun t250=>(some (t246,t250,bt247.2.1,bt247.2.2))))=some (r1,r2,r3,r4):=H
      have A44:=za.mk A440
      clear A440
      obtain ⟨⟨t247,t248,t249⟩,A450,H⟩:=Option.bind_eq_some_iff.mp H
      replace H:((zbi.f (wrap64 (a1_2+(wrap64 ((wrap64 (t247-80))*10000000))))).bind fun t250=>(some (t246,t250,t248,t249)))=some (r1,r2,r3,r4):=H
      have A45:=za.mk A450
      clear A450
      obtain ⟨t250,A460,H⟩:=Option.bind_eq_some_iff.mp H
      replace H:(some (t246,t250,t248,t249))=some (r1,r2,r3,r4):=H
      have A46:=za.mk A460
      clear A460
      simp only [Option.some.injEq,Prod.mk.injEq] at H
      obtain ⟨rfl,rfl,rfl,rfl⟩:=H
      try go_wp2_with (first|((with_reducible refine zQ (f:=19) rfl ?_);refine zaZ (some 27) rfl rfl Tryz.func19 (by kernel_rfl) rfl #[.pointer (some ⟨g,0,none⟩),.int .i64 81] rfl (by (try simp only [List.map_toArray,List.map_cons,List.map_nil]);first|done|rfl) ?_;(with_reducible refine (zJ.calls g s0_0 x1001_3 x1002_3 81 t242 t243 t244 w0 _ ?side1 ?side2 A42.out).mono ?_);(case side1=>repeat (with_reducible first|exact HI0.out|apply zf.alloc|apply zf.drewN|refine zf.far ?_ NB0_230.out _|refine zf.far ?_ NB0_231.out _|refine zf.far ?_ NB0_236.out _));(case side2=>repeat (with_reducible first|exact HB.out|apply zm|apply zk|refine zh ?_ (zf.ge HI0.out)|refine zh ?_ GE230.out|refine zh ?_ GE231.out|refine zh ?_ GE236.out));rintro e w47 ⟨rfl,hi,hb,hk⟩;refine ⟨_,rfl,?_⟩;have n0_:=za.mk (zl.blk hk (g':=gb230) (o:= .cells #[.int .i64 a1_0,.int .i64 a1_1,.int .i64 a1_2,.int .i64 a1_3,.int .i64 a1_4] 25 (0,0)) (by exact BK230.out) NB230_0.out (by simp));have n1_:=za.mk (zl.blk hk (g':=gb231) (o:= .cells #[.int .i64 0,.int .i64 0] 27 (0,0)) (by exact BK231.out) NB231_0.out (by simp));have n2_:=za.mk (zl.blk hk (g':=gb236) (o:= .cells #[.int .i64 t232,.int .i64 t233] 27 (0,0)) (by exact BK236.out) NB236_0.out (by simp));have n3_:=za.mk (zl.trans (by repeat (with_reducible first|exact HK.out|apply zl.set_|apply zu|apply zw|refine zF ?_ GW230.out _|refine zF ?_ GW231.out _|refine zF ?_ GW236.out _)) hk (.inl rfl));have n4_:=za.mk (hb);have n5_:=za.mk (hi);clear BK230;clear BK231;clear BK236;clear HK;clear HB;clear HI0;have BK230:=n0_;have BK231:=n1_;have BK236:=n2_;have HK:=n3_;have HB:=n4_;have HI0:=n5_;clear n0_ n1_ n2_ n3_ n4_ n5_;(try clear hb);(try clear hb2);(try clear hk);(try clear hi)))
      have n0_:=za.mk (zhO BK230.out)
      have n1_:=za.mk (zhO BK231.out)
      have n2_:=za.mk (zhO BK236.out)
      have n3_:=za.mk (zf.drew HI0.out)
      have n4_:=za.mk (zC6 HK.out)
      have n5_:=za.mk (zbL HB.out)
      clear BK230
      clear BK231
      clear BK236
      clear HI0
      clear HK
      clear HB
      have BK230:=n0_
      have BK231:=n1_
      have BK236:=n2_
      have HI0:=n3_
      have HK:=n4_
      have HB:=n5_
      clear n0_ n1_ n2_ n3_ n4_ n5_
      refine zBZ (n:=13) (S:=fun w'=>w'.cell? ⟨gb230,0,none⟩=some (.int .i64 a1_0)/\w'.cell? ⟨gb230,1,none⟩=some (.int .i64 a1_1)/\w'.cell? ⟨gb230,2,none⟩=some (.int .i64 a1_2)/\w'.cell? ⟨gb230,3,none⟩=some (.int .i64 a1_3)/\w'.cell? ⟨gb230,4,none⟩=some (.int .i64 a1_4)) (ds:= []) #[false,false,false,false,false,false,false,false,false,false,false,false,false] (by kernel_rfl) rfl rfl ⟨(zq BK230.out 0).trans rfl,(zq BK230.out 1).trans rfl,(zq BK230.out 2).trans rfl,(zq BK230.out 3).trans rfl,(zq BK230.out 4).trans rfl⟩ (fun hHeld=>?_);refine zBH zak.tab8 zak.bits8 (fun HT_ HW_=>?_)
      generalize w47.drew=w48 at BK230 BK231 BK236 HI0 HK HB hHeld ⊢
      refine zyN (i:=0) (N:=some 31) (v:=?_) (a':=?_) #[true,false,false,false,false,false,false,false,false,false,false,false,false] rfl rfl (zsf HT_.out (by kernel_rfl)) (fun _ _ _ h=>h) (Or.inl ⟨by rfl,?_⟩) ?_ ?_
      rotate_left
      ·intro w'
       go_simp
       with_reducible rfl
      rotate_left
      ·simp only [Act.put,List.setIfInBounds_toArray,List.set_cons_zero,List.set_cons_succ,zj6,zj7]
       rfl
      refine zyN (i:=3) (N:=some 34) (v:=?_) (a':=?_) #[true,false,false,true,false,false,false,false,false,false,false,false,false] rfl rfl (zsf HT_.out (by kernel_rfl)) (fun _ _ _ h=>h) (Or.inl ⟨by rfl,?_⟩) ?_ ?_
      rotate_left
      ·intro w'
       go_simp
       with_reducible rfl
      rotate_left
      ·simp only [Act.put,List.setIfInBounds_toArray,List.set_cons_zero,List.set_cons_succ,zj6,zj7]
       rfl
      refine zyN (i:=5) (N:=some 36) (v:=?_) (a':=?_) #[true,false,false,true,false,true,false,false,false,false,false,false,false] rfl rfl (zsf HT_.out (by kernel_rfl)) (fun _ _ _ h=>h) (Or.inl ⟨by rfl,?_⟩) ?_ ?_
      rotate_left
      ·intro w'
       go_simp
       with_reducible rfl
      rotate_left
      ·simp only [Act.put,List.setIfInBounds_toArray,List.set_cons_zero,List.set_cons_succ,zj6,zj7]
       rfl
      refine zBX (i:=4) (N:=some 35) (v:=?_) (a':=?_) #[true,false,false,true,true,true,false,false,false,false,false,false,false] rfl rfl (zEv HT_.out HW_.out (by kernel_rfl)) (fun _ _ _ h=>h) (Or.inl ⟨by rfl,?_⟩) hHeld ?_ ?_
      rotate_left
      ·rintro w' ⟨s0,s1,s2,s3,s4⟩
       go_simp
       with_reducible rfl
      rotate_left
      ·simp only [Act.put,List.setIfInBounds_toArray,List.set_cons_zero,List.set_cons_succ,zj6,zj7]
       rfl
      refine one_ (i:=1) (N:=some 32) #[true,true,false,true,true,true,false,false,false,false,false,false,false] rfl rfl (zxb HT_.out (by kernel_rfl)) (by decide) (fun K hK=>?_)
      refine zFf Tryz.func58 (by kernel_rfl) rfl #[.int .i64 (wrap64 (x6_31+(wrap64 ((wrap64 (t242-40))*10000000)))),.int .i64 900000000] (by rfl) rfl rfl (by (try simp only [List.map_toArray,List.map_cons,List.map_nil]);first|done|rfl) ?_
      with_reducible refine (zhf.calls (wrap64 (x6_31+(wrap64 ((wrap64 (t242-40))*10000000)))) 900000000 t245 _ A43.out).mono ?_
      rintro e w' ⟨rfl,⟨nd,rfl⟩⟩
      refine ⟨_,rfl,?_⟩
      refine hK.out _ _ ⟨(zq BK230.out 0).trans rfl,(zq BK230.out 1).trans rfl,(zq BK230.out 2).trans rfl,(zq BK230.out 3).trans rfl,(zq BK230.out 4).trans rfl⟩ (fun hHeld=>?_)
      clear hK K
      refine zEX (a':=?_) ?_ ?_
      rotate_left
      ·show Act.put _ (some 32) _=_
       simp only [Act.put,List.setIfInBounds_toArray,List.set_cons_zero,List.set_cons_succ,zj6,zj7]
       rfl
      refine one_ (i:=2) (N:=some 33) #[true,true,true,true,true,true,false,false,false,false,false,false,false] rfl rfl (zxb HT_.out (by kernel_rfl)) (by decide) (fun K hK=>?_)
      refine zFf Tryz.func59 (by kernel_rfl) rfl #[.int .i64 (-900000000),.int .i64 t245] (by rfl) rfl rfl (by (try simp only [List.map_toArray,List.map_cons,List.map_nil]);first|done|rfl) ?_
      with_reducible refine (zfT.calls (-900000000) t245 t246 _ A44.out).mono ?_
      rintro e w' ⟨rfl,⟨nd,rfl⟩⟩
      refine ⟨_,rfl,?_⟩
      refine hK.out _ _ ⟨(zq BK230.out 0).trans rfl,(zq BK230.out 1).trans rfl,(zq BK230.out 2).trans rfl,(zq BK230.out 3).trans rfl,(zq BK230.out 4).trans rfl⟩ (fun hHeld=>?_)
      clear hK K
      refine zEX (a':=?_) ?_ ?_
      rotate_left
      ·show Act.put _ (some 33) _=_
       simp only [Act.put,List.setIfInBounds_toArray,List.set_cons_zero,List.set_cons_succ,zj6,zj7]
       rfl
      refine one_ (i:=6) (N:=some 37) #[true,true,true,true,true,true,true,false,false,false,false,false,false] rfl rfl (zxb HT_.out (by kernel_rfl)) (by decide) (fun K hK=>?_)
      refine zFf Tryz.func19 (by kernel_rfl) rfl #[.pointer (some ⟨g,0,none⟩),.int .i64 161] (by rfl) rfl rfl (by (try simp only [List.map_toArray,List.map_cons,List.map_nil]);first|done|rfl) ?_
      with_reducible refine (zJ.calls g s0_0 t243 t244 161 t247 t248 t249 w0 _ ?side1 ?side2 A45.out).mono ?_
      (case side1=>repeat (with_reducible first|exact HI0.out|apply zf.alloc|apply zf.drewN|refine zf.far ?_ NB0_230.out _|refine zf.far ?_ NB0_231.out _|refine zf.far ?_ NB0_236.out _))
      (case side2=>repeat (with_reducible first|exact HB.out|apply zm|apply zk|refine zh ?_ (zf.ge HI0.out)|refine zh ?_ GE230.out|refine zh ?_ GE231.out|refine zh ?_ GE236.out))
      rintro e w49 ⟨rfl,hi,hb,hk⟩
      refine ⟨_,rfl,?_⟩
      have n0_:=za.mk (zl.blk hk (g':=gb230) (o:= .cells #[.int .i64 a1_0,.int .i64 a1_1,.int .i64 a1_2,.int .i64 a1_3,.int .i64 a1_4] 25 (0,0)) (by exact BK230.out) NB230_0.out (by simp))
      have n1_:=za.mk (zl.blk hk (g':=gb231) (o:= .cells #[.int .i64 0,.int .i64 0] 27 (0,0)) (by exact BK231.out) NB231_0.out (by simp))
      have n2_:=za.mk (zl.blk hk (g':=gb236) (o:= .cells #[.int .i64 t232,.int .i64 t233] 27 (0,0)) (by exact BK236.out) NB236_0.out (by simp))
      have n3_:=za.mk (zl.trans (by repeat (with_reducible first|exact HK.out|apply zl.set_|apply zu|apply zw|refine zF ?_ GW230.out _|refine zF ?_ GW231.out _|refine zF ?_ GW236.out _)) hk (.inl rfl))
      have n4_:=za.mk (hb)
      have n5_:=za.mk (hi)
      clear BK230
      clear BK231
      clear BK236
      clear HK
      clear HB
      clear HI0
      have BK230:=n0_
      have BK231:=n1_
      have BK236:=n2_
      have HK:=n3_
      have HB:=n4_
      have HI0:=n5_
      clear n0_ n1_ n2_ n3_ n4_ n5_
      (try clear hb)
      (try clear hb2)
      (try clear hk)
      (try clear hi)
      refine hK.out _ _ ⟨(zq BK230.out 0).trans rfl,(zq BK230.out 1).trans rfl,(zq BK230.out 2).trans rfl,(zq BK230.out 3).trans rfl,(zq BK230.out 4).trans rfl⟩ (fun hHeld=>?_)
      clear hK K
      refine zEX (a':=?_) ?_ ?_
      rotate_left
      ·show Act.put _ (some 37) _=_
       simp only [Act.put,List.setIfInBounds_toArray,List.set_cons_zero,List.set_cons_succ,zj6,zj7]
       rfl
      refine zyN (i:=7) (N:=some 38) (v:=?_) (a':=?_) #[true,true,true,true,true,true,true,true,false,false,false,false,false] rfl rfl (zsf HT_.out (by kernel_rfl)) (fun _ _ _ h=>h) (Or.inl ⟨by rfl,?_⟩) ?_ ?_
      rotate_left
      ·intro w'
       go_simp
       with_reducible rfl
      rotate_left
      ·simp only [Act.put,List.setIfInBounds_toArray,List.set_cons_zero,List.set_cons_succ,zj6,zj7]
       rfl
      refine zyN (i:=8) (N:=some 39) (v:=?_) (a':=?_) #[true,true,true,true,true,true,true,true,true,false,false,false,false] rfl rfl (zsf HT_.out (by kernel_rfl)) (fun _ _ _ h=>h) (Or.inl ⟨by rfl,?_⟩) ?_ ?_
      rotate_left
      ·intro w'
       go_simp
       with_reducible rfl
      rotate_left
      ·simp only [Act.put,List.setIfInBounds_toArray,List.set_cons_zero,List.set_cons_succ,zj6,zj7]
       rfl
      refine zyN (i:=9) (N:=some 40) (v:=?_) (a':=?_) #[true,true,true,true,true,true,true,true,true,true,false,false,false] rfl rfl (zsf HT_.out (by kernel_rfl)) (fun _ _ _ h=>h) (Or.inl ⟨by rfl,?_⟩) ?_ ?_
      rotate_left
      ·intro w'
       go_simp
       with_reducible rfl
      rotate_left
      ·simp only [Act.put,List.setIfInBounds_toArray,List.set_cons_zero,List.set_cons_succ,zj6,zj7]
       rfl
      refine one_ (i:=10) (N:=some 41) #[true,true,true,true,true,true,true,true,true,true,true,false,false] rfl rfl (zxb HT_.out (by kernel_rfl)) (by decide) (fun K hK=>?_)
      refine zFf Tryz.func52 (by kernel_rfl) rfl #[.int .i64 (wrap64 (a1_2+(wrap64 ((wrap64 (t247-80))*10000000))))] (by rfl) rfl rfl (by (try simp only [List.map_toArray,List.map_cons,List.map_nil]);first|done|rfl) ?_
      with_reducible refine (zbi.calls (wrap64 (a1_2+(wrap64 ((wrap64 (t247-80))*10000000)))) t250 _ A46.out).mono ?_
      rintro e w' ⟨rfl,⟨nd,rfl⟩⟩
      refine ⟨_,rfl,?_⟩
      refine hK.out _ _ ⟨(zq BK230.out 0).trans rfl,(zq BK230.out 1).trans rfl,(zq BK230.out 2).trans rfl,(zq BK230.out 3).trans rfl,(zq BK230.out 4).trans rfl⟩ (fun hHeld=>?_)
      clear hK K
      refine zEX (a':=?_) ?_ ?_
      rotate_left
      ·show Act.put _ (some 41) _=_
       simp only [Act.put,List.setIfInBounds_toArray,List.set_cons_zero,List.set_cons_succ,zj6,zj7]
       rfl
      refine zyN (i:=11) (N:=some 42) (v:=?_) (a':=?_) #[true,true,true,true,true,true,true,true,true,true,true,true,false] rfl rfl (zsf HT_.out (by kernel_rfl)) (fun _ _ _ h=>h) (Or.inl ⟨by rfl,?_⟩) ?_ ?_
      rotate_left
      ·intro w'
       go_simp
       with_reducible rfl
      rotate_left
      ·simp only [Act.put,List.setIfInBounds_toArray,List.set_cons_zero,List.set_cons_succ,zj6,zj7]
       rfl
      refine one_ (i:=12) (N:=none) #[true,true,true,true,true,true,true,true,true,true,true,true,true] rfl rfl (zxb HT_.out (by kernel_rfl)) (by decide) (fun K hK=>?_)
      have hs50:w49.cell? ⟨gb231,0,none⟩=some (.int .i64 0):=(zq BK231.out 0).trans rfl
      have hfs50:=zn BK231.out 0
      have hns50_0:=NB230_231.out
      have hns50_2:=NB236_231.out
      have hms50_0:=NB231_230.out
      have hms50_2:=NB231_236.out
      have hs51:w49.cell? ⟨gb231,1,none⟩=some (.int .i64 0):=(zq BK231.out 1).trans rfl
      have hfs51:=zn BK231.out 1
      have hns51_0:=NB230_231.out
      have hns51_2:=NB236_231.out
      have hms51_0:=NB231_230.out
      have hms51_2:=NB231_236.out
      refine zB4 (w1:=?_) (by rfl) rfl ?_ ?_
      rotate_left
      ·go_simp
       rfl
      refine hK.out _ _ ⟨((cell_far (p:=⟨gb231,_,none⟩) NB230_231.out _).trans (((cell_far (p:=⟨gb231,_,none⟩) NB230_231.out _).trans (hHeld.1)))),((cell_far (p:=⟨gb231,_,none⟩) NB230_231.out _).trans (((cell_far (p:=⟨gb231,_,none⟩) NB230_231.out _).trans (hHeld.2.1)))),((cell_far (p:=⟨gb231,_,none⟩) NB230_231.out _).trans (((cell_far (p:=⟨gb231,_,none⟩) NB230_231.out _).trans (hHeld.2.2.1)))),((cell_far (p:=⟨gb231,_,none⟩) NB230_231.out _).trans (((cell_far (p:=⟨gb231,_,none⟩) NB230_231.out _).trans (hHeld.2.2.2.1)))),((cell_far (p:=⟨gb231,_,none⟩) NB230_231.out _).trans (((cell_far (p:=⟨gb231,_,none⟩) NB230_231.out _).trans (hHeld.2.2.2.2))))⟩ (fun hHeld=>?_)
      clear hK K
      refine zHS (zHR HT_.out (by kernel_rfl)) ?_
      try go_wp2
      refine bodyPost_ret (results_cell_row rfl _ _ gb231 27 #[.int .i64 t246,.int .i64 t250] (0,0) _ rfl (by refine zaq (cs:=#[.int .i64 t246,.int .i64 0]) ?_ 1 _ rfl;refine zaq (cs:=#[.int .i64 0,.int .i64 0]) ?_ 0 _ rfl;exact BK231.out) Tryz.underlying27 rfl (by kernel_rfl)) rfl ?_
      exact ⟨by first|rfl|(simp [*]<;>rfl),by repeat (with_reducible first|exact HI0.out|apply zf.alloc|apply zf.drewN|refine zf.far ?_ NB0_230.out _|refine zf.far ?_ NB0_231.out _|refine zf.far ?_ NB0_236.out _),by repeat (with_reducible first|exact HB.out|apply zm|apply zk|refine zh ?_ (zf.ge HI0.out)|refine zh ?_ GE230.out|refine zh ?_ GE231.out|refine zh ?_ GE236.out),by repeat (with_reducible first|exact HK.out|apply zl.set_|apply zu|apply zw|refine zF ?_ GW230.out _|refine zF ?_ GW231.out _|refine zF ?_ GW236.out _)⟩
end Go.Proofs.YtkenfaengphiiaaGreatDoor.PFnCylinders
-- CUT
