/- The law FnCylinders gives true, whatever bytes come in, where the listed tables hold what the program's text lays. The card: the tables tied to the text. No other conditions. (One of the texts of its proof, put together by a program of this session.) -/
import Derived.KernelRfl
import Derived.Test.YtkenfaengphiiaaGreatDoorZX0
import Derived.Test.YtkenfaengphiiaaGreatDoorZX1
set_option linter.unusedSectionVars false
set_option linter.unusedSimpArgs false
set_option linter.unusedVariables false
namespace Go.Proofs.YtkenfaengphiiaaGreatDoor.PFnCylinders
open Go.RowKit Go.Proofs.YtkenfaengphiiaaGreatDoorW.PrintWords Go.Proofs.YtkenfaengphiiaaGreatDoorW.PrintLast Go.Proofs.YtkenfaengphiiaaGreatDoorW.PrintMore
mutual
def zau.j0:Nat->Int->Bool->List Int->Int->Int->Int->Int->Int->Int->Int->Option (Int×Int×Int×Int×Int×Int×Int)
 | 0,_,_,_,_,_,_,_,_,_,_=>none
 | k+1,x1,x11,x1000,x1001,x1002,x170000,x170001,x170002,x170003,x170004=>if x11=true then ((zJ.f x1000 x1001 x1002 161).bind fun bt170=>(some (x170000,x170001,x170002,wrap64 ((wrap64 (bt170.1-80))*10000000),x170004,bt170.2.1,bt170.2.2))) else ((zbd.f x1 5 9).bind fun t173=>(if t173=true then (zau.j1 k x1 true x1000 x1001 x1002 x170000 x170001 x170002 x170003 x170004) else (zau.j1 k x1 (x1==16) x1000 x1001 x1002 x170000 x170001 x170002 x170003 x170004)))
def zau.j1:Nat->Int->Bool->List Int->Int->Int->Int->Int->Int->Int->Int->Option (Int×Int×Int×Int×Int×Int×Int)
 | 0,_,_,_,_,_,_,_,_,_,_=>none
 | k+1,x1,x23,x1000,x1001,x1002,x170000,x170001,x170002,x170003,x170004=>if x23=true then none else ((zbd.f x1 10 12).bind fun t178=>(if t178=true then none else (some (x170000,x170001,x170002,x170003,x170004,x1001,x1002))))
end
def zau.f (k:Nat) (s0_0:List Int) (s0_1:Int) (s0_2:Int) (a1:Int):Option (Int×Int×Int×Int×Int×Int×Int):=(zby.f k s0_0 s0_1 s0_2).bind fun bt165=>(if a1=1 then (zau.j0 k a1 true s0_0 bt165.2.2.1 bt165.2.2.2 a1 0 bt165.2.1 0 0) else (zau.j0 k a1 (a1==3) s0_0 bt165.2.2.1 bt165.2.2.2 a1 0 bt165.2.1 0 0))
set_option maxHeartbeats 8000000 in
set_option maxRecDepth 100000 in
theorem zau.calls (k:Nat) (g:Nat) (s0_0:List Int) (s0_1:Int) (s0_2:Int) (a1:Int) (r1:Int) (r2:Int) (r3:Int) (r4:Int) (r5:Int) (r6:Int) (r7:Int) (w0 w:World) (hI:zf w0 w g s0_0 s0_1 s0_2) (hB:Below w0.heap.size w0 w) (h:zau.f k s0_0 s0_1 s0_2 a1=some (r1,r2,r3,r4,r5,r6,r7)):
  Calls Tryz.prog 18 #[.pointer (some ⟨g,0,none⟩),.int .i64 a1] w fun e w'=>e= .returned (.agg #[.int .i64 r1,.int .i64 r2,.int .i64 r3,.int .i64 r4,.int .i64 r5])/\zf w0 w' g s0_0 r6 r7/\Below w0.heap.size w0 w'/\zl w w' g none:=by
 have hu25:=Tryz.underlying25
 have hfd0:∀(x y:Int) (w:World),(Instr.field 27 (.agg #[.int .i64 x,.int .i64 y]) 0).run Tryz.prog w= .ok (.int .i64 x) w:=fun _ _ _=>by kernel_rfl
 have hfd1:∀(x y:Int) (w:World),(Instr.field 27 (.agg #[.int .i64 x,.int .i64 y]) 1).run Tryz.prog w= .ok (.int .i64 y) w:=fun _ _ _=>by kernel_rfl
 have HI0:=za.mk hI
 have HK:=za.mk (zl.refl w g none)
 have HL:=za.mk hB.size
 clear hI
 have HW0:=za.mk hB.size
 have HB:=za.mk hB
 clear hB
 have H:((zby.f k s0_0 s0_1 s0_2).bind fun bt165=>(if a1=1 then (zau.j0 k a1 true s0_0 bt165.2.2.1 bt165.2.2.2 a1 0 bt165.2.1 0 0) else (zau.j0 k a1 (a1==3) s0_0 bt165.2.2.1 bt165.2.2.2 a1 0 bt165.2.1 0 0)))=some (r1,r2,r3,r4,r5,r6,r7):=h
 clear h
 obtain ⟨⟨t165,t166,t167,t168⟩,A30,H⟩:=Option.bind_eq_some_iff.mp H
 replace H:(if a1=1 then (zau.j0 k a1 true s0_0 t167 t168 a1 0 t166 0 0) else (zau.j0 k a1 (a1==3) s0_0 t167 t168 a1 0 t166 0 0))=some (r1,r2,r3,r4,r5,r6,r7):=H
 have A3:=za.mk A30
 clear A30
 have HC4:=za.mk H
 clear H
 go_enter Tryz.func18,Tryz.ntmps18
 go_upto_region 2 with (first|((with_reducible refine zbw (N:=4) rfl ?_);refine zbz ?hg (N:=4) ?hd (cs:=#[.int .i64 0,.int .i64 0,.int .i64 0,.int .i64 0,.int .i64 0]) (t:=25) ?hr ?_;(case hd=>rfl);(case hg=>rfl);(case hr=>first|(go_simp;done)|(go_simp;rfl));intro gb164 hg w5 hbox hb;have n0_:=za.mk (zf.below (by repeat (with_reducible first|exact HI0.out|apply zf.alloc|apply zf.drewN|apply zf.drew)) hb);have n1_:=za.mk (zl.trans (by repeat (with_reducible first|exact HK.out|apply zl.set_|apply zu|apply zw)) (zl.of_below hb g none) (.inl rfl));have n2_:=za.mk (zaF (by repeat (with_reducible first|exact HB.out|apply zm|apply zk|refine zh ?_ (zf.ge HI0.out))) hb);have n3_:=za.mk (hbox);have n4_:=za.mk ((by rw [hg];exact (zaL (w:=w) (g:=g) (row:=none) (by repeat (with_reducible first|exact HK.out|apply zl.set_|apply zu|apply zw))):w.heap.size<=gb164));have n5_:=za.mk ((Nat.le_trans HW0.out (by rw [hg];exact (zaL (w:=w) (g:=g) (row:=none) (by repeat (with_reducible first|exact HK.out|apply zl.set_|apply zu|apply zw))):w.heap.size<=gb164):w0.heap.size<=gb164));have n6_:=za.mk ((by rw [hg];exact Nat.ne_of_lt (zf.lt (show zf w0 _ g s0_0 s0_1 s0_2 from by repeat (with_reducible first|exact HI0.out|apply zf.alloc|apply zf.drewN|apply zf.drew))):g≠gb164));have n7_:=za.mk ((by rw [hg];exact Nat.ne_of_gt (zf.lt (show zf w0 _ g s0_0 s0_1 s0_2 from by repeat (with_reducible first|exact HI0.out|apply zf.alloc|apply zf.drewN|apply zf.drew))):gb164≠g));clear HI0;clear HK;clear HB;have HI0:=n0_;have HK:=n1_;have HB:=n2_;have BK164:=n3_;have GW164:=n4_;have GE164:=n5_;have NB0_164:=n6_;have NB164_0:=n7_;clear n0_ n1_ n2_ n3_ n4_ n5_ n6_ n7_;clear hb hbox hg)|((with_reducible refine zQ (f:=23) rfl ?_);refine zaZ (some 8) rfl rfl Tryz.func23 (by kernel_rfl) rfl #[.pointer (some ⟨g,0,none⟩)] rfl (by (try simp only [List.map_toArray,List.map_cons,List.map_nil]);first|done|rfl) ?_;(with_reducible refine (zby.calls k g s0_0 s0_1 s0_2 t165 t166 t167 t168 w0 _ ?side1 ?side2 A3.out).mono ?_);(case side1=>repeat (with_reducible first|exact HI0.out|apply zf.alloc|apply zf.drewN|refine zf.far ?_ NB0_164.out _));(case side2=>repeat (with_reducible first|exact HB.out|apply zm|apply zk|refine zh ?_ (zf.ge HI0.out)|refine zh ?_ GE164.out));rintro e w6 ⟨rfl,hi,hb,hk⟩;refine ⟨_,rfl,?_⟩;have n0_:=za.mk (zl.blk hk (g':=gb164) (o:= .cells #[.int .i64 0,.int .i64 0,.int .i64 0,.int .i64 0,.int .i64 0] 25 (0,0)) (by exact BK164.out) NB164_0.out (by simp));have n1_:=za.mk (zl.trans (by repeat (with_reducible first|exact HK.out|apply zl.set_|apply zu|apply zw|refine zF ?_ GW164.out _)) hk (.inl rfl));have n2_:=za.mk (hb);have n3_:=za.mk (hi);clear BK164;clear HK;clear HB;clear HI0;have BK164:=n0_;have HK:=n1_;have HB:=n2_;have HI0:=n3_;clear n0_ n1_ n2_ n3_;(try clear hb);(try clear hb2);(try clear hk);(try clear hi))|((with_reducible refine zbw (N:=5) rfl ?_);refine zbz ?hg (N:=5) ?hd (cs:=#[.int .i64 0,.int .i64 0,.int .i64 0,.int .i64 0,.int .i64 0]) (t:=25) ?hr ?_;(case hd=>rfl);(case hg=>rfl);(case hr=>first|(go_simp;done)|(go_simp;rfl));intro gb169 hg w7 hbox hb;have n0_:=za.mk (zf.below (by repeat (with_reducible first|exact HI0.out|apply zf.alloc|apply zf.drewN|refine zf.far ?_ NB0_164.out _)) hb);have n1_:=za.mk (zaC (g:=gb164) (o:= .cells #[.int .i64 0,.int .i64 0,.int .i64 0,.int .i64 0,.int .i64 0] 25 (0,0)) (by exact BK164.out) hb);have n2_:=za.mk (zl.trans (by repeat (with_reducible first|exact HK.out|apply zl.set_|apply zu|apply zw|refine zF ?_ GW164.out _)) (zl.of_below hb g none) (.inl rfl));have n3_:=za.mk (zaF (by repeat (with_reducible first|exact HB.out|apply zm|apply zk|refine zh ?_ (zf.ge HI0.out)|refine zh ?_ GE164.out)) hb);have n4_:=za.mk (hbox);have n5_:=za.mk ((by rw [hg];exact (zaL (w:=w) (g:=g) (row:=none) (by repeat (with_reducible first|exact HK.out|apply zl.set_|apply zu|apply zw|refine zF ?_ GW164.out _))):w.heap.size<=gb169));have n6_:=za.mk ((Nat.le_trans HW0.out (by rw [hg];exact (zaL (w:=w) (g:=g) (row:=none) (by repeat (with_reducible first|exact HK.out|apply zl.set_|apply zu|apply zw|refine zF ?_ GW164.out _))):w.heap.size<=gb169):w0.heap.size<=gb169));have n7_:=za.mk ((by rw [hg];exact Nat.ne_of_lt (zco (g:=gb164) (o:= .cells #[.int .i64 0,.int .i64 0,.int .i64 0,.int .i64 0,.int .i64 0] 25 (0,0)) (by exact BK164.out)):gb164≠gb169));have n8_:=za.mk ((by rw [hg];exact Nat.ne_of_gt (zco (g:=gb164) (o:= .cells #[.int .i64 0,.int .i64 0,.int .i64 0,.int .i64 0,.int .i64 0] 25 (0,0)) (by exact BK164.out)):gb169≠gb164));have n9_:=za.mk ((by rw [hg];exact Nat.ne_of_lt (zf.lt (show zf w0 _ g s0_0 t167 t168 from by repeat (with_reducible first|exact HI0.out|apply zf.alloc|apply zf.drewN|refine zf.far ?_ NB0_164.out _))):g≠gb169));have n10_:=za.mk ((by rw [hg];exact Nat.ne_of_gt (zf.lt (show zf w0 _ g s0_0 t167 t168 from by repeat (with_reducible first|exact HI0.out|apply zf.alloc|apply zf.drewN|refine zf.far ?_ NB0_164.out _))):gb169≠g));clear HI0;clear BK164;clear HK;clear HB;have HI0:=n0_;have BK164:=n1_;have HK:=n2_;have HB:=n3_;have BK169:=n4_;have GW169:=n5_;have GE169:=n6_;have NB164_169:=n7_;have NB169_164:=n8_;have NB0_169:=n9_;have NB169_0:=n10_;clear n0_ n1_ n2_ n3_ n4_ n5_ n6_ n7_ n8_ n9_ n10_;clear hb hbox hg;have hnb8:=NB169_164.out;have hnc8:=NB164_169.out;have hnb9:=NB169_0.out;have hnc9:=NB0_169.out;have hcz10_0:w7.cell? ⟨gb169,0,none⟩=some (.int .i64 0):=(zq BK169.out 0).trans rfl;have hcz10_1:w7.cell? ⟨gb169,1,none⟩=some (.int .i64 0):=(zq BK169.out 1).trans rfl;have hcz10_2:w7.cell? ⟨gb169,2,none⟩=some (.int .i64 0):=(zq BK169.out 2).trans rfl;have hcz10_3:w7.cell? ⟨gb169,3,none⟩=some (.int .i64 0):=(zq BK169.out 3).trans rfl;have hcz10_4:w7.cell? ⟨gb169,4,none⟩=some (.int .i64 0):=(zq BK169.out 4).trans rfl;have hfz10_0:=zn BK169.out 0;have hfz10_1:=zn BK169.out 1;have hfz10_2:=zn BK169.out 2;have hfz10_3:=zn BK169.out 3;have hfz10_4:=zn BK169.out 4))
 (try simp only [Act.put,List.setIfInBounds_toArray,List.set_cons_zero,List.set_cons_succ])
 go_cut [11] (fun v11 wc=>∃(kq:Nat) (x11_3:Bool),v11= .bool x11_3/\za (zau.j0 kq a1 x11_3 s0_0 t167 t168 a1 0 t166 0 0=some (r1,r2,r3,r4,r5,r6,r7))/\za (kq<=k)/\za (wc.heap[gb164]?=some (.cells #[.int .i64 0,.int .i64 0,.int .i64 0,.int .i64 0,.int .i64 0] 25 (0,0)))/\za (wc.heap[gb169]?=some (.cells #[.int .i64 a1,.int .i64 0,.int .i64 t166,.int .i64 0,.int .i64 0] 25 (0,0)))/\za (zf w0 wc g s0_0 t167 t168)/\za (zl w wc g none)/\za (Below w0.heap.size w0 wc))
 case first=>
  have H:=HC4.out
  clear HC4
  by_cases c11:a1=1
  ·rw [if_pos c11] at H
   have c11b0:(a1==1)=true:=beq_iff_eq.mpr c11
   have c11b1:(a1 != 1)=false:=bne_eq_false_iff_eq.mpr c11
   clear c11
   (first|rw [c11b0]|(simp only [zj6,zj7];rw [c11b0])|skip)
   have H':=za.mk H
   clear H
   go_wp2
   go_meet
   case rel=>exact ⟨_,(true),(by first|rfl|(simp;done)|(simp [*];done)),H',⟨by first|omega|exact Nat.le_refl _⟩,⟨by refine zal ?_ NB164_169.out _;refine zal ?_ NB164_169.out _;refine zal ?_ NB164_169.out _;refine zal ?_ NB164_169.out _;refine zal ?_ NB164_169.out _;exact BK164.out⟩,⟨by refine zaq (cs:=#[.int .i64 a1,.int .i64 0,.int .i64 t166,.int .i64 0,.int .i64 0]) ?_ 4 _ rfl;refine zaq (cs:=#[.int .i64 a1,.int .i64 0,.int .i64 t166,.int .i64 0,.int .i64 0]) ?_ 3 _ rfl;refine zaq (cs:=#[.int .i64 a1,.int .i64 0,.int .i64 0,.int .i64 0,.int .i64 0]) ?_ 2 _ rfl;refine zaq (cs:=#[.int .i64 a1,.int .i64 0,.int .i64 0,.int .i64 0,.int .i64 0]) ?_ 1 _ rfl;refine zaq (cs:=#[.int .i64 0,.int .i64 0,.int .i64 0,.int .i64 0,.int .i64 0]) ?_ 0 _ rfl;exact BK169.out⟩,⟨by repeat (with_reducible first|exact HI0.out|apply zf.alloc|apply zf.drewN|refine zf.far ?_ NB0_164.out _|refine zf.far ?_ NB0_169.out _)⟩,⟨by repeat (with_reducible first|exact HK.out|apply zl.set_|apply zu|apply zw|refine zF ?_ GW164.out _|refine zF ?_ GW169.out _)⟩,⟨by repeat (with_reducible first|exact HB.out|apply zm|apply zk|refine zh ?_ (zf.ge HI0.out)|refine zh ?_ GE164.out|refine zh ?_ GE169.out)⟩⟩
  ·rw [if_neg c11] at H
   have c11b0:(a1==1)=false:=beq_eq_false_iff_ne.mpr c11
   have c11b1:(a1 != 1)=true:=bne_iff_ne.mpr c11
   (first|rw [c11b0]|(simp only [zj6,zj7];rw [c11b0])|skip)
   have H':=za.mk H
   clear H
   go_wp2
   go_meet
   case rel=>exact ⟨_,((a1==3)),(by first|rfl|(simp;done)|(simp [*];done)),H',⟨by first|omega|exact Nat.le_refl _⟩,⟨by refine zal ?_ NB164_169.out _;refine zal ?_ NB164_169.out _;refine zal ?_ NB164_169.out _;refine zal ?_ NB164_169.out _;refine zal ?_ NB164_169.out _;exact BK164.out⟩,⟨by refine zaq (cs:=#[.int .i64 a1,.int .i64 0,.int .i64 t166,.int .i64 0,.int .i64 0]) ?_ 4 _ rfl;refine zaq (cs:=#[.int .i64 a1,.int .i64 0,.int .i64 t166,.int .i64 0,.int .i64 0]) ?_ 3 _ rfl;refine zaq (cs:=#[.int .i64 a1,.int .i64 0,.int .i64 0,.int .i64 0,.int .i64 0]) ?_ 2 _ rfl;refine zaq (cs:=#[.int .i64 a1,.int .i64 0,.int .i64 0,.int .i64 0,.int .i64 0]) ?_ 1 _ rfl;refine zaq (cs:=#[.int .i64 0,.int .i64 0,.int .i64 0,.int .i64 0,.int .i64 0]) ?_ 0 _ rfl;exact BK169.out⟩,⟨by repeat (with_reducible first|exact HI0.out|apply zf.alloc|apply zf.drewN|refine zf.far ?_ NB0_164.out _|refine zf.far ?_ NB0_169.out _)⟩,⟨by repeat (with_reducible first|exact HK.out|apply zl.set_|apply zu|apply zw|refine zF ?_ GW164.out _|refine zF ?_ GW169.out _)⟩,⟨by repeat (with_reducible first|exact HB.out|apply zm|apply zk|refine zh ?_ (zf.ge HI0.out)|refine zh ?_ GE164.out|refine zh ?_ GE169.out)⟩⟩
 case rest=>
  clear HC4
  obtain ⟨kq,x11_3,rfl,HA,HJ3,BK164,BK169,HI0,HK,HB⟩:=hcut
  cases kq with
  | zero=>exact absurd HA.out (by simp [zau.j0])
  | succ kj3=>
   have H:=HA.out
   clear HA
   simp only [zau.j0] at H
   by_cases c12:x11_3=true
   ·subst c12
    replace H:((zJ.f s0_0 t167 t168 161).bind fun bt170=>(some (a1,0,t166,wrap64 ((wrap64 (bt170.1-80))*10000000),0,bt170.2.1,bt170.2.2)))=some (r1,r2,r3,r4,r5,r6,r7):=by rw [if_pos rfl] at H;exact H
    obtain ⟨⟨t170,t171,t172⟩,A130,H⟩:=Option.bind_eq_some_iff.mp H
    replace H:(some (a1,0,t166,wrap64 ((wrap64 (t170-80))*10000000),0,t171,t172))=some (r1,r2,r3,r4,r5,r6,r7):=H
    have A13:=za.mk A130
    clear A130
    simp only [Option.some.injEq,Prod.mk.injEq] at H
    obtain ⟨rfl,rfl,rfl,rfl,rfl,rfl,rfl⟩:=H
    go_wp2_with (first|((with_reducible refine zQ (f:=19) rfl ?_);refine zaZ (some 19) rfl rfl Tryz.func19 (by kernel_rfl) rfl #[.pointer (some ⟨g,0,none⟩),.int .i64 161] rfl (by (try simp only [List.map_toArray,List.map_cons,List.map_nil]);first|done|rfl) ?_;(with_reducible refine (zJ.calls g s0_0 t167 t168 161 t170 t171 t172 w0 _ ?side1 ?side2 A13.out).mono ?_);(case side1=>repeat (with_reducible first|exact HI0.out|apply zf.alloc|apply zf.drewN|refine zf.far ?_ NB0_164.out _|refine zf.far ?_ NB0_169.out _));(case side2=>repeat (with_reducible first|exact HB.out|apply zm|apply zk|refine zh ?_ (zf.ge HI0.out)|refine zh ?_ GE164.out|refine zh ?_ GE169.out));rintro e w14 ⟨rfl,hi,hb,hk⟩;refine ⟨_,rfl,?_⟩;have n0_:=za.mk (zl.blk hk (g':=gb164) (o:= .cells #[.int .i64 0,.int .i64 0,.int .i64 0,.int .i64 0,.int .i64 0] 25 (0,0)) (by exact BK164.out) NB164_0.out (by simp));have n1_:=za.mk (zl.blk hk (g':=gb169) (o:= .cells #[.int .i64 a1,.int .i64 0,.int .i64 t166,.int .i64 0,.int .i64 0] 25 (0,0)) (by exact BK169.out) NB169_0.out (by simp));have n2_:=za.mk (zl.trans (by repeat (with_reducible first|exact HK.out|apply zl.set_|apply zu|apply zw|refine zF ?_ GW164.out _|refine zF ?_ GW169.out _)) hk (.inl rfl));have n3_:=za.mk (hb);have n4_:=za.mk (hi);clear BK164;clear BK169;clear HK;clear HB;clear HI0;have BK164:=n0_;have BK169:=n1_;have HK:=n2_;have HB:=n3_;have HI0:=n4_;clear n0_ n1_ n2_ n3_ n4_;(try clear hb);(try clear hb2);(try clear hk);(try clear hi);have hnb15:=NB169_164.out;have hnc15:=NB164_169.out;have hnb16:=NB169_0.out;have hnc16:=NB0_169.out;have hcz17_0:w14.cell? ⟨gb169,0,none⟩=some (.int .i64 a1):=(zq BK169.out 0).trans rfl;have hcz17_1:w14.cell? ⟨gb169,1,none⟩=some (.int .i64 0):=(zq BK169.out 1).trans rfl;have hcz17_2:w14.cell? ⟨gb169,2,none⟩=some (.int .i64 t166):=(zq BK169.out 2).trans rfl;have hcz17_3:w14.cell? ⟨gb169,3,none⟩=some (.int .i64 0):=(zq BK169.out 3).trans rfl;have hcz17_4:w14.cell? ⟨gb169,4,none⟩=some (.int .i64 0):=(zq BK169.out 4).trans rfl;have hfz17_0:=zn BK169.out 0;have hfz17_1:=zn BK169.out 1;have hfz17_2:=zn BK169.out 2;have hfz17_3:=zn BK169.out 3;have hfz17_4:=zn BK169.out 4;have hnb18:=NB164_0.out;have hnc18:=NB0_164.out;have hcz19_0:w14.cell? ⟨gb164,0,none⟩=some (.int .i64 0):=(zq BK164.out 0).trans rfl;have hcz19_1:w14.cell? ⟨gb164,1,none⟩=some (.int .i64 0):=(zq BK164.out 1).trans rfl;have hcz19_2:w14.cell? ⟨gb164,2,none⟩=some (.int .i64 0):=(zq BK164.out 2).trans rfl;have hcz19_3:w14.cell? ⟨gb164,3,none⟩=some (.int .i64 0):=(zq BK164.out 3).trans rfl;have hcz19_4:w14.cell? ⟨gb164,4,none⟩=some (.int .i64 0):=(zq BK164.out 4).trans rfl;have hfz19_0:=zn BK164.out 0;have hfz19_1:=zn BK164.out 1;have hfz19_2:=zn BK164.out 2;have hfz19_3:=zn BK164.out 3;have hfz19_4:=zn BK164.out 4))
    refine bodyPost_ret (results_cell_row rfl _ _ gb164 25 #[.int .i64 a1,.int .i64 0,.int .i64 t166,.int .i64 (wrap64 ((wrap64 (t170-80))*10000000)),.int .i64 0] (0,0) _ rfl (by refine zaq (cs:=#[.int .i64 a1,.int .i64 0,.int .i64 t166,.int .i64 (wrap64 ((wrap64 (t170-80))*10000000)),.int .i64 0]) ?_ 4 _ rfl;refine zaq (cs:=#[.int .i64 a1,.int .i64 0,.int .i64 t166,.int .i64 0,.int .i64 0]) ?_ 3 _ rfl;refine zaq (cs:=#[.int .i64 a1,.int .i64 0,.int .i64 0,.int .i64 0,.int .i64 0]) ?_ 2 _ rfl;refine zaq (cs:=#[.int .i64 a1,.int .i64 0,.int .i64 0,.int .i64 0,.int .i64 0]) ?_ 1 _ rfl;refine zaq (cs:=#[.int .i64 0,.int .i64 0,.int .i64 0,.int .i64 0,.int .i64 0]) ?_ 0 _ rfl;refine zal ?_ NB164_169.out _;exact BK164.out) Tryz.underlying25 rfl (by kernel_rfl)) rfl ?_
    exact ⟨by first|rfl|(simp [*]<;>rfl),by repeat (with_reducible first|exact HI0.out|apply zf.alloc|apply zf.drewN|refine zf.far ?_ NB0_164.out _|refine zf.far ?_ NB0_169.out _),by repeat (with_reducible first|exact HB.out|apply zm|apply zk|refine zh ?_ (zf.ge HI0.out)|refine zh ?_ GE164.out|refine zh ?_ GE169.out),by repeat (with_reducible first|exact HK.out|apply zl.set_|apply zu|apply zw|refine zF ?_ GW164.out _|refine zF ?_ GW169.out _)⟩
   ·replace c12:=Bool.eq_false_iff.mpr c12
    subst c12
    replace H:((zbd.f a1 5 9).bind fun t173=>(if t173=true then (zau.j1 kj3 a1 true s0_0 t167 t168 a1 0 t166 0 0) else (zau.j1 kj3 a1 (a1==16) s0_0 t167 t168 a1 0 t166 0 0)))=some (r1,r2,r3,r4,r5,r6,r7):=by rw [if_neg (show ¬(false=true) by decide)] at H;exact H
    have HC20:=za.mk H
    clear H
    go_upto_region 4 with (fail)
    go_cut [23] (fun v23 wc=>∃(kq:Nat) (x23_19:Bool),v23= .bool x23_19/\za (zau.j1 kq a1 x23_19 s0_0 t167 t168 a1 0 t166 0 0=some (r1,r2,r3,r4,r5,r6,r7))/\za (kq<=kj3)/\za (wc.heap[gb164]?=some (.cells #[.int .i64 0,.int .i64 0,.int .i64 0,.int .i64 0,.int .i64 0] 25 (0,0)))/\za (wc.heap[gb169]?=some (.cells #[.int .i64 a1,.int .i64 0,.int .i64 t166,.int .i64 0,.int .i64 0] 25 (0,0)))/\za (zf w0 wc g s0_0 t167 t168)/\za (zl w wc g none)/\za (Below w0.heap.size w0 wc))
    case first=>
     have H:=HC20.out
     clear HC20
     obtain ⟨t173,A210,H⟩:=Option.bind_eq_some_iff.mp H
     replace H:(if t173=true then (zau.j1 kj3 a1 true s0_0 t167 t168 a1 0 t166 0 0) else (zau.j1 kj3 a1 (a1==16) s0_0 t167 t168 a1 0 t166 0 0))=some (r1,r2,r3,r4,r5,r6,r7):=H
     have A21:=za.mk A210
     clear A210
     by_cases c22:t173=true
     ·subst c22
      replace H:(zau.j1 kj3 a1 true s0_0 t167 t168 a1 0 t166 0 0)=some (r1,r2,r3,r4,r5,r6,r7):=by rw [if_pos rfl] at H;exact H
      have H':=za.mk H
      clear H
      go_wp2_with (first|((with_reducible refine zQ (f:=61) rfl ?_);refine zaZ (some 25) rfl rfl Tryz.func61 (by kernel_rfl) rfl #[.int .i64 a1,.int .i64 5,.int .i64 9] rfl (by (try simp only [List.map_toArray,List.map_cons,List.map_nil]);first|done|rfl) ?_;(with_reducible refine (zbd.calls a1 5 9 true _ A21.out).mono ?_);rintro e w' ⟨rfl,⟨nd,rfl⟩⟩;refine ⟨_,rfl,?_⟩))
      go_meet
      case rel=>exact ⟨_,(true),(by first|rfl|(simp;done)|(simp [*];done)),H',⟨by have:=HJ3.out;first|omega|exact Nat.le_refl _⟩,⟨by exact BK164.out⟩,⟨by exact BK169.out⟩,⟨by repeat (with_reducible first|exact HI0.out|apply zf.alloc|apply zf.drewN|refine zf.far ?_ NB0_164.out _|refine zf.far ?_ NB0_169.out _)⟩,⟨by repeat (with_reducible first|exact HK.out|apply zl.set_|apply zu|apply zw|refine zF ?_ GW164.out _|refine zF ?_ GW169.out _)⟩,⟨by repeat (with_reducible first|exact HB.out|apply zm|apply zk|refine zh ?_ (zf.ge HI0.out)|refine zh ?_ GE164.out|refine zh ?_ GE169.out)⟩⟩
     ·replace c22:=Bool.eq_false_iff.mpr c22
      subst c22
      replace H:(zau.j1 kj3 a1 (a1==16) s0_0 t167 t168 a1 0 t166 0 0)=some (r1,r2,r3,r4,r5,r6,r7):=by rw [if_neg (show ¬(false=true) by decide)] at H;exact H
      have H':=za.mk H
      clear H
      go_wp2_with (first|((with_reducible refine zQ (f:=61) rfl ?_);refine zaZ (some 25) rfl rfl Tryz.func61 (by kernel_rfl) rfl #[.int .i64 a1,.int .i64 5,.int .i64 9] rfl (by (try simp only [List.map_toArray,List.map_cons,List.map_nil]);first|done|rfl) ?_;(with_reducible refine (zbd.calls a1 5 9 false _ A21.out).mono ?_);rintro e w' ⟨rfl,⟨nd,rfl⟩⟩;refine ⟨_,rfl,?_⟩))
      go_meet
      case rel=>exact ⟨_,((a1==16)),(by first|rfl|(simp;done)|(simp [*];done)),H',⟨by have:=HJ3.out;first|omega|exact Nat.le_refl _⟩,⟨by exact BK164.out⟩,⟨by exact BK169.out⟩,⟨by repeat (with_reducible first|exact HI0.out|apply zf.alloc|apply zf.drewN|refine zf.far ?_ NB0_164.out _|refine zf.far ?_ NB0_169.out _)⟩,⟨by repeat (with_reducible first|exact HK.out|apply zl.set_|apply zu|apply zw|refine zF ?_ GW164.out _|refine zF ?_ GW169.out _)⟩,⟨by repeat (with_reducible first|exact HB.out|apply zm|apply zk|refine zh ?_ (zf.ge HI0.out)|refine zh ?_ GE164.out|refine zh ?_ GE169.out)⟩⟩
    case rest=>
     clear HC20
     obtain ⟨kq,x23_19,rfl,HA,HJ19,BK164,BK169,HI0,HK,HB⟩:=hcut
     cases kq with
     | zero=>exact absurd HA.out (by simp [zau.j1])
     | succ kj19=>
      have H:=HA.out
      clear HA
      simp only [zau.j1] at H
      by_cases c23:x23_19=true
      ·exact absurd H (by simp [c23])
      ·replace c23:=Bool.eq_false_iff.mpr c23
       subst c23
       replace H:((zbd.f a1 10 12).bind fun t178=>(if t178=true then none else (some (a1,0,t166,0,0,t167,t168))))=some (r1,r2,r3,r4,r5,r6,r7):=by rw [if_neg (show ¬(false=true) by decide)] at H;exact H
       obtain ⟨t178,A310,H⟩:=Option.bind_eq_some_iff.mp H
       replace H:(if t178=true then none else (some (a1,0,t166,0,0,t167,t168)))=some (r1,r2,r3,r4,r5,r6,r7):=H
       have A31:=za.mk A310
       clear A310
       by_cases c32:t178=true
       ·exact absurd H (by simp [c32])
       ·replace c32:=Bool.eq_false_iff.mpr c32
        subst c32
        replace H:(some (a1,0,t166,0,0,t167,t168))=some (r1,r2,r3,r4,r5,r6,r7):=by rw [if_neg (show ¬(false=true) by decide)] at H;exact H
        simp only [Option.some.injEq,Prod.mk.injEq] at H
        obtain ⟨rfl,rfl,rfl,rfl,rfl,rfl,rfl⟩:=H
        go_wp2_with (first|((with_reducible refine zQ (f:=61) rfl ?_);refine zaZ (some 36) rfl rfl Tryz.func61 (by kernel_rfl) rfl #[.int .i64 a1,.int .i64 10,.int .i64 12] rfl (by (try simp only [List.map_toArray,List.map_cons,List.map_nil]);first|done|rfl) ?_;(with_reducible refine (zbd.calls a1 10 12 false _ A31.out).mono ?_);rintro e w' ⟨rfl,⟨nd,rfl⟩⟩;refine ⟨_,rfl,?_⟩;(try (rw [znd wc];generalize hq_:World.drewN wc _=wc;have n0_:za (wc.heap[gb164]?=some (.cells #[.int .i64 0,.int .i64 0,.int .i64 0,.int .i64 0,.int .i64 0] 25 (0,0))):=⟨by rw [<- hq_];exact (by exact BK164.out)⟩;have n1_:za (wc.heap[gb169]?=some (.cells #[.int .i64 a1,.int .i64 0,.int .i64 t166,.int .i64 0,.int .i64 0] 25 (0,0))):=⟨by rw [<- hq_];exact (by exact BK169.out)⟩;have n2_:za (zf w0 wc g s0_0 t167 t168):=⟨by rw [<- hq_];exact (by repeat (with_reducible first|exact HI0.out|apply zf.alloc|apply zf.drewN|refine zf.far ?_ NB0_164.out _|refine zf.far ?_ NB0_169.out _))⟩;have n3_:za (zl w wc g none):=⟨by rw [<- hq_];exact (by repeat (with_reducible first|exact HK.out|apply zl.set_|apply zu|apply zw|refine zF ?_ GW164.out _|refine zF ?_ GW169.out _))⟩;have n4_:za (Below w0.heap.size w0 wc):=⟨by rw [<- hq_];exact (by repeat (with_reducible first|exact HB.out|apply zm|apply zk|refine zh ?_ (zf.ge HI0.out)|refine zh ?_ GE164.out|refine zh ?_ GE169.out))⟩;clear BK164 BK169 HI0 HK HB hq_;have BK164:=n0_;have BK169:=n1_;have HI0:=n2_;have HK:=n3_;have HB:=n4_;clear n0_ n1_ n2_ n3_ n4_));have hnb96:=NB169_164.out;have hnc96:=NB164_169.out;have hnb97:=NB169_0.out;have hnc97:=NB0_169.out;have hcz98_0:wc.cell? ⟨gb169,0,none⟩=some (.int .i64 a1):=(zq BK169.out 0).trans rfl;have hcz98_1:wc.cell? ⟨gb169,1,none⟩=some (.int .i64 0):=(zq BK169.out 1).trans rfl;have hcz98_2:wc.cell? ⟨gb169,2,none⟩=some (.int .i64 t166):=(zq BK169.out 2).trans rfl;have hcz98_3:wc.cell? ⟨gb169,3,none⟩=some (.int .i64 0):=(zq BK169.out 3).trans rfl;have hcz98_4:wc.cell? ⟨gb169,4,none⟩=some (.int .i64 0):=(zq BK169.out 4).trans rfl;have hfz98_0:=zn BK169.out 0;have hfz98_1:=zn BK169.out 1;have hfz98_2:=zn BK169.out 2;have hfz98_3:=zn BK169.out 3;have hfz98_4:=zn BK169.out 4;have hnb99:=NB164_0.out;have hnc99:=NB0_164.out;have hcz100_0:wc.cell? ⟨gb164,0,none⟩=some (.int .i64 0):=(zq BK164.out 0).trans rfl;have hcz100_1:wc.cell? ⟨gb164,1,none⟩=some (.int .i64 0):=(zq BK164.out 1).trans rfl;have hcz100_2:wc.cell? ⟨gb164,2,none⟩=some (.int .i64 0):=(zq BK164.out 2).trans rfl;have hcz100_3:wc.cell? ⟨gb164,3,none⟩=some (.int .i64 0):=(zq BK164.out 3).trans rfl;have hcz100_4:wc.cell? ⟨gb164,4,none⟩=some (.int .i64 0):=(zq BK164.out 4).trans rfl;have hfz100_0:=zn BK164.out 0;have hfz100_1:=zn BK164.out 1;have hfz100_2:=zn BK164.out 2;have hfz100_3:=zn BK164.out 3;have hfz100_4:=zn BK164.out 4))
        refine bodyPost_ret (results_cell_row rfl _ _ gb164 25 #[.int .i64 a1,.int .i64 0,.int .i64 t166,.int .i64 0,.int .i64 0] (0,0) _ rfl (by refine zaq (cs:=#[.int .i64 a1,.int .i64 0,.int .i64 t166,.int .i64 0,.int .i64 0]) ?_ 4 _ rfl;refine zaq (cs:=#[.int .i64 a1,.int .i64 0,.int .i64 t166,.int .i64 0,.int .i64 0]) ?_ 3 _ rfl;refine zaq (cs:=#[.int .i64 a1,.int .i64 0,.int .i64 0,.int .i64 0,.int .i64 0]) ?_ 2 _ rfl;refine zaq (cs:=#[.int .i64 a1,.int .i64 0,.int .i64 0,.int .i64 0,.int .i64 0]) ?_ 1 _ rfl;refine zaq (cs:=#[.int .i64 0,.int .i64 0,.int .i64 0,.int .i64 0,.int .i64 0]) ?_ 0 _ rfl;exact BK164.out) Tryz.underlying25 rfl (by kernel_rfl)) rfl ?_
        exact ⟨by first|rfl|(simp [*]<;>rfl),by repeat (with_reducible first|exact HI0.out|apply zf.alloc|apply zf.drewN|refine zf.far ?_ NB0_164.out _|refine zf.far ?_ NB0_169.out _),by repeat (with_reducible first|exact HB.out|apply zm|apply zk|refine zh ?_ (zf.ge HI0.out)|refine zh ?_ GE164.out|refine zh ?_ GE169.out),by repeat (with_reducible first|exact HK.out|apply zl.set_|apply zu|apply zw|refine zF ?_ GW164.out _|refine zF ?_ GW169.out _)⟩
def zbX.f (a0_0:Int) (a0_1:Int):Option (Bool):=(zbd.f a0_0 (-900000000) 900000000).bind fun t198=>(if t198=true then ((zbd.f a0_1 (-1799999999) 1800000000).bind fun t199=>(some t199)) else (some false))
set_option maxHeartbeats 8000000 in
set_option maxRecDepth 100000 in
theorem zbX.calls (a0_0:Int) (a0_1:Int) (r:Bool) (w:World) (h:zbX.f a0_0 a0_1=some r):
  Calls Tryz.prog 22 #[.agg #[.int .i64 a0_0,.int .i64 a0_1]] w fun e w'=>e= .returned (.bool r)/\Below w.heap.size w w':=by
 have hu27:=Tryz.underlying27
 have HB:=za.mk (Below.refl w.heap.size w)
 have H:((zbd.f a0_0 (-900000000) 900000000).bind fun t198=>(if t198=true then ((zbd.f a0_1 (-1799999999) 1800000000).bind fun t199=>(some t199)) else (some false)))=some r:=h
 clear h
 obtain ⟨t198,A20,H⟩:=Option.bind_eq_some_iff.mp H
 replace H:(if t198=true then ((zbd.f a0_1 (-1799999999) 1800000000).bind fun t199=>(some t199)) else (some false))=some r:=H
 have A2:=za.mk A20
 clear A20
 by_cases c3:t198=true
 ·subst c3
  replace H:((zbd.f a0_1 (-1799999999) 1800000000).bind fun t199=>(some t199))=some r:=by rw [if_pos rfl] at H;exact H
  obtain ⟨t199,A40,H⟩:=Option.bind_eq_some_iff.mp H
  replace H:(some t199)=some r:=H
  have A4:=za.mk A40
  clear A40
  obtain rfl:=Option.some.inj H
  go_enter Tryz.func22,Tryz.ntmps22
  go_wp2_with (first|((with_reducible refine zbw (N:=1) rfl ?_);refine zbz ?hg (N:=1) ?hd (cs:=#[.int .i64 a0_0,.int .i64 a0_1]) (t:=27) ?hr ?_;(case hd=>rfl);(case hg=>rfl);(case hr=>first|(go_simp;done)|(go_simp;rfl));intro gb197 hg w5 hbox hb;have n0_:=za.mk (zaF (by repeat (with_reducible first|exact HB.out|apply zm|apply zk|apply zbL)) hb);have n1_:=za.mk (hbox);have n2_:=za.mk ((by rw [hg];exact (zcc (by repeat (with_reducible first|exact HB.out|apply zm|apply zk|apply zbL))):w.heap.size<=gb197));have n3_:=za.mk ((by rw [hg];exact (zcc (by repeat (with_reducible first|exact HB.out|apply zm|apply zk|apply zbL))):w.heap.size<=gb197));clear HB;have HB:=n0_;have BK197:=n1_;have GW197:=n2_;have GE197:=n3_;clear n0_ n1_ n2_ n3_;clear hb hbox hg;have hcz6_0:w5.cell? ⟨gb197,0,none⟩=some (.int .i64 a0_0):=(zq BK197.out 0).trans rfl;have hcz6_1:w5.cell? ⟨gb197,1,none⟩=some (.int .i64 a0_1):=(zq BK197.out 1).trans rfl;have hfz6_0:=zn BK197.out 0;have hfz6_1:=zn BK197.out 1)|((with_reducible refine zQ (f:=61) rfl ?_);refine zaZ (some 5) rfl rfl Tryz.func61 (by kernel_rfl) rfl #[.int .i64 a0_0,.int .i64 (-900000000),.int .i64 900000000] rfl (by (try simp only [List.map_toArray,List.map_cons,List.map_nil]);first|done|rfl) ?_;(with_reducible refine (zbd.calls a0_0 (-900000000) 900000000 true _ A2.out).mono ?_);rintro e w' ⟨rfl,⟨nd,rfl⟩⟩;refine ⟨_,rfl,?_⟩)|(go_at_call 61;(with_reducible refine (zbd.calls a0_1 (-1799999999) 1800000000 t199 _ A4.out).mono ?_);rintro e w' ⟨rfl,⟨nd,rfl⟩⟩))
  go_ret
  exact ⟨by first|rfl|(simp [*]<;>rfl),by repeat (with_reducible first|exact HB.out|apply zm|apply zk|refine zh ?_ GE197.out)⟩
 ·replace c3:=Bool.eq_false_iff.mpr c3
  subst c3
  replace H:(some false)=some r:=by rw [if_neg (show ¬(false=true) by decide)] at H;exact H
  obtain rfl:=Option.some.inj H
  go_enter Tryz.func22,Tryz.ntmps22
  go_wp2_with (first|((with_reducible refine zbw (N:=1) rfl ?_);refine zbz ?hg (N:=1) ?hd (cs:=#[.int .i64 a0_0,.int .i64 a0_1]) (t:=27) ?hr ?_;(case hd=>rfl);(case hg=>rfl);(case hr=>first|(go_simp;done)|(go_simp;rfl));intro gb197 hg w7 hbox hb;have n0_:=za.mk (zaF (by repeat (with_reducible first|exact HB.out|apply zm|apply zk|apply zbL)) hb);have n1_:=za.mk (hbox);have n2_:=za.mk ((by rw [hg];exact (zcc (by repeat (with_reducible first|exact HB.out|apply zm|apply zk|apply zbL))):w.heap.size<=gb197));have n3_:=za.mk ((by rw [hg];exact (zcc (by repeat (with_reducible first|exact HB.out|apply zm|apply zk|apply zbL))):w.heap.size<=gb197));clear HB;have HB:=n0_;have BK197:=n1_;have GW197:=n2_;have GE197:=n3_;clear n0_ n1_ n2_ n3_;clear hb hbox hg;have hcz8_0:w7.cell? ⟨gb197,0,none⟩=some (.int .i64 a0_0):=(zq BK197.out 0).trans rfl;have hcz8_1:w7.cell? ⟨gb197,1,none⟩=some (.int .i64 a0_1):=(zq BK197.out 1).trans rfl;have hfz8_0:=zn BK197.out 0;have hfz8_1:=zn BK197.out 1)|((with_reducible refine zQ (f:=61) rfl ?_);refine zaZ (some 5) rfl rfl Tryz.func61 (by kernel_rfl) rfl #[.int .i64 a0_0,.int .i64 (-900000000),.int .i64 900000000] rfl (by (try simp only [List.map_toArray,List.map_cons,List.map_nil]);first|done|rfl) ?_;(with_reducible refine (zbd.calls a0_0 (-900000000) 900000000 false _ A2.out).mono ?_);rintro e w' ⟨rfl,⟨nd,rfl⟩⟩;refine ⟨_,rfl,?_⟩))
  go_ret
  exact ⟨by first|rfl|(simp [*]<;>rfl),by repeat (with_reducible first|exact HB.out|apply zm|apply zk|refine zh ?_ GE197.out)⟩
def zaP.f (a0:Int):Option (Bool):=(zbd.f a0 (-890000000) 890000000).bind fun t200=>(some t200)
set_option maxHeartbeats 8000000 in
set_option maxRecDepth 100000 in
theorem zaP.calls (a0:Int) (r:Bool) (w:World) (h:zaP.f a0=some r):
  Calls Tryz.prog 64 #[.int .i64 a0] w fun e w'=>e= .returned (.bool r)/\zcv w w':=by
 have H:((zbd.f a0 (-890000000) 890000000).bind fun t200=>(some t200))=some r:=h
 clear h
 obtain ⟨t200,A20,H⟩:=Option.bind_eq_some_iff.mp H
 replace H:(some t200)=some r:=H
 have A2:=za.mk A20
 clear A20
 obtain rfl:=Option.some.inj H
 go_enter Tryz.func64,Tryz.ntmps64
 go_wp2_with (first|((with_reducible refine zQ (f:=61) rfl ?_);refine zaZ (some 4) rfl rfl Tryz.func61 (by kernel_rfl) rfl #[.int .i64 a0,.int .i64 (-890000000),.int .i64 890000000] rfl (by (try simp only [List.map_toArray,List.map_cons,List.map_nil]);first|done|rfl) ?_;(with_reducible refine (zbd.calls a0 (-890000000) 890000000 t200 _ A2.out).mono ?_);rintro e w' ⟨rfl,⟨nd,rfl⟩⟩;refine ⟨_,rfl,?_⟩))
 go_ret
 exact ⟨by first|rfl|(simp;done)|(simp [*];done),by repeat (first|exact zcv.refl _|apply zcv.step)⟩
end Go.Proofs.YtkenfaengphiiaaGreatDoor.PFnCylinders
-- CUT
