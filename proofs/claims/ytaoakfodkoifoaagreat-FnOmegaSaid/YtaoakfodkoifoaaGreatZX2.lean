/- The law FnOmega gives true, whatever comes in; each argument reads behind the call as it read before. No conditions. (One of the texts of its proof, put together by a program of this session.) -/
import Derived.Test.YtaoakfodkoifoaaGreatZX0
import Derived.Test.YtaoakfodkoifoaaGreatZX1
set_option linter.unusedSectionVars false
set_option linter.unusedSimpArgs false
set_option linter.unusedVariables false
namespace Go.Proofs.YtaoakfodkoifoaaGreat.PFnOmega
open Go.RowKit Go.Proofs.YtaoakfodkoifoaaGreatW.PrintWords Go.Proofs.YtaoakfodkoifoaaGreatW.PrintLast Go.Proofs.YtaoakfodkoifoaaGreatW.PrintMore
def zaQ.j0:Nat->Int->List Int->Int->Int->Int->Int->Option (Int×Int×Int×Int)
 | 0,_,_,_,_,_,_=>none
 | k+1,x12,x1000,x1001,x1002,x179000,x179001=>if x12=0 then ((zat.f x1000 x1001 x1002 (([900000000,(-900000000),0,1]:List Int))).bind fun bt189=>(some (bt189.1,x179001,bt189.2.1,bt189.2.2))) else (if x12=1 then ((zat.f x1000 x1001 x1002 (([1800000000,(-1799999999),0,900000000,(-900000000)]:List Int))).bind fun bt195=>(some (x179000,bt195.1,bt195.2.1,bt195.2.2))) else (some (x179000,x179001,x1001,x1002)))
def zaQ.f (k:Nat) (s0_0:List Int) (s0_1:Int) (s0_2:Int):Option (Int×Int×Int×Int):=(zaY.f k s0_0 s0_1 s0_2 900000000).bind fun bt175=>((zaY.f k s0_0 bt175.2.1 bt175.2.2 1800000000).bind fun bt179=>((zfg.f bt179.1).bind fun t182=>((zV.f s0_0 bt179.2.1 bt179.2.2 10).bind fun bt183=>(zaQ.j0 k bt183.1 s0_0 bt183.2.1 bt183.2.2 bt175.1 t182))))
set_option maxHeartbeats 8000000 in
set_option maxRecDepth 100000 in
theorem zaQ.calls (k:Nat) (g:Nat) (s0_0:List Int) (s0_1:Int) (s0_2:Int) (r1:Int) (r2:Int) (r3:Int) (r4:Int) (w0 w:World) (hI:ze w0 w g s0_0 s0_1 s0_2) (hB:Below w0.heap.size w0 w) (h:zaQ.f k s0_0 s0_1 s0_2=some (r1,r2,r3,r4)):
  Calls Tryz.prog 54 #[.pointer (some ⟨g,0,none⟩)] w fun e w'=>e= .returned (.agg #[.int .i64 r1,.int .i64 r2])/\ze w0 w' g s0_0 r3 r4/\Below w0.heap.size w0 w'/\zA w w' g none:=by
 have hu28:=Tryz.underlying28
 have HI0:=zl.mk hI
 have HK:=zl.mk (zA.refl w g none)
 have HL:=zl.mk hB.size
 clear hI
 have HW0:=zl.mk hB.size
 have HB:=zl.mk hB
 clear hB
 have H:((zaY.f k s0_0 s0_1 s0_2 900000000).bind fun bt175=>((zaY.f k s0_0 bt175.2.1 bt175.2.2 1800000000).bind fun bt179=>((zfg.f bt179.1).bind fun t182=>((zV.f s0_0 bt179.2.1 bt179.2.2 10).bind fun bt183=>(zaQ.j0 k bt183.1 s0_0 bt183.2.1 bt183.2.2 bt175.1 t182)))))=some (r1,r2,r3,r4):=h
 clear h
 obtain ⟨⟨t175,t176,t177⟩,A20,H⟩:=Option.bind_eq_some_iff.mp H
 replace H:((zaY.f k s0_0 t176 t177 1800000000).bind fun bt179=>((zfg.f bt179.1).bind fun t182=>((zV.f s0_0 bt179.2.1 bt179.2.2 10).bind fun bt183=>(zaQ.j0 k bt183.1 s0_0 bt183.2.1 bt183.2.2 t175 t182))))=some (r1,r2,r3,r4):=H
 have A2:=zl.mk A20
 clear A20
 obtain ⟨⟨t179,t180,t181⟩,A30,H⟩:=Option.bind_eq_some_iff.mp H
 replace H:((zfg.f t179).bind fun t182=>((zV.f s0_0 t180 t181 10).bind fun bt183=>(zaQ.j0 k bt183.1 s0_0 bt183.2.1 bt183.2.2 t175 t182)))=some (r1,r2,r3,r4):=H
 have A3:=zl.mk A30
 clear A30
 obtain ⟨t182,A40,H⟩:=Option.bind_eq_some_iff.mp H
 replace H:((zV.f s0_0 t180 t181 10).bind fun bt183=>(zaQ.j0 k bt183.1 s0_0 bt183.2.1 bt183.2.2 t175 t182))=some (r1,r2,r3,r4):=H
 have A4:=zl.mk A40
 clear A40
 have HC5:=zl.mk H
 clear H
 go_enter Tryz.func54,Tryz.ntmps54
 go_upto_region 3 with (first|((with_reducible refine zdE (N:=2) rfl ?_);refine zeM ?hg (N:=2) ?hd (cs:=#[.int .i64 0,.int .i64 0]) (t:=28) ?hr ?_;(case hd=>rfl);(case hg=>rfl);(case hr=>first|(go_simp;done)|(go_simp;rfl));intro gb174 hg w6 hbox hb;have n0_:=zl.mk (ze.below (by repeat (with_reducible first|exact HI0.out|apply ze.alloc|apply ze.drewN|apply ze.set_1|apply ze.set_2)) hb);have n1_:=zl.mk (zA.trans (by repeat (with_reducible first|exact HK.out|apply zA.set_|apply zL|apply zM)) (zA.of_below hb g none) (.inl rfl));have n2_:=zl.mk (zbQ (by repeat (with_reducible first|exact HB.out|apply zy|apply zm|refine zn ?_ (ze.ge HI0.out))) hb);have n3_:=zl.mk (hbox);have n4_:=zl.mk ((by rw [hg];exact (zc0 (w:=w) (g:=g) (row:=none) (by repeat (with_reducible first|exact HK.out|apply zA.set_|apply zL|apply zM))):w.heap.size<=gb174));have n5_:=zl.mk ((Nat.le_trans HW0.out (by rw [hg];exact (zc0 (w:=w) (g:=g) (row:=none) (by repeat (with_reducible first|exact HK.out|apply zA.set_|apply zL|apply zM))):w.heap.size<=gb174):w0.heap.size<=gb174));have n6_:=zl.mk ((by rw [hg];exact Nat.ne_of_lt (ze.lt (show ze w0 _ g s0_0 s0_1 s0_2 from by repeat (with_reducible first|exact HI0.out|apply ze.alloc|apply ze.drewN|apply ze.set_1|apply ze.set_2))):g≠gb174));have n7_:=zl.mk ((by rw [hg];exact Nat.ne_of_gt (ze.lt (show ze w0 _ g s0_0 s0_1 s0_2 from by repeat (with_reducible first|exact HI0.out|apply ze.alloc|apply ze.drewN|apply ze.set_1|apply ze.set_2))):gb174≠g));clear HI0;clear HK;clear HB;have HI0:=n0_;have HK:=n1_;have HB:=n2_;have BK174:=n3_;have GW174:=n4_;have GE174:=n5_;have NB0_174:=n6_;have NB174_0:=n7_;clear n0_ n1_ n2_ n3_ n4_ n5_ n6_ n7_;clear hb hbox hg)|((with_reducible refine zax (f:=111) rfl ?_);refine zc1 (some 5) rfl rfl Tryz.func111 (by kernel_rfl) rfl #[.pointer (some ⟨g,0,none⟩),.int .i64 900000000] rfl (by (try simp only [List.map_toArray,List.map_cons,List.map_nil]);first|done|rfl) ?_;(with_reducible refine (zaY.calls k g s0_0 s0_1 s0_2 900000000 t175 t176 t177 w0 _ ?side1 ?side2 A2.out).mono ?_);(case side1=>repeat (with_reducible first|exact HI0.out|apply ze.alloc|apply ze.drewN|apply ze.set_1|apply ze.set_2|refine ze.far ?_ NB0_174.out _));(case side2=>repeat (with_reducible first|exact HB.out|apply zy|apply zm|refine zn ?_ (ze.ge HI0.out)|refine zn ?_ GE174.out));rintro e w7 ⟨rfl,hi,hb,hk⟩;refine ⟨_,rfl,?_⟩;have n0_:=zl.mk (zA.blk hk (g':=gb174) (o:= .cells #[.int .i64 0,.int .i64 0] 28 (0,0)) (by exact BK174.out) NB174_0.out (by simp));have n1_:=zl.mk (zA.trans (by repeat (with_reducible first|exact HK.out|apply zA.set_|apply zL|apply zM|refine zaX ?_ GW174.out _)) hk (.inl rfl));have n2_:=zl.mk (hb);have n3_:=zl.mk (hi);clear BK174;clear HK;clear HB;clear HI0;have BK174:=n0_;have HK:=n1_;have HB:=n2_;have HI0:=n3_;clear n0_ n1_ n2_ n3_;(try clear hb);(try clear hb2);(try clear hk);(try clear hi))|((with_reducible refine zdE (N:=3) rfl ?_);refine zeM ?hg (N:=3) ?hd (cs:=#[.int .i64 0,.int .i64 0]) (t:=28) ?hr ?_;(case hd=>rfl);(case hg=>rfl);(case hr=>first|(go_simp;done)|(go_simp;rfl));intro gb178 hg w8 hbox hb;have n0_:=zl.mk (ze.below (by repeat (with_reducible first|exact HI0.out|apply ze.alloc|apply ze.drewN|apply ze.set_1|apply ze.set_2|refine ze.far ?_ NB0_174.out _)) hb);have n1_:=zl.mk (zbx (g:=gb174) (o:= .cells #[.int .i64 0,.int .i64 0] 28 (0,0)) (by exact BK174.out) hb);have n2_:=zl.mk (zA.trans (by repeat (with_reducible first|exact HK.out|apply zA.set_|apply zL|apply zM|refine zaX ?_ GW174.out _)) (zA.of_below hb g none) (.inl rfl));have n3_:=zl.mk (zbQ (by repeat (with_reducible first|exact HB.out|apply zy|apply zm|refine zn ?_ (ze.ge HI0.out)|refine zn ?_ GE174.out)) hb);have n4_:=zl.mk (hbox);have n5_:=zl.mk ((by rw [hg];exact (zc0 (w:=w) (g:=g) (row:=none) (by repeat (with_reducible first|exact HK.out|apply zA.set_|apply zL|apply zM|refine zaX ?_ GW174.out _))):w.heap.size<=gb178));have n6_:=zl.mk ((Nat.le_trans HW0.out (by rw [hg];exact (zc0 (w:=w) (g:=g) (row:=none) (by repeat (with_reducible first|exact HK.out|apply zA.set_|apply zL|apply zM|refine zaX ?_ GW174.out _))):w.heap.size<=gb178):w0.heap.size<=gb178));have n7_:=zl.mk ((by rw [hg];exact Nat.ne_of_lt (zfC (g:=gb174) (o:= .cells #[.int .i64 0,.int .i64 0] 28 (0,0)) (by exact BK174.out)):gb174≠gb178));have n8_:=zl.mk ((by rw [hg];exact Nat.ne_of_gt (zfC (g:=gb174) (o:= .cells #[.int .i64 0,.int .i64 0] 28 (0,0)) (by exact BK174.out)):gb178≠gb174));have n9_:=zl.mk ((by rw [hg];exact Nat.ne_of_lt (ze.lt (show ze w0 _ g s0_0 t176 t177 from by repeat (with_reducible first|exact HI0.out|apply ze.alloc|apply ze.drewN|apply ze.set_1|apply ze.set_2|refine ze.far ?_ NB0_174.out _))):g≠gb178));have n10_:=zl.mk ((by rw [hg];exact Nat.ne_of_gt (ze.lt (show ze w0 _ g s0_0 t176 t177 from by repeat (with_reducible first|exact HI0.out|apply ze.alloc|apply ze.drewN|apply ze.set_1|apply ze.set_2|refine ze.far ?_ NB0_174.out _))):gb178≠g));clear HI0;clear BK174;clear HK;clear HB;have HI0:=n0_;have BK174:=n1_;have HK:=n2_;have HB:=n3_;have BK178:=n4_;have GW178:=n5_;have GE178:=n6_;have NB174_178:=n7_;have NB178_174:=n8_;have NB0_178:=n9_;have NB178_0:=n10_;clear n0_ n1_ n2_ n3_ n4_ n5_ n6_ n7_ n8_ n9_ n10_;clear hb hbox hg;have hnb9:=NB178_174.out;have hnc9:=NB174_178.out;have hnb10:=NB178_0.out;have hnc10:=NB0_178.out;have hcz11_0:w8.cell? ⟨gb178,0,none⟩=some (.int .i64 0):=(zaL BK178.out 0).trans rfl;have hcz11_1:w8.cell? ⟨gb178,1,none⟩=some (.int .i64 0):=(zaL BK178.out 1).trans rfl;have hfz11_0:=zao BK178.out 0;have hfz11_1:=zao BK178.out 1)|((with_reducible refine zax (f:=111) rfl ?_);refine zc1 (some 8) rfl rfl Tryz.func111 (by kernel_rfl) rfl #[.pointer (some ⟨g,0,none⟩),.int .i64 1800000000] rfl (by (try simp only [List.map_toArray,List.map_cons,List.map_nil]);first|done|rfl) ?_;(with_reducible refine (zaY.calls k g s0_0 t176 t177 1800000000 t179 t180 t181 w0 _ ?side1 ?side2 A3.out).mono ?_);(case side1=>repeat (with_reducible first|exact HI0.out|apply ze.alloc|apply ze.drewN|apply ze.set_1|apply ze.set_2|refine ze.far ?_ NB0_174.out _|refine ze.far ?_ NB0_178.out _));(case side2=>repeat (with_reducible first|exact HB.out|apply zy|apply zm|refine zn ?_ (ze.ge HI0.out)|refine zn ?_ GE174.out|refine zn ?_ GE178.out));rintro e w12 ⟨rfl,hi,hb,hk⟩;refine ⟨_,rfl,?_⟩;have n0_:=zl.mk (zA.blk hk (g':=gb174) (o:= .cells #[.int .i64 0,.int .i64 0] 28 (0,0)) (by refine zce ?_ NB174_178.out _;refine zce ?_ NB174_178.out _;exact BK174.out) NB174_0.out (by simp));have n1_:=zl.mk (zA.blk hk (g':=gb178) (o:= .cells #[.int .i64 t175,.int .i64 0] 28 (0,0)) (by refine zca (cs:=#[.int .i64 t175,.int .i64 0]) ?_ 1 _ rfl;refine zca (cs:=#[.int .i64 0,.int .i64 0]) ?_ 0 _ rfl;exact BK178.out) NB178_0.out (by simp));have n2_:=zl.mk (zA.trans (by repeat (with_reducible first|exact HK.out|apply zA.set_|apply zL|apply zM|refine zaX ?_ GW174.out _|refine zaX ?_ GW178.out _)) hk (.inl rfl));have n3_:=zl.mk (hb);have n4_:=zl.mk (hi);clear BK174;clear BK178;clear HK;clear HB;clear HI0;have BK174:=n0_;have BK178:=n1_;have HK:=n2_;have HB:=n3_;have HI0:=n4_;clear n0_ n1_ n2_ n3_ n4_;(try clear hb);(try clear hb2);(try clear hk);(try clear hi))|((with_reducible refine zax (f:=62) rfl ?_);refine zc1 (some 9) rfl rfl Tryz.func62 (by kernel_rfl) rfl #[.int .i64 t179] rfl (by (try simp only [List.map_toArray,List.map_cons,List.map_nil]);first|done|rfl) ?_;(with_reducible refine (zfg.calls t179 t182 _ A4.out).mono ?_);rintro e w' ⟨rfl,⟨nd,rfl⟩⟩;refine ⟨_,rfl,?_⟩;(try (rw [zFT w12];generalize hq_:World.drewN w12 _=w12;have n0_:zl (w12.heap[gb174]?=some (.cells #[.int .i64 0,.int .i64 0] 28 (0,0))):=⟨by rw [<- hq_];exact (by exact BK174.out)⟩;have n1_:zl (w12.heap[gb178]?=some (.cells #[.int .i64 t175,.int .i64 0] 28 (0,0))):=⟨by rw [<- hq_];exact (by exact BK178.out)⟩;have n2_:zl (ze w0 w12 g s0_0 t180 t181):=⟨by rw [<- hq_];exact (by repeat (with_reducible first|exact HI0.out|apply ze.alloc|apply ze.drewN|apply ze.set_1|apply ze.set_2|refine ze.far ?_ NB0_174.out _|refine ze.far ?_ NB0_178.out _))⟩;have n3_:zl (zA w w12 g none):=⟨by rw [<- hq_];exact (by repeat (with_reducible first|exact HK.out|apply zA.set_|apply zL|apply zM|refine zaX ?_ GW174.out _|refine zaX ?_ GW178.out _))⟩;have n4_:zl (Below w0.heap.size w0 w12):=⟨by rw [<- hq_];exact (by repeat (with_reducible first|exact HB.out|apply zy|apply zm|refine zn ?_ (ze.ge HI0.out)|refine zn ?_ GE174.out|refine zn ?_ GE178.out))⟩;clear BK174 BK178 HI0 HK HB hq_;have BK174:=n0_;have BK178:=n1_;have HI0:=n2_;have HK:=n3_;have HB:=n4_;clear n0_ n1_ n2_ n3_ n4_));have hcz13_0:w12.cell? ⟨gb178,0,none⟩=some (.int .i64 t175):=(zaL BK178.out 0).trans rfl;have hcz13_1:w12.cell? ⟨gb178,1,none⟩=some (.int .i64 0):=(zaL BK178.out 1).trans rfl;have hfz13_0:=zao BK178.out 0;have hfz13_1:=zao BK178.out 1))
 (try simp only [Act.put,List.setIfInBounds_toArray,List.set_cons_zero,List.set_cons_succ])
 go_cut [12] (fun v12 wc=>∃(kq:Nat) (x12_4:Int) (x1001_4:Int) (x1002_4:Int),v12= .int .i64 x12_4/\zl (zaQ.j0 kq x12_4 s0_0 x1001_4 x1002_4 t175 t182=some (r1,r2,r3,r4))/\zl (kq<=k)/\zl (wc.heap[gb174]?=some (.cells #[.int .i64 0,.int .i64 0] 28 (0,0)))/\zl (wc.heap[gb178]?=some (.cells #[.int .i64 t175,.int .i64 t182] 28 (0,0)))/\zl (ze w0 wc g s0_0 x1001_4 x1002_4)/\zl (zA w wc g none)/\zl (Below w0.heap.size w0 wc))
 case first=>
  have H:=HC5.out
  clear HC5
  obtain ⟨⟨t183,t184,t185⟩,A140,H⟩:=Option.bind_eq_some_iff.mp H
  replace H:(zaQ.j0 k t183 s0_0 t184 t185 t175 t182)=some (r1,r2,r3,r4):=H
  have A14:=zl.mk A140
  clear A140
  have H':=zl.mk H
  clear H
  go_wp2_with (first|((with_reducible refine zax (f:=102) rfl ?_);refine zc1 (some 12) rfl rfl Tryz.func102 (by kernel_rfl) rfl #[.pointer (some ⟨g,0,none⟩),.int .i64 10] rfl (by (try simp only [List.map_toArray,List.map_cons,List.map_nil]);first|done|rfl) ?_;(with_reducible refine (zV.calls g s0_0 t180 t181 10 t183 t184 t185 w0 _ ?side1 ?side2 A14.out).mono ?_);(case side1=>repeat (with_reducible first|exact HI0.out|apply ze.alloc|apply ze.drewN|apply ze.set_1|apply ze.set_2|refine ze.far ?_ NB0_174.out _|refine ze.far ?_ NB0_178.out _));(case side2=>repeat (with_reducible first|exact HB.out|apply zy|apply zm|refine zn ?_ (ze.ge HI0.out)|refine zn ?_ GE174.out|refine zn ?_ GE178.out));rintro e w15 ⟨rfl,hi,hb,hk⟩;refine ⟨_,rfl,?_⟩;have n0_:=zl.mk (zA.blk hk (g':=gb174) (o:= .cells #[.int .i64 0,.int .i64 0] 28 (0,0)) (by refine zce ?_ NB174_178.out _;exact BK174.out) NB174_0.out (by simp));have n1_:=zl.mk (zA.blk hk (g':=gb178) (o:= .cells #[.int .i64 t175,.int .i64 t182] 28 (0,0)) (by refine zca (cs:=#[.int .i64 t175,.int .i64 0]) ?_ 1 _ rfl;exact BK178.out) NB178_0.out (by simp));have n2_:=zl.mk (zA.trans (by repeat (with_reducible first|exact HK.out|apply zA.set_|apply zL|apply zM|refine zaX ?_ GW174.out _|refine zaX ?_ GW178.out _)) hk (.inl rfl));have n3_:=zl.mk (hb);have n4_:=zl.mk (hi);clear BK174;clear BK178;clear HK;clear HB;clear HI0;have BK174:=n0_;have BK178:=n1_;have HK:=n2_;have HB:=n3_;have HI0:=n4_;clear n0_ n1_ n2_ n3_ n4_;(try clear hb);(try clear hb2);(try clear hk);(try clear hi)))
  go_meet
  case rel=>exact ⟨_,(t183),(t184),(t185),(by first|rfl|(simp;done)|(simp [*];done)),H',⟨by first|omega|exact Nat.le_refl _⟩,⟨by exact BK174.out⟩,⟨by exact BK178.out⟩,⟨by repeat (with_reducible first|exact HI0.out|apply ze.alloc|apply ze.drewN|apply ze.set_1|apply ze.set_2|refine ze.far ?_ NB0_174.out _|refine ze.far ?_ NB0_178.out _)⟩,⟨by repeat (with_reducible first|exact HK.out|apply zA.set_|apply zL|apply zM|refine zaX ?_ GW174.out _|refine zaX ?_ GW178.out _)⟩,⟨by repeat (with_reducible first|exact HB.out|apply zy|apply zm|refine zn ?_ (ze.ge HI0.out)|refine zn ?_ GE174.out|refine zn ?_ GE178.out)⟩⟩
 case rest=>
  clear HC5
  obtain ⟨kq,x12_4,x1001_4,x1002_4,rfl,HA,HJ4,BK174,BK178,HI0,HK,HB⟩:=hcut
  cases kq with
  | zero=>exact absurd HA.out (by simp [zaQ.j0])
  | succ kj4=>
   have H:=HA.out
   clear HA
   simp only [zaQ.j0] at H
   by_cases c16:x12_4=0
   ·rw [if_pos c16] at H
    have c16b0:(x12_4==0)=true:=beq_iff_eq.mpr c16
    have c16b1:(x12_4 != 0)=false:=bne_eq_false_iff_eq.mpr c16
    clear c16
    obtain ⟨y186,hy186⟩:∃y_:List Int,y_=(([900000000,(-900000000),0,1]:List Int)):=⟨_,rfl⟩
    replace H:((zat.f s0_0 x1001_4 x1002_4 y186).bind fun bt189=>(some (bt189.1,t182,bt189.2.1,bt189.2.2)))=some (r1,r2,r3,r4):=by first|(rw [hy186];with_reducible exact H)|(have H2_:=(Option.bind_some _ _).symm.trans H;rw [hy186];with_reducible exact H2_)|(have H2_:=(Option.bind_some _ _).symm.trans H;with_reducible exact H2_)|with_reducible exact H|(rw [hy186];exact H)|exact H
    have Ny186:=zl.mk hy186
    clear hy186
    obtain ⟨⟨t189,t190,t191⟩,A170,H⟩:=Option.bind_eq_some_iff.mp H
    replace H:(some (t189,t182,t190,t191))=some (r1,r2,r3,r4):=H
    have A17:=zl.mk A170
    clear A170
    simp only [Option.some.injEq,Prod.mk.injEq] at H
    obtain ⟨rfl,rfl,rfl,rfl⟩:=H
    go_wp2_with (first|((with_reducible refine zdE (N:=16) rfl ?_);refine Kd.zF5 (Kd.int .i64) _ 2 ?hg (N:=16) ?hd (xs:=([900000000,(-900000000),0,1]:List Int)) (inner:= [.int .i64 900000000,.int .i64 (-900000000),.int .i64 0,.int .i64 1]) (ok:=fun _=>True) (okp:=fun _=>True) ?hr ?hp (fun _ hk=>hk) trivial (Below.refl _ _) (Nat.le_refl _) (by simp) ?_;(case hd=>rfl);(case hg=>rfl);(case hr=>first|(go_simp;done)|(go_simp;rfl));(case hp=>exact (Reps.one (show Kd.M (Kd.int .i64) _ _ _ 900000000 [.int .i64 900000000] from rfl) (Reps.one (show Kd.M (Kd.int .i64) _ _ _ (-900000000) [.int .i64 (-900000000)] from rfl) (Reps.one (show Kd.M (Kd.int .i64) _ _ _ 0 [.int .i64 0] from rfl) (Reps.one (show Kd.M (Kd.int .i64) _ _ _ 1 [.int .i64 1] from rfl) (Reps.none _ _))))));intro v187 w18 ho19 hb hg_ hnew_;clear hg_ hnew_;(first|rw [<- Ny186.out] at ho19|(simp only [Int.reduceToNat] at ho19;rw [<- Ny186.out] at ho19));have n0_:=zl.mk (Kd.zrb ho19 (zc0 (w:=w) (g:=g) (row:=none) (by repeat (with_reducible first|exact HK.out|apply zA.set_|apply zL|apply zM|refine zaX ?_ GW174.out _|refine zaX ?_ GW178.out _))));have n1_:=zl.mk (zbx (g:=gb174) (o:= .cells #[.int .i64 0,.int .i64 0] 28 (0,0)) (by exact BK174.out) hb);have n2_:=zl.mk (zbx (g:=gb178) (o:= .cells #[.int .i64 t175,.int .i64 t182] 28 (0,0)) (by exact BK178.out) hb);have n3_:=zl.mk (ze.below (by repeat (with_reducible first|exact HI0.out|apply ze.alloc|apply ze.drewN|apply ze.set_1|apply ze.set_2|refine ze.far ?_ NB0_174.out _|refine ze.far ?_ NB0_178.out _)) hb);have n4_:=zl.mk (zA.trans (by repeat (with_reducible first|exact HK.out|apply zA.set_|apply zL|apply zM|refine zaX ?_ GW174.out _|refine zaX ?_ GW178.out _)) (zA.of_below hb g none) (.inl rfl));have n5_:=zl.mk (zbQ (by repeat (with_reducible first|exact HB.out|apply zy|apply zm|refine zn ?_ (ze.ge HI0.out)|refine zn ?_ GE174.out|refine zn ?_ GE178.out)) hb);clear BK174;clear BK178;clear HI0;clear HK;clear HB;have HO188:=n0_;have BK174:=n1_;have BK178:=n2_;have HI0:=n3_;have HK:=n4_;have HB:=n5_;clear n0_ n1_ n2_ n3_ n4_ n5_;clear hb ho19;obtain ⟨Ao20,co20,eo20⟩:=Kd.zs7 HO188.out;subst eo20)|((with_reducible refine zax (f:=110) rfl ?_);refine zc1 (some 17) rfl rfl Tryz.func110 (by kernel_rfl) rfl #[.pointer (some ⟨g,0,none⟩),.slice Ao20 y186.length co20] rfl (by (try simp only [List.map_toArray,List.map_cons,List.map_nil]);first|done|rfl) ?_;(with_reducible refine (zat.calls g s0_0 x1001_4 x1002_4 _ _ y186 t189 t190 t191 w0 _ ?side1 ?side2 ?side3 ?side4 ?side5 A17.out).mono ?_);(case side1=>repeat (with_reducible first|exact HI0.out|apply ze.alloc|apply ze.drewN|apply ze.set_1|apply ze.set_2|refine ze.far ?_ NB0_174.out _|refine ze.far ?_ NB0_178.out _));(case side2=>repeat (with_reducible first|exact HB.out|apply zy|apply zm|refine zn ?_ (ze.ge HI0.out)|refine zn ?_ GE174.out|refine zn ?_ GE178.out));(case side3=>repeat (first|exact (Kd.zi0 HO188.out).2.2|(with_reducible refine Kd.ztm ?_ _)|(with_reducible refine Kd.ztl ?_ _)|(with_reducible refine Kd.zyr ?_)));(case side4=>exact (Kd.zi0 HO188.out).2.1);(case side5=>exact zn1 (ze.own_ne HI0.out HO188.out (by decide)));rintro e w21 ⟨rfl,hi,hb,hk⟩;refine ⟨_,rfl,?_⟩;have n0_:=zl.mk (zA.blk hk (g':=gb174) (o:= .cells #[.int .i64 0,.int .i64 0] 28 (0,0)) (by exact BK174.out) NB174_0.out (by simp));have n1_:=zl.mk (zA.blk hk (g':=gb178) (o:= .cells #[.int .i64 t175,.int .i64 t182] 28 (0,0)) (by exact BK178.out) NB178_0.out (by simp));have n2_:=zl.mk (Kd.zpN (Kd.ztA (ze.apart (show ze w0 _ g s0_0 x1001_4 x1002_4 from by repeat (with_reducible first|exact HI0.out|apply ze.alloc|apply ze.drewN|apply ze.set_1|apply ze.set_2|refine ze.far ?_ NB0_174.out _|refine ze.far ?_ NB0_178.out _)) (by (with_reducible repeat (first|apply Kd.zoL|apply Kd.zoK|apply Kd.zr3));exact HO188.out) (by decide)) hk (fun _ h=>h.2)) (fun _ h=>h.1));have n3_:=zl.mk (zA.trans (by repeat (with_reducible first|exact HK.out|apply zA.set_|apply zL|apply zM|refine zaX ?_ GW174.out _|refine zaX ?_ GW178.out _)) hk (.inl rfl));have n4_:=zl.mk (hb);have n5_:=zl.mk (hi);clear BK174;clear BK178;clear HO188;clear HK;clear HB;clear HI0;have BK174:=n0_;have BK178:=n1_;have HO188:=n2_;have HK:=n3_;have HB:=n4_;have HI0:=n5_;clear n0_ n1_ n2_ n3_ n4_ n5_;(try clear hb);(try clear hb2);(try clear hk);(try clear hi);have hnb22:=NB178_174.out;have hnc22:=NB174_178.out;have hnb23:=NB178_0.out;have hnc23:=NB0_178.out;have hcz24_0:w21.cell? ⟨gb178,0,none⟩=some (.int .i64 t175):=(zaL BK178.out 0).trans rfl;have hcz24_1:w21.cell? ⟨gb178,1,none⟩=some (.int .i64 t182):=(zaL BK178.out 1).trans rfl;have hfz24_0:=zao BK178.out 0;have hfz24_1:=zao BK178.out 1;have hnb25:=NB174_0.out;have hnc25:=NB0_174.out;have hcz26_0:w21.cell? ⟨gb174,0,none⟩=some (.int .i64 0):=(zaL BK174.out 0).trans rfl;have hcz26_1:w21.cell? ⟨gb174,1,none⟩=some (.int .i64 0):=(zaL BK174.out 1).trans rfl;have hfz26_0:=zao BK174.out 0;have hfz26_1:=zao BK174.out 1))
    refine bodyPost_ret (results_cell_row rfl _ _ gb174 28 #[.int .i64 t189,.int .i64 t182] (0,0) _ rfl (by refine zca (cs:=#[.int .i64 t189,.int .i64 0]) ?_ 1 _ rfl;refine zca (cs:=#[.int .i64 0,.int .i64 0]) ?_ 0 _ rfl;refine zce ?_ NB174_178.out _;exact BK174.out) Tryz.underlying28 rfl (by kernel_rfl)) rfl ?_
    exact ⟨by first|rfl|(simp [*]<;>rfl),by repeat (with_reducible first|exact HI0.out|apply ze.alloc|apply ze.drewN|apply ze.set_1|apply ze.set_2|refine ze.far ?_ NB0_174.out _|refine ze.far ?_ NB0_178.out _),by repeat (with_reducible first|exact HB.out|apply zy|apply zm|refine zn ?_ (ze.ge HI0.out)|refine zn ?_ GE174.out|refine zn ?_ GE178.out),by repeat (with_reducible first|exact HK.out|apply zA.set_|apply zL|apply zM|refine zaX ?_ GW174.out _|refine zaX ?_ GW178.out _)⟩
   ·rw [if_neg c16] at H
    have c16b0:(x12_4==0)=false:=beq_eq_false_iff_ne.mpr c16
    have c16b1:(x12_4 != 0)=true:=bne_iff_ne.mpr c16
    by_cases c27:x12_4=1
    ·rw [if_pos c27] at H
     have c27b0:(x12_4==1)=true:=beq_iff_eq.mpr c27
     have c27b1:(x12_4 != 1)=false:=bne_eq_false_iff_eq.mpr c27
     clear c27
     obtain ⟨y192,hy192⟩:∃y_:List Int,y_=(([1800000000,(-1799999999),0,900000000,(-900000000)]:List Int)):=⟨_,rfl⟩
     replace H:((zat.f s0_0 x1001_4 x1002_4 y192).bind fun bt195=>(some (t175,bt195.1,bt195.2.1,bt195.2.2)))=some (r1,r2,r3,r4):=by first|(rw [hy192];with_reducible exact H)|(have H2_:=(Option.bind_some _ _).symm.trans H;rw [hy192];with_reducible exact H2_)|(have H2_:=(Option.bind_some _ _).symm.trans H;with_reducible exact H2_)|with_reducible exact H|(rw [hy192];exact H)|exact H
     have Ny192:=zl.mk hy192
     clear hy192
     obtain ⟨⟨t195,t196,t197⟩,A280,H⟩:=Option.bind_eq_some_iff.mp H
     replace H:(some (t175,t195,t196,t197))=some (r1,r2,r3,r4):=H
     have A28:=zl.mk A280
     clear A280
     simp only [Option.some.injEq,Prod.mk.injEq] at H
     obtain ⟨rfl,rfl,rfl,rfl⟩:=H
     go_wp2_with (first|((with_reducible refine zdE (N:=22) rfl ?_);refine Kd.zF5 (Kd.int .i64) _ 2 ?hg (N:=22) ?hd (xs:=([1800000000,(-1799999999),0,900000000,(-900000000)]:List Int)) (inner:= [.int .i64 1800000000,.int .i64 (-1799999999),.int .i64 0,.int .i64 900000000,.int .i64 (-900000000)]) (ok:=fun _=>True) (okp:=fun _=>True) ?hr ?hp (fun _ hk=>hk) trivial (Below.refl _ _) (Nat.le_refl _) (by simp) ?_;(case hd=>rfl);(case hg=>rfl);(case hr=>first|(go_simp;done)|(go_simp;rfl));(case hp=>exact (Reps.one (show Kd.M (Kd.int .i64) _ _ _ 1800000000 [.int .i64 1800000000] from rfl) (Reps.one (show Kd.M (Kd.int .i64) _ _ _ (-1799999999) [.int .i64 (-1799999999)] from rfl) (Reps.one (show Kd.M (Kd.int .i64) _ _ _ 0 [.int .i64 0] from rfl) (Reps.one (show Kd.M (Kd.int .i64) _ _ _ 900000000 [.int .i64 900000000] from rfl) (Reps.one (show Kd.M (Kd.int .i64) _ _ _ (-900000000) [.int .i64 (-900000000)] from rfl) (Reps.none _ _)))))));intro v193 w29 ho30 hb hg_ hnew_;clear hg_ hnew_;(first|rw [<- Ny192.out] at ho30|(simp only [Int.reduceToNat] at ho30;rw [<- Ny192.out] at ho30));have n0_:=zl.mk (Kd.zrb ho30 (zc0 (w:=w) (g:=g) (row:=none) (by repeat (with_reducible first|exact HK.out|apply zA.set_|apply zL|apply zM|refine zaX ?_ GW174.out _|refine zaX ?_ GW178.out _))));have n1_:=zl.mk (zbx (g:=gb174) (o:= .cells #[.int .i64 0,.int .i64 0] 28 (0,0)) (by exact BK174.out) hb);have n2_:=zl.mk (zbx (g:=gb178) (o:= .cells #[.int .i64 t175,.int .i64 t182] 28 (0,0)) (by exact BK178.out) hb);have n3_:=zl.mk (ze.below (by repeat (with_reducible first|exact HI0.out|apply ze.alloc|apply ze.drewN|apply ze.set_1|apply ze.set_2|refine ze.far ?_ NB0_174.out _|refine ze.far ?_ NB0_178.out _)) hb);have n4_:=zl.mk (zA.trans (by repeat (with_reducible first|exact HK.out|apply zA.set_|apply zL|apply zM|refine zaX ?_ GW174.out _|refine zaX ?_ GW178.out _)) (zA.of_below hb g none) (.inl rfl));have n5_:=zl.mk (zbQ (by repeat (with_reducible first|exact HB.out|apply zy|apply zm|refine zn ?_ (ze.ge HI0.out)|refine zn ?_ GE174.out|refine zn ?_ GE178.out)) hb);clear BK174;clear BK178;clear HI0;clear HK;clear HB;have HO194:=n0_;have BK174:=n1_;have BK178:=n2_;have HI0:=n3_;have HK:=n4_;have HB:=n5_;clear n0_ n1_ n2_ n3_ n4_ n5_;clear hb ho30;obtain ⟨Ao31,co31,eo31⟩:=Kd.zs7 HO194.out;subst eo31)|((with_reducible refine zax (f:=110) rfl ?_);refine zc1 (some 23) rfl rfl Tryz.func110 (by kernel_rfl) rfl #[.pointer (some ⟨g,0,none⟩),.slice Ao31 y192.length co31] rfl (by (try simp only [List.map_toArray,List.map_cons,List.map_nil]);first|done|rfl) ?_;(with_reducible refine (zat.calls g s0_0 x1001_4 x1002_4 _ _ y192 t195 t196 t197 w0 _ ?side1 ?side2 ?side3 ?side4 ?side5 A28.out).mono ?_);(case side1=>repeat (with_reducible first|exact HI0.out|apply ze.alloc|apply ze.drewN|apply ze.set_1|apply ze.set_2|refine ze.far ?_ NB0_174.out _|refine ze.far ?_ NB0_178.out _));(case side2=>repeat (with_reducible first|exact HB.out|apply zy|apply zm|refine zn ?_ (ze.ge HI0.out)|refine zn ?_ GE174.out|refine zn ?_ GE178.out));(case side3=>repeat (first|exact (Kd.zi0 HO194.out).2.2|(with_reducible refine Kd.ztm ?_ _)|(with_reducible refine Kd.ztl ?_ _)|(with_reducible refine Kd.zyr ?_)));(case side4=>exact (Kd.zi0 HO194.out).2.1);(case side5=>exact zn1 (ze.own_ne HI0.out HO194.out (by decide)));rintro e w32 ⟨rfl,hi,hb,hk⟩;refine ⟨_,rfl,?_⟩;have n0_:=zl.mk (zA.blk hk (g':=gb174) (o:= .cells #[.int .i64 0,.int .i64 0] 28 (0,0)) (by exact BK174.out) NB174_0.out (by simp));have n1_:=zl.mk (zA.blk hk (g':=gb178) (o:= .cells #[.int .i64 t175,.int .i64 t182] 28 (0,0)) (by exact BK178.out) NB178_0.out (by simp));have n2_:=zl.mk (Kd.zpN (Kd.ztA (ze.apart (show ze w0 _ g s0_0 x1001_4 x1002_4 from by repeat (with_reducible first|exact HI0.out|apply ze.alloc|apply ze.drewN|apply ze.set_1|apply ze.set_2|refine ze.far ?_ NB0_174.out _|refine ze.far ?_ NB0_178.out _)) (by (with_reducible repeat (first|apply Kd.zoL|apply Kd.zoK|apply Kd.zr3));exact HO194.out) (by decide)) hk (fun _ h=>h.2)) (fun _ h=>h.1));have n3_:=zl.mk (zA.trans (by repeat (with_reducible first|exact HK.out|apply zA.set_|apply zL|apply zM|refine zaX ?_ GW174.out _|refine zaX ?_ GW178.out _)) hk (.inl rfl));have n4_:=zl.mk (hb);have n5_:=zl.mk (hi);clear BK174;clear BK178;clear HO194;clear HK;clear HB;clear HI0;have BK174:=n0_;have BK178:=n1_;have HO194:=n2_;have HK:=n3_;have HB:=n4_;have HI0:=n5_;clear n0_ n1_ n2_ n3_ n4_ n5_;(try clear hb);(try clear hb2);(try clear hk);(try clear hi);have hnb33:=NB178_174.out;have hnc33:=NB174_178.out;have hnb34:=NB178_0.out;have hnc34:=NB0_178.out;have hcz35_0:w32.cell? ⟨gb178,0,none⟩=some (.int .i64 t175):=(zaL BK178.out 0).trans rfl;have hcz35_1:w32.cell? ⟨gb178,1,none⟩=some (.int .i64 t182):=(zaL BK178.out 1).trans rfl;have hfz35_0:=zao BK178.out 0;have hfz35_1:=zao BK178.out 1;have hnb36:=NB174_0.out;have hnc36:=NB0_174.out;have hcz37_0:w32.cell? ⟨gb174,0,none⟩=some (.int .i64 0):=(zaL BK174.out 0).trans rfl;have hcz37_1:w32.cell? ⟨gb174,1,none⟩=some (.int .i64 0):=(zaL BK174.out 1).trans rfl;have hfz37_0:=zao BK174.out 0;have hfz37_1:=zao BK174.out 1))
     refine bodyPost_ret (results_cell_row rfl _ _ gb174 28 #[.int .i64 t175,.int .i64 t195] (0,0) _ rfl (by refine zca (cs:=#[.int .i64 t175,.int .i64 0]) ?_ 1 _ rfl;refine zca (cs:=#[.int .i64 0,.int .i64 0]) ?_ 0 _ rfl;refine zce ?_ NB174_178.out _;exact BK174.out) Tryz.underlying28 rfl (by kernel_rfl)) rfl ?_
     exact ⟨by first|rfl|(simp [*]<;>rfl),by repeat (with_reducible first|exact HI0.out|apply ze.alloc|apply ze.drewN|apply ze.set_1|apply ze.set_2|refine ze.far ?_ NB0_174.out _|refine ze.far ?_ NB0_178.out _),by repeat (with_reducible first|exact HB.out|apply zy|apply zm|refine zn ?_ (ze.ge HI0.out)|refine zn ?_ GE174.out|refine zn ?_ GE178.out),by repeat (with_reducible first|exact HK.out|apply zA.set_|apply zL|apply zM|refine zaX ?_ GW174.out _|refine zaX ?_ GW178.out _)⟩
    ·rw [if_neg c27] at H
     have c27b0:(x12_4==1)=false:=beq_eq_false_iff_ne.mpr c27
     have c27b1:(x12_4 != 1)=true:=bne_iff_ne.mpr c27
     simp only [Option.some.injEq,Prod.mk.injEq] at H
     obtain ⟨rfl,rfl,rfl,rfl⟩:=H
     have hnb38:=NB178_174.out
     have hnc38:=NB174_178.out
     have hnb39:=NB178_0.out
     have hnc39:=NB0_178.out
     have hcz40_0:wc.cell? ⟨gb178,0,none⟩=some (.int .i64 t175):=(zaL BK178.out 0).trans rfl
     have hcz40_1:wc.cell? ⟨gb178,1,none⟩=some (.int .i64 t182):=(zaL BK178.out 1).trans rfl
     have hfz40_0:=zao BK178.out 0
     have hfz40_1:=zao BK178.out 1
     have hnb41:=NB174_0.out
     have hnc41:=NB0_174.out
     have hcz42_0:wc.cell? ⟨gb174,0,none⟩=some (.int .i64 0):=(zaL BK174.out 0).trans rfl
     have hcz42_1:wc.cell? ⟨gb174,1,none⟩=some (.int .i64 0):=(zaL BK174.out 1).trans rfl
     have hfz42_0:=zao BK174.out 0
     have hfz42_1:=zao BK174.out 1
     go_wp2
     refine bodyPost_ret (results_cell_row rfl _ _ gb174 28 #[.int .i64 t175,.int .i64 t182] (0,0) _ rfl (by refine zca (cs:=#[.int .i64 t175,.int .i64 0]) ?_ 1 _ rfl;refine zca (cs:=#[.int .i64 0,.int .i64 0]) ?_ 0 _ rfl;exact BK174.out) Tryz.underlying28 rfl (by kernel_rfl)) rfl ?_
     exact ⟨by first|rfl|(simp [*]<;>rfl),by repeat (with_reducible first|exact HI0.out|apply ze.alloc|apply ze.drewN|apply ze.set_1|apply ze.set_2|refine ze.far ?_ NB0_174.out _|refine ze.far ?_ NB0_178.out _),by repeat (with_reducible first|exact HB.out|apply zy|apply zm|refine zn ?_ (ze.ge HI0.out)|refine zn ?_ GE174.out|refine zn ?_ GE178.out),by repeat (with_reducible first|exact HK.out|apply zA.set_|apply zL|apply zM|refine zaX ?_ GW174.out _|refine zaX ?_ GW178.out _)⟩
def zjM.f (k:Nat) (l0:List Int):Option (Int×Int×Int×Int×Int×Int):=(zfh.f l0).bind fun bt201=>((zaQ.f k bt201.1 bt201.2.1 bt201.2.2).bind fun bt205=>((zaQ.f k bt201.1 bt205.2.2.1 bt205.2.2.2).bind fun bt210=>((zaQ.f k bt201.1 bt210.2.2.1 bt210.2.2.2).bind fun bt215=>(some (bt205.1,bt205.2.1,bt210.1,bt210.2.1,bt215.1,bt215.2.1)))))
set_option maxHeartbeats 8000000 in
set_option maxRecDepth 100000 in
theorem zjM.calls (k:Nat) (A0:Option Addr) (c0:Nat) (l0:List Int) (r1:Int) (r2:Int) (r3:Int) (r4:Int) (r5:Int) (r6:Int) (w:World) (hr0:Kd.C (Kd.int .u8) w A0 l0.length l0) (hc0:l0.length<=c0) (h:zjM.f k l0=some (r1,r2,r3,r4,r5,r6)):
  Calls Tryz.prog 13 #[.slice A0 l0.length c0] w fun e w'=>e= .returned (.tuple #[.agg #[.int .i64 r1,.int .i64 r2],.agg #[.int .i64 r3,.int .i64 r4],.agg #[.int .i64 r5,.int .i64 r6]])/\Below w.heap.size w w':=by
 have hu28:=Tryz.underlying28
 have HR0:=zl.mk hr0
 have HC0:=zl.mk hc0
 clear hr0 hc0
 have HB:=zl.mk (Below.refl w.heap.size w)
 have H:((zfh.f l0).bind fun bt201=>((zaQ.f k bt201.1 bt201.2.1 bt201.2.2).bind fun bt205=>((zaQ.f k bt201.1 bt205.2.2.1 bt205.2.2.2).bind fun bt210=>((zaQ.f k bt201.1 bt210.2.2.1 bt210.2.2.2).bind fun bt215=>(some (bt205.1,bt205.2.1,bt210.1,bt210.2.1,bt215.1,bt215.2.1))))))=some (r1,r2,r3,r4,r5,r6):=h
 clear h
 obtain ⟨⟨t201,t202,t203⟩,A20,H⟩:=Option.bind_eq_some_iff.mp H
 replace H:((zaQ.f k t201 t202 t203).bind fun bt205=>((zaQ.f k t201 bt205.2.2.1 bt205.2.2.2).bind fun bt210=>((zaQ.f k t201 bt210.2.2.1 bt210.2.2.2).bind fun bt215=>(some (bt205.1,bt205.2.1,bt210.1,bt210.2.1,bt215.1,bt215.2.1)))))=some (r1,r2,r3,r4,r5,r6):=H
 have A2:=zl.mk A20
 clear A20
 obtain ⟨⟨t205,t206,t207,t208⟩,A30,H⟩:=Option.bind_eq_some_iff.mp H
 replace H:((zaQ.f k t201 t207 t208).bind fun bt210=>((zaQ.f k t201 bt210.2.2.1 bt210.2.2.2).bind fun bt215=>(some (t205,t206,bt210.1,bt210.2.1,bt215.1,bt215.2.1))))=some (r1,r2,r3,r4,r5,r6):=H
 have A3:=zl.mk A30
 clear A30
 obtain ⟨⟨t210,t211,t212,t213⟩,A40,H⟩:=Option.bind_eq_some_iff.mp H
 replace H:((zaQ.f k t201 t212 t213).bind fun bt215=>(some (t205,t206,t210,t211,bt215.1,bt215.2.1)))=some (r1,r2,r3,r4,r5,r6):=H
 have A4:=zl.mk A40
 clear A40
 obtain ⟨⟨t215,t216,t217,t218⟩,A50,H⟩:=Option.bind_eq_some_iff.mp H
 replace H:(some (t205,t206,t210,t211,t215,t216))=some (r1,r2,r3,r4,r5,r6):=H
 have A5:=zl.mk A50
 clear A50
 simp only [Option.some.injEq,Prod.mk.injEq] at H
 obtain ⟨rfl,rfl,rfl,rfl,rfl,rfl⟩:=H
 go_enter Tryz.func13,Tryz.ntmps13
 try go_wp2_with (first|((with_reducible refine zdE (N:=2) rfl ?_);refine zeM ?hg (N:=2) ?hd (cs:=#[.int .i64 0,.int .i64 0]) (t:=28) ?hr ?_;(case hd=>rfl);(case hg=>rfl);(case hr=>first|(go_simp;done)|(go_simp;rfl));intro gb198 hg w6 hbox hb;have n0_:=zl.mk (zbQ (by repeat (with_reducible first|exact HB.out|apply zy|apply zm|apply zdx)) hb);have n1_:=zl.mk (hbox);have n2_:=zl.mk ((by rw [hg];exact (zdm (by repeat (with_reducible first|exact HB.out|apply zy|apply zm|apply zdx))):w.heap.size<=gb198));have n3_:=zl.mk ((by rw [hg];exact (zdm (by repeat (with_reducible first|exact HB.out|apply zy|apply zm|apply zdx))):w.heap.size<=gb198));clear HB;have HB:=n0_;have BK198:=n1_;have GW198:=n2_;have GE198:=n3_;clear n0_ n1_ n2_ n3_;clear hb hbox hg)|((with_reducible refine zdE (N:=3) rfl ?_);refine zeM ?hg (N:=3) ?hd (cs:=#[.int .i64 0,.int .i64 0]) (t:=28) ?hr ?_;(case hd=>rfl);(case hg=>rfl);(case hr=>first|(go_simp;done)|(go_simp;rfl));intro gb199 hg w7 hbox hb;have n0_:=zl.mk (zbx (g:=gb198) (o:= .cells #[.int .i64 0,.int .i64 0] 28 (0,0)) (by exact BK198.out) hb);have n1_:=zl.mk (zbQ (by repeat (with_reducible first|exact HB.out|apply zy|apply zm|refine zn ?_ GE198.out)) hb);have n2_:=zl.mk (hbox);have n3_:=zl.mk ((by rw [hg];exact (zdm (by repeat (with_reducible first|exact HB.out|apply zy|apply zm|refine zn ?_ GE198.out))):w.heap.size<=gb199));have n4_:=zl.mk ((by rw [hg];exact (zdm (by repeat (with_reducible first|exact HB.out|apply zy|apply zm|refine zn ?_ GE198.out))):w.heap.size<=gb199));have n5_:=zl.mk ((by rw [hg];exact Nat.ne_of_lt (zfC (g:=gb198) (o:= .cells #[.int .i64 0,.int .i64 0] 28 (0,0)) (by exact BK198.out)):gb198≠gb199));have n6_:=zl.mk ((by rw [hg];exact Nat.ne_of_gt (zfC (g:=gb198) (o:= .cells #[.int .i64 0,.int .i64 0] 28 (0,0)) (by exact BK198.out)):gb199≠gb198));clear BK198;clear HB;have BK198:=n0_;have HB:=n1_;have BK199:=n2_;have GW199:=n3_;have GE199:=n4_;have NB198_199:=n5_;have NB199_198:=n6_;clear n0_ n1_ n2_ n3_ n4_ n5_ n6_;clear hb hbox hg)|((with_reducible refine zdE (N:=4) rfl ?_);refine zeM ?hg (N:=4) ?hd (cs:=#[.int .i64 0,.int .i64 0]) (t:=28) ?hr ?_;(case hd=>rfl);(case hg=>rfl);(case hr=>first|(go_simp;done)|(go_simp;rfl));intro gb200 hg w8 hbox hb;have n0_:=zl.mk (zbx (g:=gb198) (o:= .cells #[.int .i64 0,.int .i64 0] 28 (0,0)) (by exact BK198.out) hb);have n1_:=zl.mk (zbx (g:=gb199) (o:= .cells #[.int .i64 0,.int .i64 0] 28 (0,0)) (by exact BK199.out) hb);have n2_:=zl.mk (zbQ (by repeat (with_reducible first|exact HB.out|apply zy|apply zm|refine zn ?_ GE198.out|refine zn ?_ GE199.out)) hb);have n3_:=zl.mk (hbox);have n4_:=zl.mk ((by rw [hg];exact (zdm (by repeat (with_reducible first|exact HB.out|apply zy|apply zm|refine zn ?_ GE198.out|refine zn ?_ GE199.out))):w.heap.size<=gb200));have n5_:=zl.mk ((by rw [hg];exact (zdm (by repeat (with_reducible first|exact HB.out|apply zy|apply zm|refine zn ?_ GE198.out|refine zn ?_ GE199.out))):w.heap.size<=gb200));have n6_:=zl.mk ((by rw [hg];exact Nat.ne_of_lt (zfC (g:=gb198) (o:= .cells #[.int .i64 0,.int .i64 0] 28 (0,0)) (by exact BK198.out)):gb198≠gb200));have n7_:=zl.mk ((by rw [hg];exact Nat.ne_of_gt (zfC (g:=gb198) (o:= .cells #[.int .i64 0,.int .i64 0] 28 (0,0)) (by exact BK198.out)):gb200≠gb198));have n8_:=zl.mk ((by rw [hg];exact Nat.ne_of_lt (zfC (g:=gb199) (o:= .cells #[.int .i64 0,.int .i64 0] 28 (0,0)) (by exact BK199.out)):gb199≠gb200));have n9_:=zl.mk ((by rw [hg];exact Nat.ne_of_gt (zfC (g:=gb199) (o:= .cells #[.int .i64 0,.int .i64 0] 28 (0,0)) (by exact BK199.out)):gb200≠gb199));clear BK198;clear BK199;clear HB;have BK198:=n0_;have BK199:=n1_;have HB:=n2_;have BK200:=n3_;have GW200:=n4_;have GE200:=n5_;have NB198_200:=n6_;have NB200_198:=n7_;have NB199_200:=n8_;have NB200_199:=n9_;clear n0_ n1_ n2_ n3_ n4_ n5_ n6_ n7_ n8_ n9_;clear hb hbox hg)|((with_reducible refine zax (f:=53) rfl ?_);refine zc1 (some 9) rfl rfl Tryz.func53 (by kernel_rfl) rfl #[.slice A0 l0.length c0] rfl (by (try simp only [List.map_toArray,List.map_cons,List.map_nil]);first|done|rfl) ?_;(with_reducible refine (zfh.calls _ _ l0 t201 t202 t203 w _ ?side1 ?side2 ?side3 A2.out).mono ?_);(case side1=>repeat (with_reducible first|exact HB.out|apply zy|apply zm|refine zn ?_ GE198.out|refine zn ?_ GE199.out|refine zn ?_ GE200.out));(case side2=>exact HR0.out);(case side3=>exact HC0.out);rintro e w9 ⟨g204,rfl,hi,hb,hb2⟩;refine ⟨_,rfl,?_⟩;have n0_:=zl.mk (zbx (g:=gb198) (o:= .cells #[.int .i64 0,.int .i64 0] 28 (0,0)) (by exact BK198.out) hb2);have n1_:=zl.mk (zbx (g:=gb199) (o:= .cells #[.int .i64 0,.int .i64 0] 28 (0,0)) (by exact BK199.out) hb2);have n2_:=zl.mk (zbx (g:=gb200) (o:= .cells #[.int .i64 0,.int .i64 0] 28 (0,0)) (by exact BK200.out) hb2);have n3_:=zl.mk (hb);have n4_:=zl.mk (hi);have n5_:=zl.mk (ze.ne_blk hi (zbx (g:=gb198) (o:= .cells #[.int .i64 0,.int .i64 0] 28 (0,0)) (by exact BK198.out) hb2) (by decide));have n6_:=zl.mk (Ne.symm (ze.ne_blk hi (zbx (g:=gb198) (o:= .cells #[.int .i64 0,.int .i64 0] 28 (0,0)) (by exact BK198.out) hb2) (by decide)));have n7_:=zl.mk (ze.ne_blk hi (zbx (g:=gb199) (o:= .cells #[.int .i64 0,.int .i64 0] 28 (0,0)) (by exact BK199.out) hb2) (by decide));have n8_:=zl.mk (Ne.symm (ze.ne_blk hi (zbx (g:=gb199) (o:= .cells #[.int .i64 0,.int .i64 0] 28 (0,0)) (by exact BK199.out) hb2) (by decide)));have n9_:=zl.mk (ze.ne_blk hi (zbx (g:=gb200) (o:= .cells #[.int .i64 0,.int .i64 0] 28 (0,0)) (by exact BK200.out) hb2) (by decide));have n10_:=zl.mk (Ne.symm (ze.ne_blk hi (zbx (g:=gb200) (o:= .cells #[.int .i64 0,.int .i64 0] 28 (0,0)) (by exact BK200.out) hb2) (by decide)));clear BK198;clear BK199;clear BK200;clear HB;have BK198:=n0_;have BK199:=n1_;have BK200:=n2_;have HB:=n3_;have HI204:=n4_;have NB204_198:=n5_;have NB198_204:=n6_;have NB204_199:=n7_;have NB199_204:=n8_;have NB204_200:=n9_;have NB200_204:=n10_;clear n0_ n1_ n2_ n3_ n4_ n5_ n6_ n7_ n8_ n9_ n10_;(try clear hb);(try clear hb2);(try clear hk);(try clear hi))|((with_reducible refine zax (f:=54) rfl ?_);refine zc1 (some 11) rfl rfl Tryz.func54 (by kernel_rfl) rfl #[.pointer (some ⟨g204,0,none⟩)] rfl (by (try simp only [List.map_toArray,List.map_cons,List.map_nil]);first|done|rfl) ?_;(with_reducible refine (zaQ.calls k g204 t201 t202 t203 t205 t206 t207 t208 w _ ?side1 ?side2 A3.out).mono ?_);(case side1=>repeat (with_reducible first|exact HI204.out|apply ze.alloc|apply ze.drewN|apply ze.set_1|apply ze.set_2|refine ze.far ?_ NB204_198.out _|refine ze.far ?_ NB204_199.out _|refine ze.far ?_ NB204_200.out _));(case side2=>repeat (with_reducible first|exact HB.out|apply zy|apply zm|refine zn ?_ (ze.ge HI204.out)|refine zn ?_ GE198.out|refine zn ?_ GE199.out|refine zn ?_ GE200.out));rintro e w10 ⟨rfl,hi,hb,hk⟩;refine ⟨_,rfl,?_⟩;have n0_:=zl.mk (zA.blk hk (g':=gb198) (o:= .cells #[.int .i64 0,.int .i64 0] 28 (0,0)) (by exact BK198.out) NB198_204.out (by simp));have n1_:=zl.mk (zA.blk hk (g':=gb199) (o:= .cells #[.int .i64 0,.int .i64 0] 28 (0,0)) (by exact BK199.out) NB199_204.out (by simp));have n2_:=zl.mk (zA.blk hk (g':=gb200) (o:= .cells #[.int .i64 0,.int .i64 0] 28 (0,0)) (by exact BK200.out) NB200_204.out (by simp));have n3_:=zl.mk (hb);have n4_:=zl.mk (hi);clear BK198;clear BK199;clear BK200;clear HB;clear HI204;have BK198:=n0_;have BK199:=n1_;have BK200:=n2_;have HB:=n3_;have HI204:=n4_;clear n0_ n1_ n2_ n3_ n4_;(try clear hb);(try clear hb2);(try clear hk);(try clear hi))|((with_reducible refine zdE (N:=6) rfl ?_);refine zeM ?hg (N:=6) ?hd (cs:=#[.int .i64 0,.int .i64 0]) (t:=28) ?hr ?_;(case hd=>rfl);(case hg=>rfl);(case hr=>first|(go_simp;done)|(go_simp;rfl));intro gb209 hg w11 hbox hb;have n0_:=zl.mk (zbx (g:=gb198) (o:= .cells #[.int .i64 0,.int .i64 0] 28 (0,0)) (by exact BK198.out) hb);have n1_:=zl.mk (zbx (g:=gb199) (o:= .cells #[.int .i64 0,.int .i64 0] 28 (0,0)) (by exact BK199.out) hb);have n2_:=zl.mk (zbx (g:=gb200) (o:= .cells #[.int .i64 0,.int .i64 0] 28 (0,0)) (by exact BK200.out) hb);have n3_:=zl.mk (ze.below (by repeat (with_reducible first|exact HI204.out|apply ze.alloc|apply ze.drewN|apply ze.set_1|apply ze.set_2|refine ze.far ?_ NB204_198.out _|refine ze.far ?_ NB204_199.out _|refine ze.far ?_ NB204_200.out _)) hb);have n4_:=zl.mk (zbQ (by repeat (with_reducible first|exact HB.out|apply zy|apply zm|refine zn ?_ (ze.ge HI204.out)|refine zn ?_ GE198.out|refine zn ?_ GE199.out|refine zn ?_ GE200.out)) hb);have n5_:=zl.mk (hbox);have n6_:=zl.mk ((by rw [hg];exact (zdm (by repeat (with_reducible first|exact HB.out|apply zy|apply zm|refine zn ?_ (ze.ge HI204.out)|refine zn ?_ GE198.out|refine zn ?_ GE199.out|refine zn ?_ GE200.out))):w.heap.size<=gb209));have n7_:=zl.mk ((by rw [hg];exact (zdm (by repeat (with_reducible first|exact HB.out|apply zy|apply zm|refine zn ?_ (ze.ge HI204.out)|refine zn ?_ GE198.out|refine zn ?_ GE199.out|refine zn ?_ GE200.out))):w.heap.size<=gb209));have n8_:=zl.mk ((by rw [hg];exact Nat.ne_of_lt (zfC (g:=gb198) (o:= .cells #[.int .i64 0,.int .i64 0] 28 (0,0)) (by exact BK198.out)):gb198≠gb209));have n9_:=zl.mk ((by rw [hg];exact Nat.ne_of_gt (zfC (g:=gb198) (o:= .cells #[.int .i64 0,.int .i64 0] 28 (0,0)) (by exact BK198.out)):gb209≠gb198));have n10_:=zl.mk ((by rw [hg];exact Nat.ne_of_lt (zfC (g:=gb199) (o:= .cells #[.int .i64 0,.int .i64 0] 28 (0,0)) (by exact BK199.out)):gb199≠gb209));have n11_:=zl.mk ((by rw [hg];exact Nat.ne_of_gt (zfC (g:=gb199) (o:= .cells #[.int .i64 0,.int .i64 0] 28 (0,0)) (by exact BK199.out)):gb209≠gb199));have n12_:=zl.mk ((by rw [hg];exact Nat.ne_of_lt (zfC (g:=gb200) (o:= .cells #[.int .i64 0,.int .i64 0] 28 (0,0)) (by exact BK200.out)):gb200≠gb209));have n13_:=zl.mk ((by rw [hg];exact Nat.ne_of_gt (zfC (g:=gb200) (o:= .cells #[.int .i64 0,.int .i64 0] 28 (0,0)) (by exact BK200.out)):gb209≠gb200));have n14_:=zl.mk ((by rw [hg];exact Nat.ne_of_lt (ze.lt (show ze w _ g204 t201 t207 t208 from by repeat (with_reducible first|exact HI204.out|apply ze.alloc|apply ze.drewN|apply ze.set_1|apply ze.set_2|refine ze.far ?_ NB204_198.out _|refine ze.far ?_ NB204_199.out _|refine ze.far ?_ NB204_200.out _))):g204≠gb209));have n15_:=zl.mk ((by rw [hg];exact Nat.ne_of_gt (ze.lt (show ze w _ g204 t201 t207 t208 from by repeat (with_reducible first|exact HI204.out|apply ze.alloc|apply ze.drewN|apply ze.set_1|apply ze.set_2|refine ze.far ?_ NB204_198.out _|refine ze.far ?_ NB204_199.out _|refine ze.far ?_ NB204_200.out _))):gb209≠g204));clear BK198;clear BK199;clear BK200;clear HI204;clear HB;have BK198:=n0_;have BK199:=n1_;have BK200:=n2_;have HI204:=n3_;have HB:=n4_;have BK209:=n5_;have GW209:=n6_;have GE209:=n7_;have NB198_209:=n8_;have NB209_198:=n9_;have NB199_209:=n10_;have NB209_199:=n11_;have NB200_209:=n12_;have NB209_200:=n13_;have NB204_209:=n14_;have NB209_204:=n15_;clear n0_ n1_ n2_ n3_ n4_ n5_ n6_ n7_ n8_ n9_ n10_ n11_ n12_ n13_ n14_ n15_;clear hb hbox hg;have hnb12:=NB209_198.out;have hnc12:=NB198_209.out;have hnb13:=NB209_199.out;have hnc13:=NB199_209.out;have hnb14:=NB209_200.out;have hnc14:=NB200_209.out;have hnb15:=NB209_204.out;have hnc15:=NB204_209.out;have hcz16_0:w11.cell? ⟨gb209,0,none⟩=some (.int .i64 0):=(zaL BK209.out 0).trans rfl;have hcz16_1:w11.cell? ⟨gb209,1,none⟩=some (.int .i64 0):=(zaL BK209.out 1).trans rfl;have hfz16_0:=zao BK209.out 0;have hfz16_1:=zao BK209.out 1)|((with_reducible refine zax (f:=54) rfl ?_);refine zc1 (some 13) rfl rfl Tryz.func54 (by kernel_rfl) rfl #[.pointer (some ⟨g204,0,none⟩)] rfl (by (try simp only [List.map_toArray,List.map_cons,List.map_nil]);first|done|rfl) ?_;(with_reducible refine (zaQ.calls k g204 t201 t207 t208 t210 t211 t212 t213 w _ ?side1 ?side2 A4.out).mono ?_);(case side1=>repeat (with_reducible first|exact HI204.out|apply ze.alloc|apply ze.drewN|apply ze.set_1|apply ze.set_2|refine ze.far ?_ NB204_198.out _|refine ze.far ?_ NB204_199.out _|refine ze.far ?_ NB204_200.out _|refine ze.far ?_ NB204_209.out _));(case side2=>repeat (with_reducible first|exact HB.out|apply zy|apply zm|refine zn ?_ (ze.ge HI204.out)|refine zn ?_ GE198.out|refine zn ?_ GE199.out|refine zn ?_ GE200.out|refine zn ?_ GE209.out));rintro e w17 ⟨rfl,hi,hb,hk⟩;refine ⟨_,rfl,?_⟩;have n0_:=zl.mk (zA.blk hk (g':=gb198) (o:= .cells #[.int .i64 0,.int .i64 0] 28 (0,0)) (by refine zce ?_ NB198_209.out _;refine zce ?_ NB198_209.out _;exact BK198.out) NB198_204.out (by simp));have n1_:=zl.mk (zA.blk hk (g':=gb199) (o:= .cells #[.int .i64 0,.int .i64 0] 28 (0,0)) (by refine zce ?_ NB199_209.out _;refine zce ?_ NB199_209.out _;exact BK199.out) NB199_204.out (by simp));have n2_:=zl.mk (zA.blk hk (g':=gb200) (o:= .cells #[.int .i64 0,.int .i64 0] 28 (0,0)) (by refine zce ?_ NB200_209.out _;refine zce ?_ NB200_209.out _;exact BK200.out) NB200_204.out (by simp));have n3_:=zl.mk (zA.blk hk (g':=gb209) (o:= .cells #[.int .i64 t205,.int .i64 t206] 28 (0,0)) (by refine zca (cs:=#[.int .i64 t205,.int .i64 0]) ?_ 1 _ rfl;refine zca (cs:=#[.int .i64 0,.int .i64 0]) ?_ 0 _ rfl;exact BK209.out) NB209_204.out (by simp));have n4_:=zl.mk (hb);have n5_:=zl.mk (hi);clear BK198;clear BK199;clear BK200;clear BK209;clear HB;clear HI204;have BK198:=n0_;have BK199:=n1_;have BK200:=n2_;have BK209:=n3_;have HB:=n4_;have HI204:=n5_;clear n0_ n1_ n2_ n3_ n4_ n5_;(try clear hb);(try clear hb2);(try clear hk);(try clear hi))|((with_reducible refine zdE (N:=7) rfl ?_);refine zeM ?hg (N:=7) ?hd (cs:=#[.int .i64 0,.int .i64 0]) (t:=28) ?hr ?_;(case hd=>rfl);(case hg=>rfl);(case hr=>first|(go_simp;done)|(go_simp;rfl));intro gb214 hg w18 hbox hb;have n0_:=zl.mk (zbx (g:=gb198) (o:= .cells #[.int .i64 0,.int .i64 0] 28 (0,0)) (by exact BK198.out) hb);have n1_:=zl.mk (zbx (g:=gb199) (o:= .cells #[.int .i64 0,.int .i64 0] 28 (0,0)) (by exact BK199.out) hb);have n2_:=zl.mk (zbx (g:=gb200) (o:= .cells #[.int .i64 0,.int .i64 0] 28 (0,0)) (by exact BK200.out) hb);have n3_:=zl.mk (ze.below (by repeat (with_reducible first|exact HI204.out|apply ze.alloc|apply ze.drewN|apply ze.set_1|apply ze.set_2|refine ze.far ?_ NB204_198.out _|refine ze.far ?_ NB204_199.out _|refine ze.far ?_ NB204_200.out _|refine ze.far ?_ NB204_209.out _)) hb);have n4_:=zl.mk (zbx (g:=gb209) (o:= .cells #[.int .i64 t205,.int .i64 t206] 28 (0,0)) (by exact BK209.out) hb);have n5_:=zl.mk (zbQ (by repeat (with_reducible first|exact HB.out|apply zy|apply zm|refine zn ?_ (ze.ge HI204.out)|refine zn ?_ GE198.out|refine zn ?_ GE199.out|refine zn ?_ GE200.out|refine zn ?_ GE209.out)) hb);have n6_:=zl.mk (hbox);have n7_:=zl.mk ((by rw [hg];exact (zdm (by repeat (with_reducible first|exact HB.out|apply zy|apply zm|refine zn ?_ (ze.ge HI204.out)|refine zn ?_ GE198.out|refine zn ?_ GE199.out|refine zn ?_ GE200.out|refine zn ?_ GE209.out))):w.heap.size<=gb214));have n8_:=zl.mk ((by rw [hg];exact (zdm (by repeat (with_reducible first|exact HB.out|apply zy|apply zm|refine zn ?_ (ze.ge HI204.out)|refine zn ?_ GE198.out|refine zn ?_ GE199.out|refine zn ?_ GE200.out|refine zn ?_ GE209.out))):w.heap.size<=gb214));have n9_:=zl.mk ((by rw [hg];exact Nat.ne_of_lt (zfC (g:=gb198) (o:= .cells #[.int .i64 0,.int .i64 0] 28 (0,0)) (by exact BK198.out)):gb198≠gb214));have n10_:=zl.mk ((by rw [hg];exact Nat.ne_of_gt (zfC (g:=gb198) (o:= .cells #[.int .i64 0,.int .i64 0] 28 (0,0)) (by exact BK198.out)):gb214≠gb198));have n11_:=zl.mk ((by rw [hg];exact Nat.ne_of_lt (zfC (g:=gb199) (o:= .cells #[.int .i64 0,.int .i64 0] 28 (0,0)) (by exact BK199.out)):gb199≠gb214));have n12_:=zl.mk ((by rw [hg];exact Nat.ne_of_gt (zfC (g:=gb199) (o:= .cells #[.int .i64 0,.int .i64 0] 28 (0,0)) (by exact BK199.out)):gb214≠gb199));have n13_:=zl.mk ((by rw [hg];exact Nat.ne_of_lt (zfC (g:=gb200) (o:= .cells #[.int .i64 0,.int .i64 0] 28 (0,0)) (by exact BK200.out)):gb200≠gb214));have n14_:=zl.mk ((by rw [hg];exact Nat.ne_of_gt (zfC (g:=gb200) (o:= .cells #[.int .i64 0,.int .i64 0] 28 (0,0)) (by exact BK200.out)):gb214≠gb200));have n15_:=zl.mk ((by rw [hg];exact Nat.ne_of_lt (zfC (g:=gb209) (o:= .cells #[.int .i64 t205,.int .i64 t206] 28 (0,0)) (by exact BK209.out)):gb209≠gb214));have n16_:=zl.mk ((by rw [hg];exact Nat.ne_of_gt (zfC (g:=gb209) (o:= .cells #[.int .i64 t205,.int .i64 t206] 28 (0,0)) (by exact BK209.out)):gb214≠gb209));have n17_:=zl.mk ((by rw [hg];exact Nat.ne_of_lt (ze.lt (show ze w _ g204 t201 t212 t213 from by repeat (with_reducible first|exact HI204.out|apply ze.alloc|apply ze.drewN|apply ze.set_1|apply ze.set_2|refine ze.far ?_ NB204_198.out _|refine ze.far ?_ NB204_199.out _|refine ze.far ?_ NB204_200.out _|refine ze.far ?_ NB204_209.out _))):g204≠gb214));have n18_:=zl.mk ((by rw [hg];exact Nat.ne_of_gt (ze.lt (show ze w _ g204 t201 t212 t213 from by repeat (with_reducible first|exact HI204.out|apply ze.alloc|apply ze.drewN|apply ze.set_1|apply ze.set_2|refine ze.far ?_ NB204_198.out _|refine ze.far ?_ NB204_199.out _|refine ze.far ?_ NB204_200.out _|refine ze.far ?_ NB204_209.out _))):gb214≠g204));clear BK198;clear BK199;clear BK200;clear HI204;clear BK209;clear HB;have BK198:=n0_;have BK199:=n1_;have BK200:=n2_;have HI204:=n3_;have BK209:=n4_;have HB:=n5_;have BK214:=n6_;have GW214:=n7_;have GE214:=n8_;have NB198_214:=n9_;have NB214_198:=n10_;have NB199_214:=n11_;have NB214_199:=n12_;have NB200_214:=n13_;have NB214_200:=n14_;have NB209_214:=n15_;have NB214_209:=n16_;have NB204_214:=n17_;have NB214_204:=n18_;clear n0_ n1_ n2_ n3_ n4_ n5_ n6_ n7_ n8_ n9_ n10_ n11_ n12_ n13_ n14_ n15_ n16_ n17_ n18_;clear hb hbox hg;have hnb19:=NB214_198.out;have hnc19:=NB198_214.out;have hnb20:=NB214_199.out;have hnc20:=NB199_214.out;have hnb21:=NB214_200.out;have hnc21:=NB200_214.out;have hnb22:=NB214_209.out;have hnc22:=NB209_214.out;have hnb23:=NB214_204.out;have hnc23:=NB204_214.out;have hcz24_0:w18.cell? ⟨gb214,0,none⟩=some (.int .i64 0):=(zaL BK214.out 0).trans rfl;have hcz24_1:w18.cell? ⟨gb214,1,none⟩=some (.int .i64 0):=(zaL BK214.out 1).trans rfl;have hfz24_0:=zao BK214.out 0;have hfz24_1:=zao BK214.out 1))
 have n0_:zl (((w18.setCell ⟨gb214,0,none⟩ (.int .i64 t210)).setCell ⟨gb214,1,none⟩ (.int .i64 t211)).heap[gb198]?=some (.cells #[.int .i64 0,.int .i64 0] 28 (0,0))):=⟨by refine zce ?_ NB198_214.out _;refine zce ?_ NB198_214.out _;exact BK198.out⟩
 have n1_:zl (((w18.setCell ⟨gb214,0,none⟩ (.int .i64 t210)).setCell ⟨gb214,1,none⟩ (.int .i64 t211)).heap[gb199]?=some (.cells #[.int .i64 0,.int .i64 0] 28 (0,0))):=⟨by refine zce ?_ NB199_214.out _;refine zce ?_ NB199_214.out _;exact BK199.out⟩
 have n2_:zl (((w18.setCell ⟨gb214,0,none⟩ (.int .i64 t210)).setCell ⟨gb214,1,none⟩ (.int .i64 t211)).heap[gb200]?=some (.cells #[.int .i64 0,.int .i64 0] 28 (0,0))):=⟨by refine zce ?_ NB200_214.out _;refine zce ?_ NB200_214.out _;exact BK200.out⟩
 have n3_:zl (((w18.setCell ⟨gb214,0,none⟩ (.int .i64 t210)).setCell ⟨gb214,1,none⟩ (.int .i64 t211)).heap[gb209]?=some (.cells #[.int .i64 t205,.int .i64 t206] 28 (0,0))):=⟨by refine zce ?_ NB209_214.out _;refine zce ?_ NB209_214.out _;exact BK209.out⟩
 have n4_:zl (((w18.setCell ⟨gb214,0,none⟩ (.int .i64 t210)).setCell ⟨gb214,1,none⟩ (.int .i64 t211)).heap[gb214]?=some (.cells #[.int .i64 t210,.int .i64 t211] 28 (0,0))):=⟨by refine zca (cs:=#[.int .i64 t210,.int .i64 0]) ?_ 1 _ rfl;refine zca (cs:=#[.int .i64 0,.int .i64 0]) ?_ 0 _ rfl;exact BK214.out⟩
 have n5_:zl (ze w ((w18.setCell ⟨gb214,0,none⟩ (.int .i64 t210)).setCell ⟨gb214,1,none⟩ (.int .i64 t211)) g204 t201 t212 t213):=⟨by repeat (with_reducible first|exact HI204.out|apply ze.alloc|apply ze.drewN|apply ze.set_1|apply ze.set_2|refine ze.far ?_ NB204_198.out _|refine ze.far ?_ NB204_199.out _|refine ze.far ?_ NB204_200.out _|refine ze.far ?_ NB204_209.out _|refine ze.far ?_ NB204_214.out _)⟩
 have n6_:zl (Below w.heap.size w ((w18.setCell ⟨gb214,0,none⟩ (.int .i64 t210)).setCell ⟨gb214,1,none⟩ (.int .i64 t211))):=⟨by repeat (with_reducible first|exact HB.out|apply zy|apply zm|refine zn ?_ (ze.ge HI204.out)|refine zn ?_ GE198.out|refine zn ?_ GE199.out|refine zn ?_ GE200.out|refine zn ?_ GE209.out|refine zn ?_ GE214.out)⟩
 (try clear BK198)
 (try clear BK199)
 (try clear BK200)
 (try clear BK209)
 (try clear BK214)
 (try clear HI204)
 (try clear HB)
 generalize ((w18.setCell ⟨gb214,0,none⟩ (.int .i64 t210)).setCell ⟨gb214,1,none⟩ (.int .i64 t211))=w25 at n0_ n1_ n2_ n3_ n4_ n5_ n6_ ⊢
 have BK198:=n0_
 have BK199:=n1_
 have BK200:=n2_
 have BK209:=n3_
 have BK214:=n4_
 have HI204:=n5_
 have HB:=n6_
 clear n0_ n1_ n2_ n3_ n4_ n5_ n6_
 have n0_:=zl.mk (zrV BK198.out)
 have n1_:=zl.mk (zrV BK199.out)
 have n2_:=zl.mk (zrV BK200.out)
 have n3_:=zl.mk (zrV BK209.out)
 have n4_:=zl.mk (zrV BK214.out)
 have n5_:=zl.mk (ze.drew HI204.out)
 have n6_:=zl.mk (zdx HB.out)
 clear BK198
 clear BK199
 clear BK200
 clear BK209
 clear BK214
 clear HI204
 clear HB
 have BK198:=n0_
 have BK199:=n1_
 have BK200:=n2_
 have BK209:=n3_
 have BK214:=n4_
 have HI204:=n5_
 have HB:=n6_
 clear n0_ n1_ n2_ n3_ n4_ n5_ n6_
 refine zNd (n:=7) (S:=fun w'=>w'.cell? ⟨gb209,0,none⟩=some (.int .i64 t205)/\w'.cell? ⟨gb209,1,none⟩=some (.int .i64 t206)/\w'.cell? ⟨gb214,0,none⟩=some (.int .i64 t210)/\w'.cell? ⟨gb214,1,none⟩=some (.int .i64 t211)) (ds:= []) #[false,false,false,false,false,false,false] (by kernel_rfl) rfl rfl ⟨(zaL BK209.out 0).trans rfl,(zaL BK209.out 1).trans rfl,(zaL BK214.out 0).trans rfl,(zaL BK214.out 1).trans rfl⟩ (fun hHeld=>?_)
 generalize w25.drew=w26 at BK198 BK199 BK200 BK209 BK214 HI204 HB hHeld ⊢
 refine zQF (i:=2) (N:=some 16) (v:=?_) (a':=?_) #[false,false,true,false,false,false,false] rfl rfl (by kernel_rfl) (fun _ _ _ h=>h) (Or.inl ⟨by rfl,?_⟩) ?_ ?_
 rotate_left
 ·intro w'
  go_simp
  with_reducible rfl
 rotate_left
 ·simp only [Act.put,List.setIfInBounds_toArray,List.set_cons_zero,List.set_cons_succ,zJS,zJT]
  rfl
 refine zNb (i:=0) (N:=some 14) (v:=?_) (a':=?_) #[true,false,true,false,false,false,false] rfl rfl (by kernel_rfl) (fun _ _ _ h=>h) (Or.inl ⟨by rfl,?_⟩) hHeld ?_ ?_
 rotate_left
 ·rintro w' ⟨s0,s1,s2,s3⟩
  go_simp
  with_reducible rfl
 rotate_left
 ·simp only [Act.put,List.setIfInBounds_toArray,List.set_cons_zero,List.set_cons_succ,zJS,zJT]
  rfl
 refine zNb (i:=1) (N:=some 15) (v:=?_) (a':=?_) #[true,true,true,false,false,false,false] rfl rfl (by kernel_rfl) (fun _ _ _ h=>h) (Or.inl ⟨by rfl,?_⟩) hHeld ?_ ?_
 rotate_left
 ·rintro w' ⟨s0,s1,s2,s3⟩
  go_simp
  with_reducible rfl
 rotate_left
 ·simp only [Act.put,List.setIfInBounds_toArray,List.set_cons_zero,List.set_cons_succ,zJS,zJT]
  rfl
 refine one_ (i:=3) (N:=some 17) #[true,true,true,true,false,false,false] rfl rfl (by kernel_rfl) (by decide) (fun K hK=>?_)
 refine zQZ Tryz.func54 (by kernel_rfl) rfl #[.pointer (some ⟨g204,0,none⟩)] (by rfl) rfl rfl (by (try simp only [List.map_toArray,List.map_cons,List.map_nil]);first|done|rfl) ?_
 with_reducible refine (zaQ.calls k g204 t201 t212 t213 t215 t216 t217 t218 w _ ?side1 ?side2 A5.out).mono ?_
 (case side1=>repeat (with_reducible first|exact HI204.out|apply ze.alloc|apply ze.drewN|apply ze.set_1|apply ze.set_2|refine ze.far ?_ NB204_198.out _|refine ze.far ?_ NB204_199.out _|refine ze.far ?_ NB204_200.out _|refine ze.far ?_ NB204_209.out _|refine ze.far ?_ NB204_214.out _))
 (case side2=>repeat (with_reducible first|exact HB.out|apply zy|apply zm|refine zn ?_ (ze.ge HI204.out)|refine zn ?_ GE198.out|refine zn ?_ GE199.out|refine zn ?_ GE200.out|refine zn ?_ GE209.out|refine zn ?_ GE214.out))
 rintro e w27 ⟨rfl,hi,hb,hk⟩
 refine ⟨_,rfl,?_⟩
 have n0_:=zl.mk (zA.blk hk (g':=gb198) (o:= .cells #[.int .i64 0,.int .i64 0] 28 (0,0)) (by exact BK198.out) NB198_204.out (by simp))
 have n1_:=zl.mk (zA.blk hk (g':=gb199) (o:= .cells #[.int .i64 0,.int .i64 0] 28 (0,0)) (by exact BK199.out) NB199_204.out (by simp))
 have n2_:=zl.mk (zA.blk hk (g':=gb200) (o:= .cells #[.int .i64 0,.int .i64 0] 28 (0,0)) (by exact BK200.out) NB200_204.out (by simp))
 have n3_:=zl.mk (zA.blk hk (g':=gb209) (o:= .cells #[.int .i64 t205,.int .i64 t206] 28 (0,0)) (by exact BK209.out) NB209_204.out (by simp))
 have n4_:=zl.mk (zA.blk hk (g':=gb214) (o:= .cells #[.int .i64 t210,.int .i64 t211] 28 (0,0)) (by exact BK214.out) NB214_204.out (by simp))
 have n5_:=zl.mk (hb)
 have n6_:=zl.mk (hi)
 clear BK198
 clear BK199
 clear BK200
 clear BK209
 clear BK214
 clear HB
 clear HI204
 have BK198:=n0_
 have BK199:=n1_
 have BK200:=n2_
 have BK209:=n3_
 have BK214:=n4_
 have HB:=n5_
 have HI204:=n6_
 clear n0_ n1_ n2_ n3_ n4_ n5_ n6_
 (try clear hb)
 (try clear hb2)
 (try clear hk)
 (try clear hi)
 refine hK.out _ _ ⟨(zaL BK209.out 0).trans rfl,(zaL BK209.out 1).trans rfl,(zaL BK214.out 0).trans rfl,(zaL BK214.out 1).trans rfl⟩ (fun hHeld=>?_)
 clear hK K
 refine zQI (a':=?_) ?_ ?_
 rotate_left
 ·show Act.put _ (some 17) _=_
  simp only [Act.put,List.setIfInBounds_toArray,List.set_cons_zero,List.set_cons_succ,zJS,zJT]
  rfl
 refine one_ (i:=4) (N:=none) #[true,true,true,true,true,false,false] rfl rfl (by kernel_rfl) (by decide) (fun K hK=>?_)
 have hs28:w27.cell? ⟨gb198,0,none⟩=some (.int .i64 0):=(zaL BK198.out 0).trans rfl
 have hfs28:=zao BK198.out 0
 have hns28_1:=NB199_198.out
 have hns28_2:=NB200_198.out
 have hns28_3:=NB209_198.out
 have hns28_4:=NB214_198.out
 have hms28_1:=NB198_199.out
 have hms28_2:=NB198_200.out
 have hms28_3:=NB198_209.out
 have hms28_4:=NB198_214.out
 have hs29:w27.cell? ⟨gb198,1,none⟩=some (.int .i64 0):=(zaL BK198.out 1).trans rfl
 have hfs29:=zao BK198.out 1
 have hns29_1:=NB199_198.out
 have hns29_2:=NB200_198.out
 have hns29_3:=NB209_198.out
 have hns29_4:=NB214_198.out
 have hms29_1:=NB198_199.out
 have hms29_2:=NB198_200.out
 have hms29_3:=NB198_209.out
 have hms29_4:=NB198_214.out
 refine zLt (w1:=?_) (by rfl) rfl ?_ ?_
 rotate_left
 ·go_simp
  rfl
 refine hK.out _ _ ⟨((cell_far (p:=⟨gb198,_,none⟩) NB209_198.out _).trans (((cell_far (p:=⟨gb198,_,none⟩) NB209_198.out _).trans (hHeld.1)))),((cell_far (p:=⟨gb198,_,none⟩) NB209_198.out _).trans (((cell_far (p:=⟨gb198,_,none⟩) NB209_198.out _).trans (hHeld.2.1)))),((cell_far (p:=⟨gb198,_,none⟩) NB214_198.out _).trans (((cell_far (p:=⟨gb198,_,none⟩) NB214_198.out _).trans (hHeld.2.2.1)))),((cell_far (p:=⟨gb198,_,none⟩) NB214_198.out _).trans (((cell_far (p:=⟨gb198,_,none⟩) NB214_198.out _).trans (hHeld.2.2.2))))⟩ (fun hHeld=>?_)
 clear hK K
 refine one_ (i:=5) (N:=none) #[true,true,true,true,true,true,false] rfl rfl (by kernel_rfl) (by decide) (fun K hK=>?_)
 have hs30:w27.cell? ⟨gb199,0,none⟩=some (.int .i64 0):=(zaL BK199.out 0).trans rfl
 have hfs30:=zao BK199.out 0
 have hns30_0:=NB198_199.out
 have hns30_2:=NB200_199.out
 have hns30_3:=NB209_199.out
 have hns30_4:=NB214_199.out
 have hms30_0:=NB199_198.out
 have hms30_2:=NB199_200.out
 have hms30_3:=NB199_209.out
 have hms30_4:=NB199_214.out
 have hs31:w27.cell? ⟨gb199,1,none⟩=some (.int .i64 0):=(zaL BK199.out 1).trans rfl
 have hfs31:=zao BK199.out 1
 have hns31_0:=NB198_199.out
 have hns31_2:=NB200_199.out
 have hns31_3:=NB209_199.out
 have hns31_4:=NB214_199.out
 have hms31_0:=NB199_198.out
 have hms31_2:=NB199_200.out
 have hms31_3:=NB199_209.out
 have hms31_4:=NB199_214.out
 refine zLt (w1:=?_) (by rfl) rfl ?_ ?_
 rotate_left
 ·go_simp
  rfl
 refine hK.out _ _ ⟨((cell_far (p:=⟨gb199,_,none⟩) NB209_199.out _).trans (((cell_far (p:=⟨gb199,_,none⟩) NB209_199.out _).trans (hHeld.1)))),((cell_far (p:=⟨gb199,_,none⟩) NB209_199.out _).trans (((cell_far (p:=⟨gb199,_,none⟩) NB209_199.out _).trans (hHeld.2.1)))),((cell_far (p:=⟨gb199,_,none⟩) NB214_199.out _).trans (((cell_far (p:=⟨gb199,_,none⟩) NB214_199.out _).trans (hHeld.2.2.1)))),((cell_far (p:=⟨gb199,_,none⟩) NB214_199.out _).trans (((cell_far (p:=⟨gb199,_,none⟩) NB214_199.out _).trans (hHeld.2.2.2))))⟩ (fun hHeld=>?_)
 clear hK K
 refine one_ (i:=6) (N:=none) #[true,true,true,true,true,true,true] rfl rfl (by kernel_rfl) (by decide) (fun K hK=>?_)
 have hs32:w27.cell? ⟨gb200,0,none⟩=some (.int .i64 0):=(zaL BK200.out 0).trans rfl
 have hfs32:=zao BK200.out 0
 have hns32_0:=NB198_200.out
 have hns32_1:=NB199_200.out
 have hns32_3:=NB209_200.out
 have hns32_4:=NB214_200.out
 have hms32_0:=NB200_198.out
 have hms32_1:=NB200_199.out
 have hms32_3:=NB200_209.out
 have hms32_4:=NB200_214.out
 have hs33:w27.cell? ⟨gb200,1,none⟩=some (.int .i64 0):=(zaL BK200.out 1).trans rfl
 have hfs33:=zao BK200.out 1
 have hns33_0:=NB198_200.out
 have hns33_1:=NB199_200.out
 have hns33_3:=NB209_200.out
 have hns33_4:=NB214_200.out
 have hms33_0:=NB200_198.out
 have hms33_1:=NB200_199.out
 have hms33_3:=NB200_209.out
 have hms33_4:=NB200_214.out
 refine zLt (w1:=?_) (by rfl) rfl ?_ ?_
 rotate_left
 ·go_simp
  rfl
 refine hK.out _ _ ⟨((cell_far (p:=⟨gb200,_,none⟩) NB209_200.out _).trans (((cell_far (p:=⟨gb200,_,none⟩) NB209_200.out _).trans (hHeld.1)))),((cell_far (p:=⟨gb200,_,none⟩) NB209_200.out _).trans (((cell_far (p:=⟨gb200,_,none⟩) NB209_200.out _).trans (hHeld.2.1)))),((cell_far (p:=⟨gb200,_,none⟩) NB214_200.out _).trans (((cell_far (p:=⟨gb200,_,none⟩) NB214_200.out _).trans (hHeld.2.2.1)))),((cell_far (p:=⟨gb200,_,none⟩) NB214_200.out _).trans (((cell_far (p:=⟨gb200,_,none⟩) NB214_200.out _).trans (hHeld.2.2.2))))⟩ (fun hHeld=>?_)
 clear hK K
 refine zQ2 (by kernel_rfl) ?_
 try go_wp2
 refine bodyPost_ret (zAS (rs:= [.cell 2 28,.cell 3 28,.cell 4 28]) rfl (by simp) (.cell gb198 28 #[.int .i64 t205,.int .i64 t206] (0,0) _ rfl (by refine zce ?_ NB198_200.out _;refine zce ?_ NB198_200.out _;refine zce ?_ NB198_199.out _;refine zce ?_ NB198_199.out _;refine zca (cs:=#[.int .i64 t205,.int .i64 0]) ?_ 1 _ rfl;refine zca (cs:=#[.int .i64 0,.int .i64 0]) ?_ 0 _ rfl;exact BK198.out) Tryz.underlying28 rfl (by kernel_rfl) (.cell gb199 28 #[.int .i64 t210,.int .i64 t211] (0,0) _ rfl (by refine zce ?_ NB199_200.out _;refine zce ?_ NB199_200.out _;refine zca (cs:=#[.int .i64 t210,.int .i64 0]) ?_ 1 _ rfl;refine zca (cs:=#[.int .i64 0,.int .i64 0]) ?_ 0 _ rfl;refine zce ?_ NB199_198.out _;refine zce ?_ NB199_198.out _;exact BK199.out) Tryz.underlying28 rfl (by kernel_rfl) (.cell gb200 28 #[.int .i64 t215,.int .i64 t216] (0,0) _ rfl (by refine zca (cs:=#[.int .i64 t215,.int .i64 0]) ?_ 1 _ rfl;refine zca (cs:=#[.int .i64 0,.int .i64 0]) ?_ 0 _ rfl;refine zce ?_ NB200_199.out _;refine zce ?_ NB200_199.out _;refine zce ?_ NB200_198.out _;refine zce ?_ NB200_198.out _;exact BK200.out) Tryz.underlying28 rfl (by kernel_rfl) .nil)))) rfl ?_
 exact ⟨by first|rfl|(simp [*]<;>rfl),by repeat (with_reducible first|exact HB.out|apply zy|apply zm|refine zn ?_ (ze.ge HI204.out)|refine zn ?_ GE198.out|refine zn ?_ GE199.out|refine zn ?_ GE200.out|refine zn ?_ GE209.out|refine zn ?_ GE214.out)⟩
end Go.Proofs.YtaoakfodkoifoaaGreat.PFnOmega
