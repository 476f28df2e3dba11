/- The law FnRhumbs gives true, whatever bytes come in. No conditions. (One of the texts of its proof, put together by a program of this session.) -/
import Derived.Test.YtfcjhkkpbnobhaaGreatQX0
import Derived.Test.YtfcjhkkpbnobhaaGreatQX1
set_option linter.unusedSectionVars false
set_option linter.unusedSimpArgs false
set_option linter.unusedVariables false
namespace Go.Proofs.YtfcjhkkpbnobhaaGreat.PFnRhumbs
open Go.RowKit Go.Proofs.YtfcjhkkpbnobhaaGreatW.PrintWords Go.Proofs.YtfcjhkkpbnobhaaGreatW.PrintLast Go.Proofs.YtfcjhkkpbnobhaaGreatW.PrintMore
def zaC.j0:Nat->Int->List Int->Int->Int->Int->Int->Int->Int->Int->Int->Option (Int×Int×Int×Int×Int×Int)
 | 0,_,_,_,_,_,_,_,_,_,_=>none
 | k+1,x18,x171000,x171001,x171002,x176000,x176001,x181000,x181001,x186000,x186001=>if x18=0 then ((zS.f x171000 x171001 x171002 4000).bind fun bt189=>((zcu.f (wrap64 (x176001+bt189.1))).bind fun t192=>(some (x176000,x176001,x176000,t192,x186000,x186001)))) else (if x18=1 then (some (x176000,x176001,x181000,x181001,x181000,x181001)) else (if x18=2 then (some (x176000,x176001,x181000,x176001,x186000,x186001)) else (some (x176000,x176001,x181000,x181001,x186000,x186001))))
def zaC.f (k:Nat) (l0:List Int):Option (Int×Int×Int×Int×Int×Int):=(spec_l00From.f l0).bind fun bt167=>((zaz.f k bt167.1 bt167.2.1 bt167.2.2).bind fun bt171=>((zaz.f k bt167.1 bt171.2.2.1 bt171.2.2.2).bind fun bt176=>((zaz.f k bt167.1 bt176.2.2.1 bt176.2.2.2).bind fun bt181=>((zS.f bt167.1 bt181.2.2.1 bt181.2.2.2 6).bind fun bt186=>(zaC.j0 k bt186.1 bt167.1 bt186.2.1 bt186.2.2 bt171.1 bt171.2.1 bt176.1 bt176.2.1 bt181.1 bt181.2.1)))))
def zaC.T7:Bool×List (List Nat×List Nat):=(true,[([],[]),([0],[0]),([],[]),([2],[2]),([],[]),([4],[4]),([3,5],[3,5]),([6,5],[6]),([1,7],[1,7]),([8,7,0,1,2,3,4,5,6,7,8],[8])])
def zaC.B7:List Nat:= [0,1,0,4,0,16,60,124,255,511]
theorem zaC.tab7:rtab .any (opsOf Tryz.f12 7)=zaC.T7:=by kernel_rfl
theorem zaC.bits7:waitsOk zaC.T7.2 zaC.B7=true:=by kernel_rfl
set_option maxHeartbeats 8000000 in
set_option maxRecDepth 100000 in
theorem zaC.calls (k:Nat) (A0:Option Addr) (c0:Nat) (l0:List Int) (r1:Int) (r2:Int) (r3:Int) (r4:Int) (r5:Int) (r6:Int) (w:World) (hr0:Kd.C (Kd.int .u8) w A0 l0.length l0) (hc0:l0.length<=c0) (h:zaC.f k l0=some (r1,r2,r3,r4,r5,r6)):
  Calls Tryz.prog 12 #[.slice A0 l0.length c0] w fun e w'=>e= .returned (.tuple #[.agg #[.int .i64 r1,.int .i64 r2],.agg #[.int .i64 r3,.int .i64 r4],.agg #[.int .i64 r5,.int .i64 r6]])/\Below w.heap.size w w':=by
 have hu24:=Tryz.underlying24
 have HR0:=zm.mk hr0
 have HC0:=zm.mk hc0
 clear hr0 hc0
 have HB:=zm.mk (Below.refl w.heap.size w)
 have H:((spec_l00From.f l0).bind fun bt167=>((zaz.f k bt167.1 bt167.2.1 bt167.2.2).bind fun bt171=>((zaz.f k bt167.1 bt171.2.2.1 bt171.2.2.2).bind fun bt176=>((zaz.f k bt167.1 bt176.2.2.1 bt176.2.2.2).bind fun bt181=>((zS.f bt167.1 bt181.2.2.1 bt181.2.2.2 6).bind fun bt186=>(zaC.j0 k bt186.1 bt167.1 bt186.2.1 bt186.2.2 bt171.1 bt171.2.1 bt176.1 bt176.2.1 bt181.1 bt181.2.1))))))=some (r1,r2,r3,r4,r5,r6):=h
 clear h
 replace H:=Option.bind_eq_some_iff.mp H
 obtain ⟨⟨t167,t168,t169⟩,A20,H⟩:=H
 replace H:((zaz.f k t167 t168 t169).bind fun bt171=>((zaz.f k t167 bt171.2.2.1 bt171.2.2.2).bind fun bt176=>((zaz.f k t167 bt176.2.2.1 bt176.2.2.2).bind fun bt181=>((zS.f t167 bt181.2.2.1 bt181.2.2.2 6).bind fun bt186=>(zaC.j0 k bt186.1 t167 bt186.2.1 bt186.2.2 bt171.1 bt171.2.1 bt176.1 bt176.2.1 bt181.1 bt181.2.1)))))=some (r1,r2,r3,r4,r5,r6):=H
 have A2:=zm.mk A20
 clear A20
 replace H:=Option.bind_eq_some_iff.mp H
 obtain ⟨⟨t171,t172,t173,t174⟩,A30,H⟩:=H
 replace H:((zaz.f k t167 t173 t174).bind fun bt176=>((zaz.f k t167 bt176.2.2.1 bt176.2.2.2).bind fun bt181=>((zS.f t167 bt181.2.2.1 bt181.2.2.2 6).bind fun bt186=>(zaC.j0 k bt186.1 t167 bt186.2.1 bt186.2.2 t171 t172 bt176.1 bt176.2.1 bt181.1 bt181.2.1))))=some (r1,r2,r3,r4,r5,r6):=H
 have A3:=zm.mk A30
 clear A30
 replace H:=Option.bind_eq_some_iff.mp H
 obtain ⟨⟨t176,t177,t178,t179⟩,A40,H⟩:=H
 replace H:((zaz.f k t167 t178 t179).bind fun bt181=>((zS.f t167 bt181.2.2.1 bt181.2.2.2 6).bind fun bt186=>(zaC.j0 k bt186.1 t167 bt186.2.1 bt186.2.2 t171 t172 t176 t177 bt181.1 bt181.2.1)))=some (r1,r2,r3,r4,r5,r6):=H
 have A4:=zm.mk A40
 clear A40
 replace H:=Option.bind_eq_some_iff.mp H
 obtain ⟨⟨t181,t182,t183,t184⟩,A50,H⟩:=H
 replace H:((zS.f t167 t183 t184 6).bind fun bt186=>(zaC.j0 k bt186.1 t167 bt186.2.1 bt186.2.2 t171 t172 t176 t177 t181 t182))=some (r1,r2,r3,r4,r5,r6):=H
 have A5:=zm.mk A50
 clear A50
 have HC6:=zm.mk H
 clear H
 go_enter Tryz.func12,Tryz.ntmps12
 go_upto_region 5 with (first|((with_reducible refine gate_dst (N:=2) rfl ?_);refine box_event ?hg (N:=2) ?hd (cs:=#[.int .i64 0,.int .i64 0]) (t:=24) ?hr ?_;(case hd=>rfl);(case hg=>rfl);(case hr=>first|(go_simp;done)|(go_simp;rfl));intro gb164 hg w7 hbox hb;have n0_:=zm.mk (zc4 (by repeat (first|(with_reducible first|exact HB.out|apply zw|apply zn|apply zu)|exact HB.out)) hb);have n1_:=zm.mk (hbox);have n2_:=zm.mk ((by rw [hg];exact (zc5 (by repeat (first|(with_reducible first|exact HB.out|apply zw|apply zn|apply zu)|exact HB.out))):w.heap.size<=gb164));have n3_:=zm.mk ((by rw [hg];exact (zc5 (by repeat (first|(with_reducible first|exact HB.out|apply zw|apply zn|apply zu)|exact HB.out))):w.heap.size<=gb164));clear HB;have HB:=n0_;have BK164:=n1_;have GW164:=n2_;have GE164:=n3_;clear n0_ n1_ n2_ n3_;clear hb hbox hg)|((with_reducible refine gate_dst (N:=3) rfl ?_);refine box_event ?hg (N:=3) ?hd (cs:=#[.int .i64 0,.int .i64 0]) (t:=24) ?hr ?_;(case hd=>rfl);(case hg=>rfl);(case hr=>first|(go_simp;done)|(go_simp;rfl));intro gb165 hg w8 hbox hb;have n0_:=zm.mk (zbh (g:=gb164) (o:= .cells #[.int .i64 0,.int .i64 0] 24 (0,0)) (by (with_reducible repeat (first|refine zf ?_ _|refine zk ?_|refine zh ?_ _));exact BK164.out) hb);have n1_:=zm.mk (zc4 (by repeat (first|(with_reducible first|exact HB.out|apply zw|apply zn|apply zu|refine zl ?_ GE164.out)|exact HB.out)) hb);have n2_:=zm.mk (hbox);have n3_:=zm.mk ((by rw [hg];exact (zc5 (by repeat (first|(with_reducible first|exact HB.out|apply zw|apply zn|apply zu|refine zl ?_ GE164.out)|exact HB.out))):w.heap.size<=gb165));have n4_:=zm.mk ((by rw [hg];exact (zc5 (by repeat (first|(with_reducible first|exact HB.out|apply zw|apply zn|apply zu|refine zl ?_ GE164.out)|exact HB.out))):w.heap.size<=gb165));have n5_:=zm.mk ((by rw [hg];exact Nat.ne_of_lt (zcA (g:=gb164) (o:= .cells #[.int .i64 0,.int .i64 0] 24 (0,0)) (by (with_reducible repeat (first|refine zf ?_ _|refine zk ?_|refine zh ?_ _));exact BK164.out)):gb164≠gb165));have n6_:=zm.mk ((by rw [hg];exact Nat.ne_of_gt (zcA (g:=gb164) (o:= .cells #[.int .i64 0,.int .i64 0] 24 (0,0)) (by (with_reducible repeat (first|refine zf ?_ _|refine zk ?_|refine zh ?_ _));exact BK164.out)):gb165≠gb164));clear BK164;clear HB;have BK164:=n0_;have HB:=n1_;have BK165:=n2_;have GW165:=n3_;have GE165:=n4_;have NB164_165:=n5_;have NB165_164:=n6_;clear n0_ n1_ n2_ n3_ n4_ n5_ n6_;clear hb hbox hg)|((with_reducible refine gate_dst (N:=4) rfl ?_);refine box_event ?hg (N:=4) ?hd (cs:=#[.int .i64 0,.int .i64 0]) (t:=24) ?hr ?_;(case hd=>rfl);(case hg=>rfl);(case hr=>first|(go_simp;done)|(go_simp;rfl));intro gb166 hg w9 hbox hb;have n0_:=zm.mk (zbh (g:=gb164) (o:= .cells #[.int .i64 0,.int .i64 0] 24 (0,0)) (by (with_reducible repeat (first|refine zf ?_ _|refine zk ?_|refine zh ?_ _));exact BK164.out) hb);have n1_:=zm.mk (zbh (g:=gb165) (o:= .cells #[.int .i64 0,.int .i64 0] 24 (0,0)) (by (with_reducible repeat (first|refine zf ?_ _|refine zk ?_|refine zh ?_ _));exact BK165.out) hb);have n2_:=zm.mk (zc4 (by repeat (first|(with_reducible first|exact HB.out|apply zw|apply zn|apply zu|refine zl ?_ GE164.out|refine zl ?_ GE165.out)|exact HB.out)) hb);have n3_:=zm.mk (hbox);have n4_:=zm.mk ((by rw [hg];exact (zc5 (by repeat (first|(with_reducible first|exact HB.out|apply zw|apply zn|apply zu|refine zl ?_ GE164.out|refine zl ?_ GE165.out)|exact HB.out))):w.heap.size<=gb166));have n5_:=zm.mk ((by rw [hg];exact (zc5 (by repeat (first|(with_reducible first|exact HB.out|apply zw|apply zn|apply zu|refine zl ?_ GE164.out|refine zl ?_ GE165.out)|exact HB.out))):w.heap.size<=gb166));have n6_:=zm.mk ((by rw [hg];exact Nat.ne_of_lt (zcA (g:=gb164) (o:= .cells #[.int .i64 0,.int .i64 0] 24 (0,0)) (by (with_reducible repeat (first|refine zf ?_ _|refine zk ?_|refine zh ?_ _));exact BK164.out)):gb164≠gb166));have n7_:=zm.mk ((by rw [hg];exact Nat.ne_of_gt (zcA (g:=gb164) (o:= .cells #[.int .i64 0,.int .i64 0] 24 (0,0)) (by (with_reducible repeat (first|refine zf ?_ _|refine zk ?_|refine zh ?_ _));exact BK164.out)):gb166≠gb164));have n8_:=zm.mk ((by rw [hg];exact Nat.ne_of_lt (zcA (g:=gb165) (o:= .cells #[.int .i64 0,.int .i64 0] 24 (0,0)) (by (with_reducible repeat (first|refine zf ?_ _|refine zk ?_|refine zh ?_ _));exact BK165.out)):gb165≠gb166));have n9_:=zm.mk ((by rw [hg];exact Nat.ne_of_gt (zcA (g:=gb165) (o:= .cells #[.int .i64 0,.int .i64 0] 24 (0,0)) (by (with_reducible repeat (first|refine zf ?_ _|refine zk ?_|refine zh ?_ _));exact BK165.out)):gb166≠gb165));clear BK164;clear BK165;clear HB;have BK164:=n0_;have BK165:=n1_;have HB:=n2_;have BK166:=n3_;have GW166:=n4_;have GE166:=n5_;have NB164_166:=n6_;have NB166_164:=n7_;have NB165_166:=n8_;have NB166_165:=n9_;clear n0_ n1_ n2_ n3_ n4_ n5_ n6_ n7_ n8_ n9_;clear hb hbox hg)|((with_reducible refine zaB (f:=73) rfl ?_);refine zdf (some 10) rfl rfl Tryz.func73 (by kernel_rfl) rfl #[.slice A0 l0.length c0] rfl (by (try simp only [List.map_toArray,List.map_cons,List.map_nil]);first|done|rfl|(simp only [List.length_drop,List.length_take];rfl)) ?_;(with_reducible refine (spec_l00From.calls _ _ l0 t167 t168 t169 w _ ?side1 ?side2 ?side3 A2.out).mono ?_);(case side1=>repeat (first|(with_reducible first|exact HB.out|apply zw|apply zn|apply zu|refine zl ?_ GE164.out|refine zl ?_ GE165.out|refine zl ?_ GE166.out)|exact HB.out));(case side2=>exact HR0.out);(case side3=>exact HC0.out);rintro e w10 ⟨g170,rfl,hi,hb,hb2⟩;refine ⟨_,rfl,?_⟩;have n0_:=zm.mk (zbh (g:=gb164) (o:= .cells #[.int .i64 0,.int .i64 0] 24 (0,0)) (by (with_reducible repeat (first|refine zf ?_ _|refine zk ?_|refine zh ?_ _));exact BK164.out) hb2);have n1_:=zm.mk (zbh (g:=gb165) (o:= .cells #[.int .i64 0,.int .i64 0] 24 (0,0)) (by (with_reducible repeat (first|refine zf ?_ _|refine zk ?_|refine zh ?_ _));exact BK165.out) hb2);have n2_:=zm.mk (zbh (g:=gb166) (o:= .cells #[.int .i64 0,.int .i64 0] 24 (0,0)) (by (with_reducible repeat (first|refine zf ?_ _|refine zk ?_|refine zh ?_ _));exact BK166.out) hb2);have n3_:=zm.mk (hb);have n4_:=zm.mk (hi);have n5_:=zm.mk (ze.ne_blk hi (zbh (g:=gb164) (o:= .cells #[.int .i64 0,.int .i64 0] 24 (0,0)) (by (with_reducible repeat (first|refine zf ?_ _|refine zk ?_|refine zh ?_ _));exact BK164.out) hb2) (by decide));have n6_:=zm.mk (Ne.symm (ze.ne_blk hi (zbh (g:=gb164) (o:= .cells #[.int .i64 0,.int .i64 0] 24 (0,0)) (by (with_reducible repeat (first|refine zf ?_ _|refine zk ?_|refine zh ?_ _));exact BK164.out) hb2) (by decide)));have n7_:=zm.mk (ze.ne_blk hi (zbh (g:=gb165) (o:= .cells #[.int .i64 0,.int .i64 0] 24 (0,0)) (by (with_reducible repeat (first|refine zf ?_ _|refine zk ?_|refine zh ?_ _));exact BK165.out) hb2) (by decide));have n8_:=zm.mk (Ne.symm (ze.ne_blk hi (zbh (g:=gb165) (o:= .cells #[.int .i64 0,.int .i64 0] 24 (0,0)) (by (with_reducible repeat (first|refine zf ?_ _|refine zk ?_|refine zh ?_ _));exact BK165.out) hb2) (by decide)));have n9_:=zm.mk (ze.ne_blk hi (zbh (g:=gb166) (o:= .cells #[.int .i64 0,.int .i64 0] 24 (0,0)) (by (with_reducible repeat (first|refine zf ?_ _|refine zk ?_|refine zh ?_ _));exact BK166.out) hb2) (by decide));have n10_:=zm.mk (Ne.symm (ze.ne_blk hi (zbh (g:=gb166) (o:= .cells #[.int .i64 0,.int .i64 0] 24 (0,0)) (by (with_reducible repeat (first|refine zf ?_ _|refine zk ?_|refine zh ?_ _));exact BK166.out) hb2) (by decide)));clear BK164;clear BK165;clear BK166;clear HB;have BK164:=n0_;have BK165:=n1_;have BK166:=n2_;have HB:=n3_;have HI170:=n4_;have NB170_164:=n5_;have NB164_170:=n6_;have NB170_165:=n7_;have NB165_170:=n8_;have NB170_166:=n9_;have NB166_170:=n10_;clear n0_ n1_ n2_ n3_ n4_ n5_ n6_ n7_ n8_ n9_ n10_;(try clear hb);(try clear hb2);(try clear hk);(try clear hi))|((with_reducible refine zaB (f:=74) rfl ?_);refine zdf (some 12) rfl rfl Tryz.func74 (by kernel_rfl) rfl #[.pointer (some ⟨g170,0,none⟩)] rfl (by (try simp only [List.map_toArray,List.map_cons,List.map_nil]);first|done|rfl|(simp only [List.length_drop,List.length_take];rfl)) ?_;(with_reducible refine (zaz.calls k g170 t167 t168 t169 t171 t172 t173 t174 w _ ?side1 ?side2 A3.out).mono ?_);(case side1=>repeat (first|(with_reducible first|exact HI170.out|apply ze.alloc|apply ze.drewN|apply ze.drew|apply ze.set_1|apply ze.set_2|refine ze.far ?_ NB170_164.out _|refine ze.far ?_ NB170_165.out _|refine ze.far ?_ NB170_166.out _)|exact HI170.out));(case side2=>repeat (first|(with_reducible first|exact HB.out|apply zw|apply zn|apply zu|refine zl ?_ (ze.ge HI170.out)|refine zl ?_ GE164.out|refine zl ?_ GE165.out|refine zl ?_ GE166.out)|exact HB.out));rintro e w11 ⟨rfl,hi,hb,hk⟩;refine ⟨_,rfl,?_⟩;have n0_:=zm.mk (zA.blk hk (g':=gb164) (o:= .cells #[.int .i64 0,.int .i64 0] 24 (0,0)) (by (with_reducible repeat (first|refine zf ?_ _|refine zk ?_|refine zh ?_ _));exact BK164.out) NB164_170.out (by simp));have n1_:=zm.mk (zA.blk hk (g':=gb165) (o:= .cells #[.int .i64 0,.int .i64 0] 24 (0,0)) (by (with_reducible repeat (first|refine zf ?_ _|refine zk ?_|refine zh ?_ _));exact BK165.out) NB165_170.out (by simp));have n2_:=zm.mk (zA.blk hk (g':=gb166) (o:= .cells #[.int .i64 0,.int .i64 0] 24 (0,0)) (by (with_reducible repeat (first|refine zf ?_ _|refine zk ?_|refine zh ?_ _));exact BK166.out) NB166_170.out (by simp));have n3_:=zm.mk (hb);have n4_:=zm.mk (hi);clear BK164;clear BK165;clear BK166;clear HB;clear HI170;have BK164:=n0_;have BK165:=n1_;have BK166:=n2_;have HB:=n3_;have HI170:=n4_;clear n0_ n1_ n2_ n3_ n4_;(try clear hb);(try clear hb2);(try clear hk);(try clear hi))|((with_reducible refine gate_dst (N:=6) rfl ?_);refine box_event ?hg (N:=6) ?hd (cs:=#[.int .i64 0,.int .i64 0]) (t:=24) ?hr ?_;(case hd=>rfl);(case hg=>rfl);(case hr=>first|(go_simp;done)|(go_simp;rfl));intro gb175 hg w12 hbox hb;have n0_:=zm.mk (zbh (g:=gb164) (o:= .cells #[.int .i64 0,.int .i64 0] 24 (0,0)) (by (with_reducible repeat (first|refine zf ?_ _|refine zk ?_|refine zh ?_ _));exact BK164.out) hb);have n1_:=zm.mk (zbh (g:=gb165) (o:= .cells #[.int .i64 0,.int .i64 0] 24 (0,0)) (by (with_reducible repeat (first|refine zf ?_ _|refine zk ?_|refine zh ?_ _));exact BK165.out) hb);have n2_:=zm.mk (zbh (g:=gb166) (o:= .cells #[.int .i64 0,.int .i64 0] 24 (0,0)) (by (with_reducible repeat (first|refine zf ?_ _|refine zk ?_|refine zh ?_ _));exact BK166.out) hb);have n3_:=zm.mk (ze.below (by repeat (first|(with_reducible first|exact HI170.out|apply ze.alloc|apply ze.drewN|apply ze.drew|apply ze.set_1|apply ze.set_2|refine ze.far ?_ NB170_164.out _|refine ze.far ?_ NB170_165.out _|refine ze.far ?_ NB170_166.out _)|exact HI170.out)) hb);have n4_:=zm.mk (zc4 (by repeat (first|(with_reducible first|exact HB.out|apply zw|apply zn|apply zu|refine zl ?_ (ze.ge HI170.out)|refine zl ?_ GE164.out|refine zl ?_ GE165.out|refine zl ?_ GE166.out)|exact HB.out)) hb);have n5_:=zm.mk (hbox);have n6_:=zm.mk ((by rw [hg];exact (zc5 (by repeat (first|(with_reducible first|exact HB.out|apply zw|apply zn|apply zu|refine zl ?_ (ze.ge HI170.out)|refine zl ?_ GE164.out|refine zl ?_ GE165.out|refine zl ?_ GE166.out)|exact HB.out))):w.heap.size<=gb175));have n7_:=zm.mk ((by rw [hg];exact (zc5 (by repeat (first|(with_reducible first|exact HB.out|apply zw|apply zn|apply zu|refine zl ?_ (ze.ge HI170.out)|refine zl ?_ GE164.out|refine zl ?_ GE165.out|refine zl ?_ GE166.out)|exact HB.out))):w.heap.size<=gb175));have n8_:=zm.mk ((by rw [hg];exact Nat.ne_of_lt (zcA (g:=gb164) (o:= .cells #[.int .i64 0,.int .i64 0] 24 (0,0)) (by (with_reducible repeat (first|refine zf ?_ _|refine zk ?_|refine zh ?_ _));exact BK164.out)):gb164≠gb175));have n9_:=zm.mk ((by rw [hg];exact Nat.ne_of_gt (zcA (g:=gb164) (o:= .cells #[.int .i64 0,.int .i64 0] 24 (0,0)) (by (with_reducible repeat (first|refine zf ?_ _|refine zk ?_|refine zh ?_ _));exact BK164.out)):gb175≠gb164));have n10_:=zm.mk ((by rw [hg];exact Nat.ne_of_lt (zcA (g:=gb165) (o:= .cells #[.int .i64 0,.int .i64 0] 24 (0,0)) (by (with_reducible repeat (first|refine zf ?_ _|refine zk ?_|refine zh ?_ _));exact BK165.out)):gb165≠gb175));have n11_:=zm.mk ((by rw [hg];exact Nat.ne_of_gt (zcA (g:=gb165) (o:= .cells #[.int .i64 0,.int .i64 0] 24 (0,0)) (by (with_reducible repeat (first|refine zf ?_ _|refine zk ?_|refine zh ?_ _));exact BK165.out)):gb175≠gb165));have n12_:=zm.mk ((by rw [hg];exact Nat.ne_of_lt (zcA (g:=gb166) (o:= .cells #[.int .i64 0,.int .i64 0] 24 (0,0)) (by (with_reducible repeat (first|refine zf ?_ _|refine zk ?_|refine zh ?_ _));exact BK166.out)):gb166≠gb175));have n13_:=zm.mk ((by rw [hg];exact Nat.ne_of_gt (zcA (g:=gb166) (o:= .cells #[.int .i64 0,.int .i64 0] 24 (0,0)) (by (with_reducible repeat (first|refine zf ?_ _|refine zk ?_|refine zh ?_ _));exact BK166.out)):gb175≠gb166));have n14_:=zm.mk ((by rw [hg];exact Nat.ne_of_lt (ze.lt (show ze w _ g170 t167 t173 t174 from by repeat (first|(with_reducible first|exact HI170.out|apply ze.alloc|apply ze.drewN|apply ze.drew|apply ze.set_1|apply ze.set_2|refine ze.far ?_ NB170_164.out _|refine ze.far ?_ NB170_165.out _|refine ze.far ?_ NB170_166.out _)|exact HI170.out))):g170≠gb175));have n15_:=zm.mk ((by rw [hg];exact Nat.ne_of_gt (ze.lt (show ze w _ g170 t167 t173 t174 from by repeat (first|(with_reducible first|exact HI170.out|apply ze.alloc|apply ze.drewN|apply ze.drew|apply ze.set_1|apply ze.set_2|refine ze.far ?_ NB170_164.out _|refine ze.far ?_ NB170_165.out _|refine ze.far ?_ NB170_166.out _)|exact HI170.out))):gb175≠g170));clear BK164;clear BK165;clear BK166;clear HI170;clear HB;have BK164:=n0_;have BK165:=n1_;have BK166:=n2_;have HI170:=n3_;have HB:=n4_;have BK175:=n5_;have GW175:=n6_;have GE175:=n7_;have NB164_175:=n8_;have NB175_164:=n9_;have NB165_175:=n10_;have NB175_165:=n11_;have NB166_175:=n12_;have NB175_166:=n13_;have NB170_175:=n14_;have NB175_170:=n15_;clear n0_ n1_ n2_ n3_ n4_ n5_ n6_ n7_ n8_ n9_ n10_ n11_ n12_ n13_ n14_ n15_;clear hb hbox hg;have hnb13:=NB175_164.out;have hnc13:=NB164_175.out;have hnb14:=NB175_165.out;have hnc14:=NB165_175.out;have hnb15:=NB175_166.out;have hnc15:=NB166_175.out;have hnb16:=NB175_170.out;have hnc16:=NB170_175.out;have hcz17_0:w12.cell? ⟨gb175,0,none⟩=some (.int .i64 0):=(zU BK175.out 0).trans rfl;have hcz17_1:w12.cell? ⟨gb175,1,none⟩=some (.int .i64 0):=(zU BK175.out 1).trans rfl;have hfz17_0:=zT BK175.out 0;have hfz17_1:=zT BK175.out 1)|((with_reducible refine zaB (f:=74) rfl ?_);refine zdf (some 14) rfl rfl Tryz.func74 (by kernel_rfl) rfl #[.pointer (some ⟨g170,0,none⟩)] rfl (by (try simp only [List.map_toArray,List.map_cons,List.map_nil]);first|done|rfl|(simp only [List.length_drop,List.length_take];rfl)) ?_;(with_reducible refine (zaz.calls k g170 t167 t173 t174 t176 t177 t178 t179 w _ ?side1 ?side2 A4.out).mono ?_);(case side1=>repeat (first|(with_reducible first|exact HI170.out|apply ze.alloc|apply ze.drewN|apply ze.drew|apply ze.set_1|apply ze.set_2|refine ze.far ?_ NB170_164.out _|refine ze.far ?_ NB170_165.out _|refine ze.far ?_ NB170_166.out _|refine ze.far ?_ NB170_175.out _)|exact HI170.out));(case side2=>repeat (first|(with_reducible first|exact HB.out|apply zw|apply zn|apply zu|refine zl ?_ (ze.ge HI170.out)|refine zl ?_ GE164.out|refine zl ?_ GE165.out|refine zl ?_ GE166.out|refine zl ?_ GE175.out)|exact HB.out));rintro e w18 ⟨rfl,hi,hb,hk⟩;refine ⟨_,rfl,?_⟩;have n0_:=zm.mk (zA.blk hk (g':=gb164) (o:= .cells #[.int .i64 0,.int .i64 0] 24 (0,0)) (by (with_reducible repeat (first|refine zf ?_ _|refine zk ?_|refine zh ?_ _));refine zad ?_ NB164_175.out _;(with_reducible repeat (first|refine zf ?_ _|refine zk ?_|refine zh ?_ _));refine zad ?_ NB164_175.out _;(with_reducible repeat (first|refine zf ?_ _|refine zk ?_|refine zh ?_ _));exact BK164.out) NB164_170.out (by simp));have n1_:=zm.mk (zA.blk hk (g':=gb165) (o:= .cells #[.int .i64 0,.int .i64 0] 24 (0,0)) (by (with_reducible repeat (first|refine zf ?_ _|refine zk ?_|refine zh ?_ _));refine zad ?_ NB165_175.out _;(with_reducible repeat (first|refine zf ?_ _|refine zk ?_|refine zh ?_ _));refine zad ?_ NB165_175.out _;(with_reducible repeat (first|refine zf ?_ _|refine zk ?_|refine zh ?_ _));exact BK165.out) NB165_170.out (by simp));have n2_:=zm.mk (zA.blk hk (g':=gb166) (o:= .cells #[.int .i64 0,.int .i64 0] 24 (0,0)) (by (with_reducible repeat (first|refine zf ?_ _|refine zk ?_|refine zh ?_ _));refine zad ?_ NB166_175.out _;(with_reducible repeat (first|refine zf ?_ _|refine zk ?_|refine zh ?_ _));refine zad ?_ NB166_175.out _;(with_reducible repeat (first|refine zf ?_ _|refine zk ?_|refine zh ?_ _));exact BK166.out) NB166_170.out (by simp));have n3_:=zm.mk (zA.blk hk (g':=gb175) (o:= .cells #[.int .i64 t171,.int .i64 t172] 24 (0,0)) (by (with_reducible repeat (first|refine zf ?_ _|refine zk ?_|refine zh ?_ _));refine zbg (cs:=#[.int .i64 t171,.int .i64 0]) ?_ 1 _ rfl;(with_reducible repeat (first|refine zf ?_ _|refine zk ?_|refine zh ?_ _));refine zbg (cs:=#[.int .i64 0,.int .i64 0]) ?_ 0 _ rfl;(with_reducible repeat (first|refine zf ?_ _|refine zk ?_|refine zh ?_ _));exact BK175.out) NB175_170.out (by simp));have n4_:=zm.mk (hb);have n5_:=zm.mk (hi);clear BK164;clear BK165;clear BK166;clear BK175;clear HB;clear HI170;have BK164:=n0_;have BK165:=n1_;have BK166:=n2_;have BK175:=n3_;have HB:=n4_;have HI170:=n5_;clear n0_ n1_ n2_ n3_ n4_ n5_;(try clear hb);(try clear hb2);(try clear hk);(try clear hi))|((with_reducible refine gate_dst (N:=7) rfl ?_);refine box_event ?hg (N:=7) ?hd (cs:=#[.int .i64 0,.int .i64 0]) (t:=24) ?hr ?_;(case hd=>rfl);(case hg=>rfl);(case hr=>first|(go_simp;done)|(go_simp;rfl));intro gb180 hg w19 hbox hb;have n0_:=zm.mk (zbh (g:=gb164) (o:= .cells #[.int .i64 0,.int .i64 0] 24 (0,0)) (by (with_reducible repeat (first|refine zf ?_ _|refine zk ?_|refine zh ?_ _));exact BK164.out) hb);have n1_:=zm.mk (zbh (g:=gb165) (o:= .cells #[.int .i64 0,.int .i64 0] 24 (0,0)) (by (with_reducible repeat (first|refine zf ?_ _|refine zk ?_|refine zh ?_ _));exact BK165.out) hb);have n2_:=zm.mk (zbh (g:=gb166) (o:= .cells #[.int .i64 0,.int .i64 0] 24 (0,0)) (by (with_reducible repeat (first|refine zf ?_ _|refine zk ?_|refine zh ?_ _));exact BK166.out) hb);have n3_:=zm.mk (ze.below (by repeat (first|(with_reducible first|exact HI170.out|apply ze.alloc|apply ze.drewN|apply ze.drew|apply ze.set_1|apply ze.set_2|refine ze.far ?_ NB170_164.out _|refine ze.far ?_ NB170_165.out _|refine ze.far ?_ NB170_166.out _|refine ze.far ?_ NB170_175.out _)|exact HI170.out)) hb);have n4_:=zm.mk (zbh (g:=gb175) (o:= .cells #[.int .i64 t171,.int .i64 t172] 24 (0,0)) (by (with_reducible repeat (first|refine zf ?_ _|refine zk ?_|refine zh ?_ _));exact BK175.out) hb);have n5_:=zm.mk (zc4 (by repeat (first|(with_reducible first|exact HB.out|apply zw|apply zn|apply zu|refine zl ?_ (ze.ge HI170.out)|refine zl ?_ GE164.out|refine zl ?_ GE165.out|refine zl ?_ GE166.out|refine zl ?_ GE175.out)|exact HB.out)) hb);have n6_:=zm.mk (hbox);have n7_:=zm.mk ((by rw [hg];exact (zc5 (by repeat (first|(with_reducible first|exact HB.out|apply zw|apply zn|apply zu|refine zl ?_ (ze.ge HI170.out)|refine zl ?_ GE164.out|refine zl ?_ GE165.out|refine zl ?_ GE166.out|refine zl ?_ GE175.out)|exact HB.out))):w.heap.size<=gb180));have n8_:=zm.mk ((by rw [hg];exact (zc5 (by repeat (first|(with_reducible first|exact HB.out|apply zw|apply zn|apply zu|refine zl ?_ (ze.ge HI170.out)|refine zl ?_ GE164.out|refine zl ?_ GE165.out|refine zl ?_ GE166.out|refine zl ?_ GE175.out)|exact HB.out))):w.heap.size<=gb180));have n9_:=zm.mk ((by rw [hg];exact Nat.ne_of_lt (zcA (g:=gb164) (o:= .cells #[.int .i64 0,.int .i64 0] 24 (0,0)) (by (with_reducible repeat (first|refine zf ?_ _|refine zk ?_|refine zh ?_ _));exact BK164.out)):gb164≠gb180));have n10_:=zm.mk ((by rw [hg];exact Nat.ne_of_gt (zcA (g:=gb164) (o:= .cells #[.int .i64 0,.int .i64 0] 24 (0,0)) (by (with_reducible repeat (first|refine zf ?_ _|refine zk ?_|refine zh ?_ _));exact BK164.out)):gb180≠gb164));have n11_:=zm.mk ((by rw [hg];exact Nat.ne_of_lt (zcA (g:=gb165) (o:= .cells #[.int .i64 0,.int .i64 0] 24 (0,0)) (by (with_reducible repeat (first|refine zf ?_ _|refine zk ?_|refine zh ?_ _));exact BK165.out)):gb165≠gb180));have n12_:=zm.mk ((by rw [hg];exact Nat.ne_of_gt (zcA (g:=gb165) (o:= .cells #[.int .i64 0,.int .i64 0] 24 (0,0)) (by (with_reducible repeat (first|refine zf ?_ _|refine zk ?_|refine zh ?_ _));exact BK165.out)):gb180≠gb165));have n13_:=zm.mk ((by rw [hg];exact Nat.ne_of_lt (zcA (g:=gb166) (o:= .cells #[.int .i64 0,.int .i64 0] 24 (0,0)) (by (with_reducible repeat (first|refine zf ?_ _|refine zk ?_|refine zh ?_ _));exact BK166.out)):gb166≠gb180));have n14_:=zm.mk ((by rw [hg];exact Nat.ne_of_gt (zcA (g:=gb166) (o:= .cells #[.int .i64 0,.int .i64 0] 24 (0,0)) (by (with_reducible repeat (first|refine zf ?_ _|refine zk ?_|refine zh ?_ _));exact BK166.out)):gb180≠gb166));have n15_:=zm.mk ((by rw [hg];exact Nat.ne_of_lt (zcA (g:=gb175) (o:= .cells #[.int .i64 t171,.int .i64 t172] 24 (0,0)) (by (with_reducible repeat (first|refine zf ?_ _|refine zk ?_|refine zh ?_ _));exact BK175.out)):gb175≠gb180));have n16_:=zm.mk ((by rw [hg];exact Nat.ne_of_gt (zcA (g:=gb175) (o:= .cells #[.int .i64 t171,.int .i64 t172] 24 (0,0)) (by (with_reducible repeat (first|refine zf ?_ _|refine zk ?_|refine zh ?_ _));exact BK175.out)):gb180≠gb175));have n17_:=zm.mk ((by rw [hg];exact Nat.ne_of_lt (ze.lt (show ze w _ g170 t167 t178 t179 from by repeat (first|(with_reducible first|exact HI170.out|apply ze.alloc|apply ze.drewN|apply ze.drew|apply ze.set_1|apply ze.set_2|refine ze.far ?_ NB170_164.out _|refine ze.far ?_ NB170_165.out _|refine ze.far ?_ NB170_166.out _|refine ze.far ?_ NB170_175.out _)|exact HI170.out))):g170≠gb180));have n18_:=zm.mk ((by rw [hg];exact Nat.ne_of_gt (ze.lt (show ze w _ g170 t167 t178 t179 from by repeat (first|(with_reducible first|exact HI170.out|apply ze.alloc|apply ze.drewN|apply ze.drew|apply ze.set_1|apply ze.set_2|refine ze.far ?_ NB170_164.out _|refine ze.far ?_ NB170_165.out _|refine ze.far ?_ NB170_166.out _|refine ze.far ?_ NB170_175.out _)|exact HI170.out))):gb180≠g170));clear BK164;clear BK165;clear BK166;clear HI170;clear BK175;clear HB;have BK164:=n0_;have BK165:=n1_;have BK166:=n2_;have HI170:=n3_;have BK175:=n4_;have HB:=n5_;have BK180:=n6_;have GW180:=n7_;have GE180:=n8_;have NB164_180:=n9_;have NB180_164:=n10_;have NB165_180:=n11_;have NB180_165:=n12_;have NB166_180:=n13_;have NB180_166:=n14_;have NB175_180:=n15_;have NB180_175:=n16_;have NB170_180:=n17_;have NB180_170:=n18_;clear n0_ n1_ n2_ n3_ n4_ n5_ n6_ n7_ n8_ n9_ n10_ n11_ n12_ n13_ n14_ n15_ n16_ n17_ n18_;clear hb hbox hg;have hnb20:=NB180_164.out;have hnc20:=NB164_180.out;have hnb21:=NB180_165.out;have hnc21:=NB165_180.out;have hnb22:=NB180_166.out;have hnc22:=NB166_180.out;have hnb23:=NB180_175.out;have hnc23:=NB175_180.out;have hnb24:=NB180_170.out;have hnc24:=NB170_180.out;have hcz25_0:w19.cell? ⟨gb180,0,none⟩=some (.int .i64 0):=(zU BK180.out 0).trans rfl;have hcz25_1:w19.cell? ⟨gb180,1,none⟩=some (.int .i64 0):=(zU BK180.out 1).trans rfl;have hfz25_0:=zT BK180.out 0;have hfz25_1:=zT BK180.out 1)|((with_reducible refine zaB (f:=74) rfl ?_);refine zdf (some 16) rfl rfl Tryz.func74 (by kernel_rfl) rfl #[.pointer (some ⟨g170,0,none⟩)] rfl (by (try simp only [List.map_toArray,List.map_cons,List.map_nil]);first|done|rfl|(simp only [List.length_drop,List.length_take];rfl)) ?_;(with_reducible refine (zaz.calls k g170 t167 t178 t179 t181 t182 t183 t184 w _ ?side1 ?side2 A5.out).mono ?_);(case side1=>repeat (first|(with_reducible first|exact HI170.out|apply ze.alloc|apply ze.drewN|apply ze.drew|apply ze.set_1|apply ze.set_2|refine ze.far ?_ NB170_164.out _|refine ze.far ?_ NB170_165.out _|refine ze.far ?_ NB170_166.out _|refine ze.far ?_ NB170_175.out _|refine ze.far ?_ NB170_180.out _)|exact HI170.out));(case side2=>repeat (first|(with_reducible first|exact HB.out|apply zw|apply zn|apply zu|refine zl ?_ (ze.ge HI170.out)|refine zl ?_ GE164.out|refine zl ?_ GE165.out|refine zl ?_ GE166.out|refine zl ?_ GE175.out|refine zl ?_ GE180.out)|exact HB.out));rintro e w26 ⟨rfl,hi,hb,hk⟩;refine ⟨_,rfl,?_⟩;have n0_:=zm.mk (zA.blk hk (g':=gb164) (o:= .cells #[.int .i64 0,.int .i64 0] 24 (0,0)) (by (with_reducible repeat (first|refine zf ?_ _|refine zk ?_|refine zh ?_ _));refine zad ?_ NB164_180.out _;(with_reducible repeat (first|refine zf ?_ _|refine zk ?_|refine zh ?_ _));refine zad ?_ NB164_180.out _;(with_reducible repeat (first|refine zf ?_ _|refine zk ?_|refine zh ?_ _));exact BK164.out) NB164_170.out (by simp));have n1_:=zm.mk (zA.blk hk (g':=gb165) (o:= .cells #[.int .i64 0,.int .i64 0] 24 (0,0)) (by (with_reducible repeat (first|refine zf ?_ _|refine zk ?_|refine zh ?_ _));refine zad ?_ NB165_180.out _;(with_reducible repeat (first|refine zf ?_ _|refine zk ?_|refine zh ?_ _));refine zad ?_ NB165_180.out _;(with_reducible repeat (first|refine zf ?_ _|refine zk ?_|refine zh ?_ _));exact BK165.out) NB165_170.out (by simp));have n2_:=zm.mk (zA.blk hk (g':=gb166) (o:= .cells #[.int .i64 0,.int .i64 0] 24 (0,0)) (by (with_reducible repeat (first|refine zf ?_ _|refine zk ?_|refine zh ?_ _));refine zad ?_ NB166_180.out _;(with_reducible repeat (first|refine zf ?_ _|refine zk ?_|refine zh ?_ _));refine zad ?_ NB166_180.out _;(with_reducible repeat (first|refine zf ?_ _|refine zk ?_|refine zh ?_ _));exact BK166.out) NB166_170.out (by simp));have n3_:=zm.mk (zA.blk hk (g':=gb175) (o:= .cells #[.int .i64 t171,.int .i64 t172] 24 (0,0)) (by (with_reducible repeat (first|refine zf ?_ _|refine zk ?_|refine zh ?_ _));refine zad ?_ NB175_180.out _;(with_reducible repeat (first|refine zf ?_ _|refine zk ?_|refine zh ?_ _));refine zad ?_ NB175_180.out _;(with_reducible repeat (first|refine zf ?_ _|refine zk ?_|refine zh ?_ _));exact BK175.out) NB175_170.out (by simp));have n4_:=zm.mk (zA.blk hk (g':=gb180) (o:= .cells #[.int .i64 t176,.int .i64 t177] 24 (0,0)) (by (with_reducible repeat (first|refine zf ?_ _|refine zk ?_|refine zh ?_ _));refine zbg (cs:=#[.int .i64 t176,.int .i64 0]) ?_ 1 _ rfl;(with_reducible repeat (first|refine zf ?_ _|refine zk ?_|refine zh ?_ _));refine zbg (cs:=#[.int .i64 0,.int .i64 0]) ?_ 0 _ rfl;(with_reducible repeat (first|refine zf ?_ _|refine zk ?_|refine zh ?_ _));exact BK180.out) NB180_170.out (by simp));have n5_:=zm.mk (hb);have n6_:=zm.mk (hi);clear BK164;clear BK165;clear BK166;clear BK175;clear BK180;clear HB;clear HI170;have BK164:=n0_;have BK165:=n1_;have BK166:=n2_;have BK175:=n3_;have BK180:=n4_;have HB:=n5_;have HI170:=n6_;clear n0_ n1_ n2_ n3_ n4_ n5_ n6_;(try clear hb);(try clear hb2);(try clear hk);(try clear hi))|((with_reducible refine gate_dst (N:=8) rfl ?_);refine box_event ?hg (N:=8) ?hd (cs:=#[.int .i64 0,.int .i64 0]) (t:=24) ?hr ?_;(case hd=>rfl);(case hg=>rfl);(case hr=>first|(go_simp;done)|(go_simp;rfl));intro gb185 hg w27 hbox hb;have n0_:=zm.mk (zbh (g:=gb164) (o:= .cells #[.int .i64 0,.int .i64 0] 24 (0,0)) (by (with_reducible repeat (first|refine zf ?_ _|refine zk ?_|refine zh ?_ _));exact BK164.out) hb);have n1_:=zm.mk (zbh (g:=gb165) (o:= .cells #[.int .i64 0,.int .i64 0] 24 (0,0)) (by (with_reducible repeat (first|refine zf ?_ _|refine zk ?_|refine zh ?_ _));exact BK165.out) hb);have n2_:=zm.mk (zbh (g:=gb166) (o:= .cells #[.int .i64 0,.int .i64 0] 24 (0,0)) (by (with_reducible repeat (first|refine zf ?_ _|refine zk ?_|refine zh ?_ _));exact BK166.out) hb);have n3_:=zm.mk (ze.below (by repeat (first|(with_reducible first|exact HI170.out|apply ze.alloc|apply ze.drewN|apply ze.drew|apply ze.set_1|apply ze.set_2|refine ze.far ?_ NB170_164.out _|refine ze.far ?_ NB170_165.out _|refine ze.far ?_ NB170_166.out _|refine ze.far ?_ NB170_175.out _|refine ze.far ?_ NB170_180.out _)|exact HI170.out)) hb);have n4_:=zm.mk (zbh (g:=gb175) (o:= .cells #[.int .i64 t171,.int .i64 t172] 24 (0,0)) (by (with_reducible repeat (first|refine zf ?_ _|refine zk ?_|refine zh ?_ _));exact BK175.out) hb);have n5_:=zm.mk (zbh (g:=gb180) (o:= .cells #[.int .i64 t176,.int .i64 t177] 24 (0,0)) (by (with_reducible repeat (first|refine zf ?_ _|refine zk ?_|refine zh ?_ _));exact BK180.out) hb);have n6_:=zm.mk (zc4 (by repeat (first|(with_reducible first|exact HB.out|apply zw|apply zn|apply zu|refine zl ?_ (ze.ge HI170.out)|refine zl ?_ GE164.out|refine zl ?_ GE165.out|refine zl ?_ GE166.out|refine zl ?_ GE175.out|refine zl ?_ GE180.out)|exact HB.out)) hb);have n7_:=zm.mk (hbox);have n8_:=zm.mk ((by rw [hg];exact (zc5 (by repeat (first|(with_reducible first|exact HB.out|apply zw|apply zn|apply zu|refine zl ?_ (ze.ge HI170.out)|refine zl ?_ GE164.out|refine zl ?_ GE165.out|refine zl ?_ GE166.out|refine zl ?_ GE175.out|refine zl ?_ GE180.out)|exact HB.out))):w.heap.size<=gb185));have n9_:=zm.mk ((by rw [hg];exact (zc5 (by repeat (first|(with_reducible first|exact HB.out|apply zw|apply zn|apply zu|refine zl ?_ (ze.ge HI170.out)|refine zl ?_ GE164.out|refine zl ?_ GE165.out|refine zl ?_ GE166.out|refine zl ?_ GE175.out|refine zl ?_ GE180.out)|exact HB.out))):w.heap.size<=gb185));have n10_:=zm.mk ((by rw [hg];exact Nat.ne_of_lt (zcA (g:=gb164) (o:= .cells #[.int .i64 0,.int .i64 0] 24 (0,0)) (by (with_reducible repeat (first|refine zf ?_ _|refine zk ?_|refine zh ?_ _));exact BK164.out)):gb164≠gb185));have n11_:=zm.mk ((by rw [hg];exact Nat.ne_of_gt (zcA (g:=gb164) (o:= .cells #[.int .i64 0,.int .i64 0] 24 (0,0)) (by (with_reducible repeat (first|refine zf ?_ _|refine zk ?_|refine zh ?_ _));exact BK164.out)):gb185≠gb164));have n12_:=zm.mk ((by rw [hg];exact Nat.ne_of_lt (zcA (g:=gb165) (o:= .cells #[.int .i64 0,.int .i64 0] 24 (0,0)) (by (with_reducible repeat (first|refine zf ?_ _|refine zk ?_|refine zh ?_ _));exact BK165.out)):gb165≠gb185));have n13_:=zm.mk ((by rw [hg];exact Nat.ne_of_gt (zcA (g:=gb165) (o:= .cells #[.int .i64 0,.int .i64 0] 24 (0,0)) (by (with_reducible repeat (first|refine zf ?_ _|refine zk ?_|refine zh ?_ _));exact BK165.out)):gb185≠gb165));have n14_:=zm.mk ((by rw [hg];exact Nat.ne_of_lt (zcA (g:=gb166) (o:= .cells #[.int .i64 0,.int .i64 0] 24 (0,0)) (by (with_reducible repeat (first|refine zf ?_ _|refine zk ?_|refine zh ?_ _));exact BK166.out)):gb166≠gb185));have n15_:=zm.mk ((by rw [hg];exact Nat.ne_of_gt (zcA (g:=gb166) (o:= .cells #[.int .i64 0,.int .i64 0] 24 (0,0)) (by (with_reducible repeat (first|refine zf ?_ _|refine zk ?_|refine zh ?_ _));exact BK166.out)):gb185≠gb166));have n16_:=zm.mk ((by rw [hg];exact Nat.ne_of_lt (zcA (g:=gb175) (o:= .cells #[.int .i64 t171,.int .i64 t172] 24 (0,0)) (by (with_reducible repeat (first|refine zf ?_ _|refine zk ?_|refine zh ?_ _));exact BK175.out)):gb175≠gb185));have n17_:=zm.mk ((by rw [hg];exact Nat.ne_of_gt (zcA (g:=gb175) (o:= .cells #[.int .i64 t171,.int .i64 t172] 24 (0,0)) (by (with_reducible repeat (first|refine zf ?_ _|refine zk ?_|refine zh ?_ _));exact BK175.out)):gb185≠gb175));have n18_:=zm.mk ((by rw [hg];exact Nat.ne_of_lt (zcA (g:=gb180) (o:= .cells #[.int .i64 t176,.int .i64 t177] 24 (0,0)) (by (with_reducible repeat (first|refine zf ?_ _|refine zk ?_|refine zh ?_ _));exact BK180.out)):gb180≠gb185));have n19_:=zm.mk ((by rw [hg];exact Nat.ne_of_gt (zcA (g:=gb180) (o:= .cells #[.int .i64 t176,.int .i64 t177] 24 (0,0)) (by (with_reducible repeat (first|refine zf ?_ _|refine zk ?_|refine zh ?_ _));exact BK180.out)):gb185≠gb180));have n20_:=zm.mk ((by rw [hg];exact Nat.ne_of_lt (ze.lt (show ze w _ g170 t167 t183 t184 from by repeat (first|(with_reducible first|exact HI170.out|apply ze.alloc|apply ze.drewN|apply ze.drew|apply ze.set_1|apply ze.set_2|refine ze.far ?_ NB170_164.out _|refine ze.far ?_ NB170_165.out _|refine ze.far ?_ NB170_166.out _|refine ze.far ?_ NB170_175.out _|refine ze.far ?_ NB170_180.out _)|exact HI170.out))):g170≠gb185));have n21_:=zm.mk ((by rw [hg];exact Nat.ne_of_gt (ze.lt (show ze w _ g170 t167 t183 t184 from by repeat (first|(with_reducible first|exact HI170.out|apply ze.alloc|apply ze.drewN|apply ze.drew|apply ze.set_1|apply ze.set_2|refine ze.far ?_ NB170_164.out _|refine ze.far ?_ NB170_165.out _|refine ze.far ?_ NB170_166.out _|refine ze.far ?_ NB170_175.out _|refine ze.far ?_ NB170_180.out _)|exact HI170.out))):gb185≠g170));clear BK164;clear BK165;clear BK166;clear HI170;clear BK175;clear BK180;clear HB;have BK164:=n0_;have BK165:=n1_;have BK166:=n2_;have HI170:=n3_;have BK175:=n4_;have BK180:=n5_;have HB:=n6_;have BK185:=n7_;have GW185:=n8_;have GE185:=n9_;have NB164_185:=n10_;have NB185_164:=n11_;have NB165_185:=n12_;have NB185_165:=n13_;have NB166_185:=n14_;have NB185_166:=n15_;have NB175_185:=n16_;have NB185_175:=n17_;have NB180_185:=n18_;have NB185_180:=n19_;have NB170_185:=n20_;have NB185_170:=n21_;clear n0_ n1_ n2_ n3_ n4_ n5_ n6_ n7_ n8_ n9_ n10_ n11_ n12_ n13_ n14_ n15_ n16_ n17_ n18_ n19_ n20_ n21_;clear hb hbox hg;have hnb28:=NB185_164.out;have hnc28:=NB164_185.out;have hnb29:=NB185_165.out;have hnc29:=NB165_185.out;have hnb30:=NB185_166.out;have hnc30:=NB166_185.out;have hnb31:=NB185_175.out;have hnc31:=NB175_185.out;have hnb32:=NB185_180.out;have hnc32:=NB180_185.out;have hnb33:=NB185_170.out;have hnc33:=NB170_185.out;have hcz34_0:w27.cell? ⟨gb185,0,none⟩=some (.int .i64 0):=(zU BK185.out 0).trans rfl;have hcz34_1:w27.cell? ⟨gb185,1,none⟩=some (.int .i64 0):=(zU BK185.out 1).trans rfl;have hfz34_0:=zT BK185.out 0;have hfz34_1:=zT BK185.out 1))
 (try simp only [Act.put,List.setIfInBounds_toArray,List.set_cons_zero,List.set_cons_succ])
 go_cut [18] (fun v18 wc=>∃(kq:Nat) (x18_5:Int) (x171001_5:Int) (x171002_5:Int),v18= .int .i64 x18_5/\zm (zaC.j0 kq x18_5 t167 x171001_5 x171002_5 t171 t172 t176 t177 t181 t182=some (r1,r2,r3,r4,r5,r6))/\zm (kq<=k)/\zm (wc.heap[gb164]?=some (.cells #[.int .i64 0,.int .i64 0] 24 (0,0)))/\zm (wc.heap[gb165]?=some (.cells #[.int .i64 0,.int .i64 0] 24 (0,0)))/\zm (wc.heap[gb166]?=some (.cells #[.int .i64 0,.int .i64 0] 24 (0,0)))/\zm (wc.heap[gb175]?=some (.cells #[.int .i64 t171,.int .i64 t172] 24 (0,0)))/\zm (wc.heap[gb180]?=some (.cells #[.int .i64 t176,.int .i64 t177] 24 (0,0)))/\zm (wc.heap[gb185]?=some (.cells #[.int .i64 t181,.int .i64 t182] 24 (0,0)))/\zm (ze w wc g170 t167 x171001_5 x171002_5)/\zm (Below w.heap.size w wc))
 case first=>
  have H:=HC6.out
  clear HC6
  replace H:=Option.bind_eq_some_iff.mp H
  obtain ⟨⟨t186,t187,t188⟩,A350,H⟩:=H
  replace H:(zaC.j0 k t186 t167 t187 t188 t171 t172 t176 t177 t181 t182)=some (r1,r2,r3,r4,r5,r6):=H
  have A35:=zm.mk A350
  clear A350
  have H':=zm.mk H
  clear H
  go_wp2_with (first|((with_reducible refine zaB (f:=75) rfl ?_);refine zdf (some 18) rfl rfl Tryz.func75 (by kernel_rfl) rfl #[.pointer (some ⟨g170,0,none⟩),.int .i64 6] rfl (by (try simp only [List.map_toArray,List.map_cons,List.map_nil]);first|done|rfl|(simp only [List.length_drop,List.length_take];rfl)) ?_;(with_reducible refine (zS.calls g170 t167 t183 t184 6 t186 t187 t188 w _ ?side1 ?side2 A35.out).mono ?_);(case side1=>repeat (first|(with_reducible first|exact HI170.out|apply ze.alloc|apply ze.drewN|apply ze.drew|apply ze.set_1|apply ze.set_2|refine ze.far ?_ NB170_164.out _|refine ze.far ?_ NB170_165.out _|refine ze.far ?_ NB170_166.out _|refine ze.far ?_ NB170_175.out _|refine ze.far ?_ NB170_180.out _|refine ze.far ?_ NB170_185.out _)|exact HI170.out));(case side2=>repeat (first|(with_reducible first|exact HB.out|apply zw|apply zn|apply zu|refine zl ?_ (ze.ge HI170.out)|refine zl ?_ GE164.out|refine zl ?_ GE165.out|refine zl ?_ GE166.out|refine zl ?_ GE175.out|refine zl ?_ GE180.out|refine zl ?_ GE185.out)|exact HB.out));rintro e w36 ⟨rfl,hi,hb,hk⟩;refine ⟨_,rfl,?_⟩;have n0_:=zm.mk (zA.blk hk (g':=gb164) (o:= .cells #[.int .i64 0,.int .i64 0] 24 (0,0)) (by (with_reducible repeat (first|refine zf ?_ _|refine zk ?_|refine zh ?_ _));refine zad ?_ NB164_185.out _;(with_reducible repeat (first|refine zf ?_ _|refine zk ?_|refine zh ?_ _));refine zad ?_ NB164_185.out _;(with_reducible repeat (first|refine zf ?_ _|refine zk ?_|refine zh ?_ _));exact BK164.out) NB164_170.out (by simp));have n1_:=zm.mk (zA.blk hk (g':=gb165) (o:= .cells #[.int .i64 0,.int .i64 0] 24 (0,0)) (by (with_reducible repeat (first|refine zf ?_ _|refine zk ?_|refine zh ?_ _));refine zad ?_ NB165_185.out _;(with_reducible repeat (first|refine zf ?_ _|refine zk ?_|refine zh ?_ _));refine zad ?_ NB165_185.out _;(with_reducible repeat (first|refine zf ?_ _|refine zk ?_|refine zh ?_ _));exact BK165.out) NB165_170.out (by simp));have n2_:=zm.mk (zA.blk hk (g':=gb166) (o:= .cells #[.int .i64 0,.int .i64 0] 24 (0,0)) (by (with_reducible repeat (first|refine zf ?_ _|refine zk ?_|refine zh ?_ _));refine zad ?_ NB166_185.out _;(with_reducible repeat (first|refine zf ?_ _|refine zk ?_|refine zh ?_ _));refine zad ?_ NB166_185.out _;(with_reducible repeat (first|refine zf ?_ _|refine zk ?_|refine zh ?_ _));exact BK166.out) NB166_170.out (by simp));have n3_:=zm.mk (zA.blk hk (g':=gb175) (o:= .cells #[.int .i64 t171,.int .i64 t172] 24 (0,0)) (by (with_reducible repeat (first|refine zf ?_ _|refine zk ?_|refine zh ?_ _));refine zad ?_ NB175_185.out _;(with_reducible repeat (first|refine zf ?_ _|refine zk ?_|refine zh ?_ _));refine zad ?_ NB175_185.out _;(with_reducible repeat (first|refine zf ?_ _|refine zk ?_|refine zh ?_ _));exact BK175.out) NB175_170.out (by simp));have n4_:=zm.mk (zA.blk hk (g':=gb180) (o:= .cells #[.int .i64 t176,.int .i64 t177] 24 (0,0)) (by (with_reducible repeat (first|refine zf ?_ _|refine zk ?_|refine zh ?_ _));refine zad ?_ NB180_185.out _;(with_reducible repeat (first|refine zf ?_ _|refine zk ?_|refine zh ?_ _));refine zad ?_ NB180_185.out _;(with_reducible repeat (first|refine zf ?_ _|refine zk ?_|refine zh ?_ _));exact BK180.out) NB180_170.out (by simp));have n5_:=zm.mk (zA.blk hk (g':=gb185) (o:= .cells #[.int .i64 t181,.int .i64 t182] 24 (0,0)) (by (with_reducible repeat (first|refine zf ?_ _|refine zk ?_|refine zh ?_ _));refine zbg (cs:=#[.int .i64 t181,.int .i64 0]) ?_ 1 _ rfl;(with_reducible repeat (first|refine zf ?_ _|refine zk ?_|refine zh ?_ _));refine zbg (cs:=#[.int .i64 0,.int .i64 0]) ?_ 0 _ rfl;(with_reducible repeat (first|refine zf ?_ _|refine zk ?_|refine zh ?_ _));exact BK185.out) NB185_170.out (by simp));have n6_:=zm.mk (hb);have n7_:=zm.mk (hi);clear BK164;clear BK165;clear BK166;clear BK175;clear BK180;clear BK185;clear HB;clear HI170;have BK164:=n0_;have BK165:=n1_;have BK166:=n2_;have BK175:=n3_;have BK180:=n4_;have BK185:=n5_;have HB:=n6_;have HI170:=n7_;clear n0_ n1_ n2_ n3_ n4_ n5_ n6_ n7_;(try clear hb);(try clear hb2);(try clear hk);(try clear hi)))
  go_meet
  case rel=>exact ⟨_,(t186),(t187),(t188),(by first|rfl|(simp;done)|(simp [*];done)),H',⟨by first|omega|exact Nat.le_refl _⟩,⟨by (with_reducible repeat (first|refine zf ?_ _|refine zk ?_|refine zh ?_ _));exact BK164.out⟩,⟨by (with_reducible repeat (first|refine zf ?_ _|refine zk ?_|refine zh ?_ _));exact BK165.out⟩,⟨by (with_reducible repeat (first|refine zf ?_ _|refine zk ?_|refine zh ?_ _));exact BK166.out⟩,⟨by (with_reducible repeat (first|refine zf ?_ _|refine zk ?_|refine zh ?_ _));exact BK175.out⟩,⟨by (with_reducible repeat (first|refine zf ?_ _|refine zk ?_|refine zh ?_ _));exact BK180.out⟩,⟨by (with_reducible repeat (first|refine zf ?_ _|refine zk ?_|refine zh ?_ _));exact BK185.out⟩,⟨by repeat (first|(with_reducible first|exact HI170.out|apply ze.alloc|apply ze.drewN|apply ze.drew|apply ze.set_1|apply ze.set_2|refine ze.far ?_ NB170_164.out _|refine ze.far ?_ NB170_165.out _|refine ze.far ?_ NB170_166.out _|refine ze.far ?_ NB170_175.out _|refine ze.far ?_ NB170_180.out _|refine ze.far ?_ NB170_185.out _)|exact HI170.out)⟩,⟨by repeat (first|(with_reducible first|exact HB.out|apply zw|apply zn|apply zu|refine zl ?_ (ze.ge HI170.out)|refine zl ?_ GE164.out|refine zl ?_ GE165.out|refine zl ?_ GE166.out|refine zl ?_ GE175.out|refine zl ?_ GE180.out|refine zl ?_ GE185.out)|exact HB.out)⟩⟩
 case rest=>
  clear HC6
  try clear c1
  try clear c2
  try clear p2
  try clear c3
  try clear c7
  try clear c12
  try clear c13
  try clear c14
  try clear c15
  try clear c16
  try clear c20
  try clear c21
  try clear c22
  try clear c23
  try clear c24
  try clear c28
  try clear c29
  try clear c30
  try clear c31
  try clear c32
  try clear c33
  try clear hcz17_0
  try clear hcz17_1
  try clear hcz25_0
  try clear hcz25_1
  try clear hcz34_0
  try clear hcz34_1
  try clear hfz17_0
  try clear hfz17_1
  try clear hfz25_0
  try clear hfz25_1
  try clear hfz34_0
  try clear hfz34_1
  obtain ⟨kq,x18_5,x171001_5,x171002_5,rfl,HA,HJ5,BK164,BK165,BK166,BK175,BK180,BK185,HI170,HB⟩:=hcut
  cases kq with
  | zero=>exact absurd HA.out (by simp [zaC.j0])
  | succ kj5=>
   have H:=HA.out
   clear HA
   simp only [zaC.j0] at H
   by_cases c37:x18_5=0
   ·rw [if_pos c37] at H
    have c37b0:(x18_5==0)=true:=beq_iff_eq.mpr c37
    have c37b1:(x18_5 != 0)=false:=bne_eq_false_iff_eq.mpr c37
    clear c37
    replace H:=Option.bind_eq_some_iff.mp H
    obtain ⟨⟨t189,t190,t191⟩,A380,H⟩:=H
    replace H:((zcu.f (wrap64 (t172+t189))).bind fun t192=>(some (t171,t172,t171,t192,t181,t182)))=some (r1,r2,r3,r4,r5,r6):=H
    have A38:=zm.mk A380
    clear A380
    replace H:=Option.bind_eq_some_iff.mp H
    obtain ⟨t192,A390,H⟩:=H
    replace H:(some (t171,t172,t171,t192,t181,t182))=some (r1,r2,r3,r4,r5,r6):=H
    have A39:=zm.mk A390
    clear A390
    simp only [Option.some.injEq,Prod.mk.injEq] at H
    obtain ⟨rfl,rfl,rfl,rfl,rfl,rfl⟩:=H
    try go_wp2
    have n0_:=zm.mk (zk BK164.out)
    have n1_:=zm.mk (zk BK165.out)
    have n2_:=zm.mk (zk BK166.out)
    have n3_:=zm.mk (zk BK175.out)
    have n4_:=zm.mk (zk BK180.out)
    have n5_:=zm.mk (zk BK185.out)
    have n6_:=zm.mk (ze.drew HI170.out)
    have n7_:=zm.mk (zu HB.out)
    clear BK164
    clear BK165
    clear BK166
    clear BK175
    clear BK180
    clear BK185
    clear HI170
    clear HB
    have BK164:=n0_
    have BK165:=n1_
    have BK166:=n2_
    have BK175:=n3_
    have BK180:=n4_
    have BK185:=n5_
    have HI170:=n6_
    have HB:=n7_
    clear n0_ n1_ n2_ n3_ n4_ n5_ n6_ n7_
    refine start_ (n:=10) (S:=fun w'=>w'.cell? ⟨gb175,0,none⟩=some (.int .i64 t171)/\w'.cell? ⟨gb175,1,none⟩=some (.int .i64 t172)) (ds:= []) #[false,false,false,false,false,false,false,false,false,false] (by kernel_rfl) rfl rfl ⟨(zU BK175.out 0).trans rfl,(zU BK175.out 1).trans rfl⟩ (fun hHeld=>?_);refine with_tabW zaC.tab7 zaC.bits7 (fun HT_ HW_=>?_)
    generalize wc.drew=w40 at BK164 BK165 BK166 BK175 BK180 BK185 HI170 HB hHeld ⊢
    refine pure_ (i:=0) (N:=some 21) (v:=?_) (a':=?_) #[true,false,false,false,false,false,false,false,false,false] rfl rfl (any_of HT_.out (by kernel_rfl)) (fun _ _ _ h=>h) (Or.inl ⟨by rfl,?_⟩) ?_ ?_
    rotate_left
    ·intro w'
     go_simp
     with_reducible rfl
    rotate_left
    ·simp only [Act.put,List.setIfInBounds_toArray,List.set_cons_zero,List.set_cons_succ,i64_w,i32_w]
     rfl
    refine pure_ (i:=2) (N:=some 23) (v:=?_) (a':=?_) #[true,false,true,false,false,false,false,false,false,false] rfl rfl (any_of HT_.out (by kernel_rfl)) (fun _ _ _ h=>h) (Or.inl ⟨by rfl,?_⟩) ?_ ?_
    rotate_left
    ·intro w'
     go_simp
     with_reducible rfl
    rotate_left
    ·simp only [Act.put,List.setIfInBounds_toArray,List.set_cons_zero,List.set_cons_succ,i64_w,i32_w]
     rfl
    refine pure_ (i:=4) (N:=some 25) (v:=?_) (a':=?_) #[true,false,true,false,true,false,false,false,false,false] rfl rfl (any_of HT_.out (by kernel_rfl)) (fun _ _ _ h=>h) (Or.inl ⟨by rfl,?_⟩) ?_ ?_
    rotate_left
    ·intro w'
     go_simp
     with_reducible rfl
    rotate_left
    ·simp only [Act.put,List.setIfInBounds_toArray,List.set_cons_zero,List.set_cons_succ,i64_w,i32_w]
     rfl
    refine take_ (i:=1) (N:=some 22) (v:=?_) (a':=?_) #[true,true,true,false,true,false,false,false,false,false] rfl rfl (take_ofW HT_.out HW_.out (by kernel_rfl)) (fun _ _ _ h=>h) (Or.inl ⟨by rfl,?_⟩) hHeld ?_ ?_
    rotate_left
    ·rintro w' ⟨s0,s1⟩
     go_simp
     with_reducible rfl
    rotate_left
    ·simp only [Act.put,List.setIfInBounds_toArray,List.set_cons_zero,List.set_cons_succ,i64_w,i32_w]
     rfl
    refine take_ (i:=3) (N:=some 24) (v:=?_) (a':=?_) #[true,true,true,true,true,false,false,false,false,false] rfl rfl (take_ofW HT_.out HW_.out (by kernel_rfl)) (fun _ _ _ h=>h) (Or.inl ⟨by rfl,?_⟩) hHeld ?_ ?_
    rotate_left
    ·rintro w' ⟨s0,s1⟩
     go_simp
     with_reducible rfl
    rotate_left
    ·simp only [Act.put,List.setIfInBounds_toArray,List.set_cons_zero,List.set_cons_succ,i64_w,i32_w]
     rfl
    refine one_ (i:=5) (N:=some 26) #[true,true,true,true,true,true,false,false,false,false] rfl rfl (one_of HT_.out (by kernel_rfl)) (by decide) (fun K hK=>?_)
    refine goes_ Tryz.func75 (by kernel_rfl) rfl #[.pointer (some ⟨g170,0,none⟩),.int .i64 4000] (by rfl) rfl rfl (by (try simp only [List.map_toArray,List.map_cons,List.map_nil]);first|done|rfl|(simp only [List.length_drop,List.length_take];rfl)) ?_
    with_reducible refine (zS.calls g170 t167 x171001_5 x171002_5 4000 t189 t190 t191 w _ ?side1 ?side2 A38.out).mono ?_
    (case side1=>repeat (first|(with_reducible first|exact HI170.out|apply ze.alloc|apply ze.drewN|apply ze.drew|apply ze.set_1|apply ze.set_2|refine ze.far ?_ NB170_164.out _|refine ze.far ?_ NB170_165.out _|refine ze.far ?_ NB170_166.out _|refine ze.far ?_ NB170_175.out _|refine ze.far ?_ NB170_180.out _|refine ze.far ?_ NB170_185.out _)|exact HI170.out))
    (case side2=>repeat (first|(with_reducible first|exact HB.out|apply zw|apply zn|apply zu|refine zl ?_ (ze.ge HI170.out)|refine zl ?_ GE164.out|refine zl ?_ GE165.out|refine zl ?_ GE166.out|refine zl ?_ GE175.out|refine zl ?_ GE180.out|refine zl ?_ GE185.out)|exact HB.out))
    rintro e w41 ⟨rfl,hi,hb,hk⟩
    refine ⟨_,rfl,?_⟩
    have n0_:=zm.mk (zA.blk hk (g':=gb164) (o:= .cells #[.int .i64 0,.int .i64 0] 24 (0,0)) (by (with_reducible repeat (first|refine zf ?_ _|refine zk ?_|refine zh ?_ _));exact BK164.out) NB164_170.out (by simp))
    have n1_:=zm.mk (zA.blk hk (g':=gb165) (o:= .cells #[.int .i64 0,.int .i64 0] 24 (0,0)) (by (with_reducible repeat (first|refine zf ?_ _|refine zk ?_|refine zh ?_ _));exact BK165.out) NB165_170.out (by simp))
    have n2_:=zm.mk (zA.blk hk (g':=gb166) (o:= .cells #[.int .i64 0,.int .i64 0] 24 (0,0)) (by (with_reducible repeat (first|refine zf ?_ _|refine zk ?_|refine zh ?_ _));exact BK166.out) NB166_170.out (by simp))
    have n3_:=zm.mk (zA.blk hk (g':=gb175) (o:= .cells #[.int .i64 t171,.int .i64 t172] 24 (0,0)) (by (with_reducible repeat (first|refine zf ?_ _|refine zk ?_|refine zh ?_ _));exact BK175.out) NB175_170.out (by simp))
    have n4_:=zm.mk (zA.blk hk (g':=gb180) (o:= .cells #[.int .i64 t176,.int .i64 t177] 24 (0,0)) (by (with_reducible repeat (first|refine zf ?_ _|refine zk ?_|refine zh ?_ _));exact BK180.out) NB180_170.out (by simp))
    have n5_:=zm.mk (zA.blk hk (g':=gb185) (o:= .cells #[.int .i64 t181,.int .i64 t182] 24 (0,0)) (by (with_reducible repeat (first|refine zf ?_ _|refine zk ?_|refine zh ?_ _));exact BK185.out) NB185_170.out (by simp))
    have n6_:=zm.mk (hb)
    have n7_:=zm.mk (hi)
    clear BK164
    clear BK165
    clear BK166
    clear BK175
    clear BK180
    clear BK185
    clear HB
    clear HI170
    have BK164:=n0_
    have BK165:=n1_
    have BK166:=n2_
    have BK175:=n3_
    have BK180:=n4_
    have BK185:=n5_
    have HB:=n6_
    have HI170:=n7_
    clear n0_ n1_ n2_ n3_ n4_ n5_ n6_ n7_
    (try clear hb)
    (try clear hb2)
    (try clear hk)
    (try clear hi)
    refine hK.out _ _ ⟨(zU BK175.out 0).trans rfl,(zU BK175.out 1).trans rfl⟩ (fun hHeld=>?_)
    clear hK K
    refine norm_ (a':=?_) ?_ ?_
    rotate_left
    ·show Act.put _ (some 26) _=_
     simp only [Act.put,List.setIfInBounds_toArray,List.set_cons_zero,List.set_cons_succ,i64_w,i32_w]
     rfl
    refine pure_ (i:=6) (N:=some 27) (v:=?_) (a':=?_) #[true,true,true,true,true,true,true,false,false,false] rfl rfl (any_of HT_.out (by kernel_rfl)) (fun _ _ _ h=>h) (Or.inl ⟨by rfl,?_⟩) ?_ ?_
    rotate_left
    ·intro w'
     go_simp
     with_reducible rfl
    rotate_left
    ·simp only [Act.put,List.setIfInBounds_toArray,List.set_cons_zero,List.set_cons_succ,i64_w,i32_w]
     rfl
    refine one_ (i:=7) (N:=some 28) #[true,true,true,true,true,true,true,true,false,false] rfl rfl (one_of HT_.out (by kernel_rfl)) (by decide) (fun K hK=>?_)
    refine goes_ Tryz.func76 (by kernel_rfl) rfl #[.int .i64 (wrap64 (t172+t189))] (by rfl) rfl rfl (by (try simp only [List.map_toArray,List.map_cons,List.map_nil]);first|done|rfl|(simp only [List.length_drop,List.length_take];rfl)) ?_
    with_reducible refine (zcu.calls (wrap64 (t172+t189)) t192 _ A39.out).mono ?_
    rintro e w' ⟨rfl,⟨nd,rfl⟩⟩
    refine ⟨_,rfl,?_⟩
    refine hK.out _ _ ⟨(zU BK175.out 0).trans rfl,(zU BK175.out 1).trans rfl⟩ (fun hHeld=>?_)
    clear hK K
    refine norm_ (a':=?_) ?_ ?_
    rotate_left
    ·show Act.put _ (some 28) _=_
     simp only [Act.put,List.setIfInBounds_toArray,List.set_cons_zero,List.set_cons_succ,i64_w,i32_w]
     rfl
    refine pure_ (i:=8) (N:=some 29) (v:=?_) (a':=?_) #[true,true,true,true,true,true,true,true,true,false] rfl rfl (any_of HT_.out (by kernel_rfl)) (fun _ _ _ h=>h) (Or.inl ⟨by rfl,?_⟩) ?_ ?_
    rotate_left
    ·intro w'
     go_simp
     with_reducible rfl
    rotate_left
    ·simp only [Act.put,List.setIfInBounds_toArray,List.set_cons_zero,List.set_cons_succ,i64_w,i32_w]
     rfl
    refine one_ (i:=9) (N:=none) #[true,true,true,true,true,true,true,true,true,true] rfl rfl (one_of HT_.out (by kernel_rfl)) (by decide) (fun K hK=>?_)
    have hs42:w41.cell? ⟨gb180,0,none⟩=some (.int .i64 t176):=(zU BK180.out 0).trans rfl
    have hfs42:=zT BK180.out 0
    have hns42_0:=NB164_180.out
    have hns42_1:=NB165_180.out
    have hns42_2:=NB166_180.out
    have hns42_3:=NB175_180.out
    have hns42_5:=NB185_180.out
    have hms42_0:=NB180_164.out
    have hms42_1:=NB180_165.out
    have hms42_2:=NB180_166.out
    have hms42_3:=NB180_175.out
    have hms42_5:=NB180_185.out
    have hs43:w41.cell? ⟨gb180,1,none⟩=some (.int .i64 t177):=(zU BK180.out 1).trans rfl
    have hfs43:=zT BK180.out 1
    have hns43_0:=NB164_180.out
    have hns43_1:=NB165_180.out
    have hns43_2:=NB166_180.out
    have hns43_3:=NB175_180.out
    have hns43_5:=NB185_180.out
    have hms43_0:=NB180_164.out
    have hms43_1:=NB180_165.out
    have hms43_2:=NB180_166.out
    have hms43_3:=NB180_175.out
    have hms43_5:=NB180_185.out
    refine skip_ (w1:=?_) (by rfl) rfl ?_ ?_
    rotate_left
    ·go_simp
     rfl
    refine hK.out _ _ ⟨((cell_far (p:=⟨gb180,_,none⟩) NB175_180.out _).trans (((cell_far (p:=⟨gb180,_,none⟩) NB175_180.out _).trans (hHeld.1)))),((cell_far (p:=⟨gb180,_,none⟩) NB175_180.out _).trans (((cell_far (p:=⟨gb180,_,none⟩) NB175_180.out _).trans (hHeld.2))))⟩ (fun hHeld=>?_)
    clear hK K
    refine done_ (done_of HT_.out (by kernel_rfl)) ?_
    try go_wp2
    have n0_:zm ((((w41.drewN nd).setCell ⟨gb180,0,none⟩ (.int .i64 t171)).setCell ⟨gb180,1,none⟩ (.int .i64 t192)).heap[gb164]?=some (.cells #[.int .i64 0,.int .i64 0] 24 (0,0))):=⟨by (with_reducible repeat (first|refine zf ?_ _|refine zk ?_|refine zh ?_ _));refine zad ?_ NB164_180.out _;(with_reducible repeat (first|refine zf ?_ _|refine zk ?_|refine zh ?_ _));refine zad ?_ NB164_180.out _;(with_reducible repeat (first|refine zf ?_ _|refine zk ?_|refine zh ?_ _));exact BK164.out⟩
    have n1_:zm ((((w41.drewN nd).setCell ⟨gb180,0,none⟩ (.int .i64 t171)).setCell ⟨gb180,1,none⟩ (.int .i64 t192)).heap[gb165]?=some (.cells #[.int .i64 0,.int .i64 0] 24 (0,0))):=⟨by (with_reducible repeat (first|refine zf ?_ _|refine zk ?_|refine zh ?_ _));refine zad ?_ NB165_180.out _;(with_reducible repeat (first|refine zf ?_ _|refine zk ?_|refine zh ?_ _));refine zad ?_ NB165_180.out _;(with_reducible repeat (first|refine zf ?_ _|refine zk ?_|refine zh ?_ _));exact BK165.out⟩
    have n2_:zm ((((w41.drewN nd).setCell ⟨gb180,0,none⟩ (.int .i64 t171)).setCell ⟨gb180,1,none⟩ (.int .i64 t192)).heap[gb166]?=some (.cells #[.int .i64 0,.int .i64 0] 24 (0,0))):=⟨by (with_reducible repeat (first|refine zf ?_ _|refine zk ?_|refine zh ?_ _));refine zad ?_ NB166_180.out _;(with_reducible repeat (first|refine zf ?_ _|refine zk ?_|refine zh ?_ _));refine zad ?_ NB166_180.out _;(with_reducible repeat (first|refine zf ?_ _|refine zk ?_|refine zh ?_ _));exact BK166.out⟩
    have n3_:zm ((((w41.drewN nd).setCell ⟨gb180,0,none⟩ (.int .i64 t171)).setCell ⟨gb180,1,none⟩ (.int .i64 t192)).heap[gb175]?=some (.cells #[.int .i64 t171,.int .i64 t172] 24 (0,0))):=⟨by (with_reducible repeat (first|refine zf ?_ _|refine zk ?_|refine zh ?_ _));refine zad ?_ NB175_180.out _;(with_reducible repeat (first|refine zf ?_ _|refine zk ?_|refine zh ?_ _));refine zad ?_ NB175_180.out _;(with_reducible repeat (first|refine zf ?_ _|refine zk ?_|refine zh ?_ _));exact BK175.out⟩
    have n4_:zm ((((w41.drewN nd).setCell ⟨gb180,0,none⟩ (.int .i64 t171)).setCell ⟨gb180,1,none⟩ (.int .i64 t192)).heap[gb180]?=some (.cells #[.int .i64 t171,.int .i64 t192] 24 (0,0))):=⟨by (with_reducible repeat (first|refine zf ?_ _|refine zk ?_|refine zh ?_ _));refine zbg (cs:=#[.int .i64 t171,.int .i64 t177]) ?_ 1 _ rfl;(with_reducible repeat (first|refine zf ?_ _|refine zk ?_|refine zh ?_ _));refine zbg (cs:=#[.int .i64 t176,.int .i64 t177]) ?_ 0 _ rfl;(with_reducible repeat (first|refine zf ?_ _|refine zk ?_|refine zh ?_ _));exact BK180.out⟩
    have n5_:zm ((((w41.drewN nd).setCell ⟨gb180,0,none⟩ (.int .i64 t171)).setCell ⟨gb180,1,none⟩ (.int .i64 t192)).heap[gb185]?=some (.cells #[.int .i64 t181,.int .i64 t182] 24 (0,0))):=⟨by (with_reducible repeat (first|refine zf ?_ _|refine zk ?_|refine zh ?_ _));refine zad ?_ NB185_180.out _;(with_reducible repeat (first|refine zf ?_ _|refine zk ?_|refine zh ?_ _));refine zad ?_ NB185_180.out _;(with_reducible repeat (first|refine zf ?_ _|refine zk ?_|refine zh ?_ _));exact BK185.out⟩
    have n6_:zm (ze w (((w41.drewN nd).setCell ⟨gb180,0,none⟩ (.int .i64 t171)).setCell ⟨gb180,1,none⟩ (.int .i64 t192)) g170 t167 t190 t191):=⟨by repeat (first|(with_reducible first|exact HI170.out|apply ze.alloc|apply ze.drewN|apply ze.drew|apply ze.set_1|apply ze.set_2|refine ze.far ?_ NB170_164.out _|refine ze.far ?_ NB170_165.out _|refine ze.far ?_ NB170_166.out _|refine ze.far ?_ NB170_175.out _|refine ze.far ?_ NB170_180.out _|refine ze.far ?_ NB170_185.out _)|exact HI170.out)⟩
    have n7_:zm (Below w.heap.size w (((w41.drewN nd).setCell ⟨gb180,0,none⟩ (.int .i64 t171)).setCell ⟨gb180,1,none⟩ (.int .i64 t192))):=⟨by repeat (first|(with_reducible first|exact HB.out|apply zw|apply zn|apply zu|refine zl ?_ (ze.ge HI170.out)|refine zl ?_ GE164.out|refine zl ?_ GE165.out|refine zl ?_ GE166.out|refine zl ?_ GE175.out|refine zl ?_ GE180.out|refine zl ?_ GE185.out)|exact HB.out)⟩
    (try clear BK164)
    (try clear BK165)
    (try clear BK166)
    (try clear BK175)
    (try clear BK180)
    (try clear BK185)
    (try clear HI170)
    (try clear HB)
    generalize (((w41.drewN nd).setCell ⟨gb180,0,none⟩ (.int .i64 t171)).setCell ⟨gb180,1,none⟩ (.int .i64 t192))=w44 at n0_ n1_ n2_ n3_ n4_ n5_ n6_ n7_ ⊢
    have BK164:=n0_
    have BK165:=n1_
    have BK166:=n2_
    have BK175:=n3_
    have BK180:=n4_
    have BK185:=n5_
    have HI170:=n6_
    have HB:=n7_
    clear n0_ n1_ n2_ n3_ n4_ n5_ n6_ n7_
    (try (rw [drewN_self w44];generalize hq_:World.drewN w44 _=w44;have n0_:zm (w44.heap[gb164]?=some (.cells #[.int .i64 0,.int .i64 0] 24 (0,0))):=⟨by rw [<- hq_];exact (by (with_reducible repeat (first|refine zf ?_ _|refine zk ?_|refine zh ?_ _));exact BK164.out)⟩;have n1_:zm (w44.heap[gb165]?=some (.cells #[.int .i64 0,.int .i64 0] 24 (0,0))):=⟨by rw [<- hq_];exact (by (with_reducible repeat (first|refine zf ?_ _|refine zk ?_|refine zh ?_ _));exact BK165.out)⟩;have n2_:zm (w44.heap[gb166]?=some (.cells #[.int .i64 0,.int .i64 0] 24 (0,0))):=⟨by rw [<- hq_];exact (by (with_reducible repeat (first|refine zf ?_ _|refine zk ?_|refine zh ?_ _));exact BK166.out)⟩;have n3_:zm (w44.heap[gb175]?=some (.cells #[.int .i64 t171,.int .i64 t172] 24 (0,0))):=⟨by rw [<- hq_];exact (by (with_reducible repeat (first|refine zf ?_ _|refine zk ?_|refine zh ?_ _));exact BK175.out)⟩;have n4_:zm (w44.heap[gb180]?=some (.cells #[.int .i64 t171,.int .i64 t192] 24 (0,0))):=⟨by rw [<- hq_];exact (by (with_reducible repeat (first|refine zf ?_ _|refine zk ?_|refine zh ?_ _));exact BK180.out)⟩;have n5_:zm (w44.heap[gb185]?=some (.cells #[.int .i64 t181,.int .i64 t182] 24 (0,0))):=⟨by rw [<- hq_];exact (by (with_reducible repeat (first|refine zf ?_ _|refine zk ?_|refine zh ?_ _));exact BK185.out)⟩;have n6_:zm (ze w w44 g170 t167 t190 t191):=⟨by rw [<- hq_];exact (by repeat (first|(with_reducible first|exact HI170.out|apply ze.alloc|apply ze.drewN|apply ze.drew|apply ze.set_1|apply ze.set_2|refine ze.far ?_ NB170_164.out _|refine ze.far ?_ NB170_165.out _|refine ze.far ?_ NB170_166.out _|refine ze.far ?_ NB170_175.out _|refine ze.far ?_ NB170_180.out _|refine ze.far ?_ NB170_185.out _)|exact HI170.out))⟩;have n7_:zm (Below w.heap.size w w44):=⟨by rw [<- hq_];exact (by repeat (first|(with_reducible first|exact HB.out|apply zw|apply zn|apply zu|refine zl ?_ (ze.ge HI170.out)|refine zl ?_ GE164.out|refine zl ?_ GE165.out|refine zl ?_ GE166.out|refine zl ?_ GE175.out|refine zl ?_ GE180.out|refine zl ?_ GE185.out)|exact HB.out))⟩;clear BK164 BK165 BK166 BK175 BK180 BK185 HI170 HB hq_;have BK164:=n0_;have BK165:=n1_;have BK166:=n2_;have BK175:=n3_;have BK180:=n4_;have BK185:=n5_;have HI170:=n6_;have HB:=n7_;clear n0_ n1_ n2_ n3_ n4_ n5_ n6_ n7_))
    have n0_:=zm.mk (zk BK164.out)
    have n1_:=zm.mk (zk BK165.out)
    have n2_:=zm.mk (zk BK166.out)
    have n3_:=zm.mk (zk BK175.out)
    have n4_:=zm.mk (zk BK180.out)
    have n5_:=zm.mk (zk BK185.out)
    have n6_:=zm.mk (ze.drew HI170.out)
    have n7_:=zm.mk (zu HB.out)
    clear BK164
    clear BK165
    clear BK166
    clear BK175
    clear BK180
    clear BK185
    clear HI170
    clear HB
    have BK164:=n0_
    have BK165:=n1_
    have BK166:=n2_
    have BK175:=n3_
    have BK180:=n4_
    have BK185:=n5_
    have HI170:=n6_
    have HB:=n7_
    clear n0_ n1_ n2_ n3_ n4_ n5_ n6_ n7_
    refine start_ (n:=6) (S:=fun w'=>w'.cell? ⟨gb175,0,none⟩=some (.int .i64 t171)/\w'.cell? ⟨gb175,1,none⟩=some (.int .i64 t172)/\w'.cell? ⟨gb180,0,none⟩=some (.int .i64 t171)/\w'.cell? ⟨gb180,1,none⟩=some (.int .i64 t192)/\w'.cell? ⟨gb185,0,none⟩=some (.int .i64 t181)/\w'.cell? ⟨gb185,1,none⟩=some (.int .i64 t182)) (ds:= []) #[false,false,false,false,false,false] (by kernel_rfl) rfl rfl ⟨(zU BK175.out 0).trans rfl,(zU BK175.out 1).trans rfl,(zU BK180.out 0).trans rfl,(zU BK180.out 1).trans rfl,(zU BK185.out 0).trans rfl,(zU BK185.out 1).trans rfl⟩ (fun hHeld=>?_)
    generalize w44.drew=w45 at BK164 BK165 BK166 BK175 BK180 BK185 HI170 HB hHeld ⊢
    refine take_ (i:=0) (N:=some 38) (v:=?_) (a':=?_) #[true,false,false,false,false,false] rfl rfl (by kernel_rfl) (fun _ _ _ h=>h) (Or.inl ⟨by rfl,?_⟩) hHeld ?_ ?_
    rotate_left
    ·rintro w' ⟨s0,s1,s2,s3,s4,s5⟩
     go_simp
     with_reducible rfl
    rotate_left
    ·simp only [Act.put,List.setIfInBounds_toArray,List.set_cons_zero,List.set_cons_succ,i64_w,i32_w]
     rfl
    refine take_ (i:=1) (N:=some 39) (v:=?_) (a':=?_) #[true,true,false,false,false,false] rfl rfl (by kernel_rfl) (fun _ _ _ h=>h) (Or.inl ⟨by rfl,?_⟩) hHeld ?_ ?_
    rotate_left
    ·rintro w' ⟨s0,s1,s2,s3,s4,s5⟩
     go_simp
     with_reducible rfl
    rotate_left
    ·simp only [Act.put,List.setIfInBounds_toArray,List.set_cons_zero,List.set_cons_succ,i64_w,i32_w]
     rfl
    refine take_ (i:=2) (N:=some 40) (v:=?_) (a':=?_) #[true,true,true,false,false,false] rfl rfl (by kernel_rfl) (fun _ _ _ h=>h) (Or.inl ⟨by rfl,?_⟩) hHeld ?_ ?_
    rotate_left
    ·rintro w' ⟨s0,s1,s2,s3,s4,s5⟩
     go_simp
     with_reducible rfl
    rotate_left
    ·simp only [Act.put,List.setIfInBounds_toArray,List.set_cons_zero,List.set_cons_succ,i64_w,i32_w]
     rfl
    refine one_ (i:=3) (N:=none) #[true,true,true,true,false,false] rfl rfl (by kernel_rfl) (by decide) (fun K hK=>?_)
    have hs46:w45.cell? ⟨gb164,0,none⟩=some (.int .i64 0):=(zU BK164.out 0).trans rfl
    have hfs46:=zT BK164.out 0
    have hns46_1:=NB165_164.out
    have hns46_2:=NB166_164.out
    have hns46_3:=NB175_164.out
    have hns46_4:=NB180_164.out
    have hns46_5:=NB185_164.out
    have hms46_1:=NB164_165.out
    have hms46_2:=NB164_166.out
    have hms46_3:=NB164_175.out
    have hms46_4:=NB164_180.out
    have hms46_5:=NB164_185.out
    have hs47:w45.cell? ⟨gb164,1,none⟩=some (.int .i64 0):=(zU BK164.out 1).trans rfl
    have hfs47:=zT BK164.out 1
    have hns47_1:=NB165_164.out
    have hns47_2:=NB166_164.out
    have hns47_3:=NB175_164.out
    have hns47_4:=NB180_164.out
    have hns47_5:=NB185_164.out
    have hms47_1:=NB164_165.out
    have hms47_2:=NB164_166.out
    have hms47_3:=NB164_175.out
    have hms47_4:=NB164_180.out
    have hms47_5:=NB164_185.out
    refine skip_ (w1:=?_) (by rfl) rfl ?_ ?_
    rotate_left
    ·go_simp
     rfl
    refine hK.out _ _ ⟨((cell_far (p:=⟨gb164,_,none⟩) NB175_164.out _).trans (((cell_far (p:=⟨gb164,_,none⟩) NB175_164.out _).trans (hHeld.1)))),((cell_far (p:=⟨gb164,_,none⟩) NB175_164.out _).trans (((cell_far (p:=⟨gb164,_,none⟩) NB175_164.out _).trans (hHeld.2.1)))),((cell_far (p:=⟨gb164,_,none⟩) NB180_164.out _).trans (((cell_far (p:=⟨gb164,_,none⟩) NB180_164.out _).trans (hHeld.2.2.1)))),((cell_far (p:=⟨gb164,_,none⟩) NB180_164.out _).trans (((cell_far (p:=⟨gb164,_,none⟩) NB180_164.out _).trans (hHeld.2.2.2.1)))),((cell_far (p:=⟨gb164,_,none⟩) NB185_164.out _).trans (((cell_far (p:=⟨gb164,_,none⟩) NB185_164.out _).trans (hHeld.2.2.2.2.1)))),((cell_far (p:=⟨gb164,_,none⟩) NB185_164.out _).trans (((cell_far (p:=⟨gb164,_,none⟩) NB185_164.out _).trans (hHeld.2.2.2.2.2))))⟩ (fun hHeld=>?_)
    clear hK K
    refine one_ (i:=4) (N:=none) #[true,true,true,true,true,false] rfl rfl (by kernel_rfl) (by decide) (fun K hK=>?_)
    have hs48:w45.cell? ⟨gb165,0,none⟩=some (.int .i64 0):=(zU BK165.out 0).trans rfl
    have hfs48:=zT BK165.out 0
    have hns48_0:=NB164_165.out
    have hns48_2:=NB166_165.out
    have hns48_3:=NB175_165.out
    have hns48_4:=NB180_165.out
    have hns48_5:=NB185_165.out
    have hms48_0:=NB165_164.out
    have hms48_2:=NB165_166.out
    have hms48_3:=NB165_175.out
    have hms48_4:=NB165_180.out
    have hms48_5:=NB165_185.out
    have hs49:w45.cell? ⟨gb165,1,none⟩=some (.int .i64 0):=(zU BK165.out 1).trans rfl
    have hfs49:=zT BK165.out 1
    have hns49_0:=NB164_165.out
    have hns49_2:=NB166_165.out
    have hns49_3:=NB175_165.out
    have hns49_4:=NB180_165.out
    have hns49_5:=NB185_165.out
    have hms49_0:=NB165_164.out
    have hms49_2:=NB165_166.out
    have hms49_3:=NB165_175.out
    have hms49_4:=NB165_180.out
    have hms49_5:=NB165_185.out
    refine skip_ (w1:=?_) (by rfl) rfl ?_ ?_
    rotate_left
    ·go_simp
     rfl
    refine hK.out _ _ ⟨((cell_far (p:=⟨gb165,_,none⟩) NB175_165.out _).trans (((cell_far (p:=⟨gb165,_,none⟩) NB175_165.out _).trans (hHeld.1)))),((cell_far (p:=⟨gb165,_,none⟩) NB175_165.out _).trans (((cell_far (p:=⟨gb165,_,none⟩) NB175_165.out _).trans (hHeld.2.1)))),((cell_far (p:=⟨gb165,_,none⟩) NB180_165.out _).trans (((cell_far (p:=⟨gb165,_,none⟩) NB180_165.out _).trans (hHeld.2.2.1)))),((cell_far (p:=⟨gb165,_,none⟩) NB180_165.out _).trans (((cell_far (p:=⟨gb165,_,none⟩) NB180_165.out _).trans (hHeld.2.2.2.1)))),((cell_far (p:=⟨gb165,_,none⟩) NB185_165.out _).trans (((cell_far (p:=⟨gb165,_,none⟩) NB185_165.out _).trans (hHeld.2.2.2.2.1)))),((cell_far (p:=⟨gb165,_,none⟩) NB185_165.out _).trans (((cell_far (p:=⟨gb165,_,none⟩) NB185_165.out _).trans (hHeld.2.2.2.2.2))))⟩ (fun hHeld=>?_)
    clear hK K
    refine one_ (i:=5) (N:=none) #[true,true,true,true,true,true] rfl rfl (by kernel_rfl) (by decide) (fun K hK=>?_)
    have hs50:w45.cell? ⟨gb166,0,none⟩=some (.int .i64 0):=(zU BK166.out 0).trans rfl
    have hfs50:=zT BK166.out 0
    have hns50_0:=NB164_166.out
    have hns50_1:=NB165_166.out
    have hns50_3:=NB175_166.out
    have hns50_4:=NB180_166.out
    have hns50_5:=NB185_166.out
    have hms50_0:=NB166_164.out
    have hms50_1:=NB166_165.out
    have hms50_3:=NB166_175.out
    have hms50_4:=NB166_180.out
    have hms50_5:=NB166_185.out
    have hs51:w45.cell? ⟨gb166,1,none⟩=some (.int .i64 0):=(zU BK166.out 1).trans rfl
    have hfs51:=zT BK166.out 1
    have hns51_0:=NB164_166.out
    have hns51_1:=NB165_166.out
    have hns51_3:=NB175_166.out
    have hns51_4:=NB180_166.out
    have hns51_5:=NB185_166.out
    have hms51_0:=NB166_164.out
    have hms51_1:=NB166_165.out
    have hms51_3:=NB166_175.out
    have hms51_4:=NB166_180.out
    have hms51_5:=NB166_185.out
    refine skip_ (w1:=?_) (by rfl) rfl ?_ ?_
    rotate_left
    ·go_simp
     rfl
    refine hK.out _ _ ⟨((cell_far (p:=⟨gb166,_,none⟩) NB175_166.out _).trans (((cell_far (p:=⟨gb166,_,none⟩) NB175_166.out _).trans (hHeld.1)))),((cell_far (p:=⟨gb166,_,none⟩) NB175_166.out _).trans (((cell_far (p:=⟨gb166,_,none⟩) NB175_166.out _).trans (hHeld.2.1)))),((cell_far (p:=⟨gb166,_,none⟩) NB180_166.out _).trans (((cell_far (p:=⟨gb166,_,none⟩) NB180_166.out _).trans (hHeld.2.2.1)))),((cell_far (p:=⟨gb166,_,none⟩) NB180_166.out _).trans (((cell_far (p:=⟨gb166,_,none⟩) NB180_166.out _).trans (hHeld.2.2.2.1)))),((cell_far (p:=⟨gb166,_,none⟩) NB185_166.out _).trans (((cell_far (p:=⟨gb166,_,none⟩) NB185_166.out _).trans (hHeld.2.2.2.2.1)))),((cell_far (p:=⟨gb166,_,none⟩) NB185_166.out _).trans (((cell_far (p:=⟨gb166,_,none⟩) NB185_166.out _).trans (hHeld.2.2.2.2.2))))⟩ (fun hHeld=>?_)
    clear hK K
    refine done_ (by kernel_rfl) ?_
    try go_wp2
    refine bodyPost_ret (results_list (rs:= [.cell 2 24,.cell 3 24,.cell 4 24]) rfl (by simp) (.cell gb164 24 #[.int .i64 t171,.int .i64 t172] (0,0) _ rfl (by (with_reducible repeat (first|refine zf ?_ _|refine zk ?_|refine zh ?_ _));refine zad ?_ NB164_166.out _;(with_reducible repeat (first|refine zf ?_ _|refine zk ?_|refine zh ?_ _));refine zad ?_ NB164_166.out _;(with_reducible repeat (first|refine zf ?_ _|refine zk ?_|refine zh ?_ _));refine zad ?_ NB164_165.out _;(with_reducible repeat (first|refine zf ?_ _|refine zk ?_|refine zh ?_ _));refine zad ?_ NB164_165.out _;(with_reducible repeat (first|refine zf ?_ _|refine zk ?_|refine zh ?_ _));refine zbg (cs:=#[.int .i64 t171,.int .i64 0]) ?_ 1 _ rfl;(with_reducible repeat (first|refine zf ?_ _|refine zk ?_|refine zh ?_ _));refine zbg (cs:=#[.int .i64 0,.int .i64 0]) ?_ 0 _ rfl;(with_reducible repeat (first|refine zf ?_ _|refine zk ?_|refine zh ?_ _));exact BK164.out) Tryz.underlying24 rfl (by kernel_rfl) (.cell gb165 24 #[.int .i64 t171,.int .i64 t192] (0,0) _ rfl (by (with_reducible repeat (first|refine zf ?_ _|refine zk ?_|refine zh ?_ _));refine zad ?_ NB165_166.out _;(with_reducible repeat (first|refine zf ?_ _|refine zk ?_|refine zh ?_ _));refine zad ?_ NB165_166.out _;(with_reducible repeat (first|refine zf ?_ _|refine zk ?_|refine zh ?_ _));refine zbg (cs:=#[.int .i64 t171,.int .i64 0]) ?_ 1 _ rfl;(with_reducible repeat (first|refine zf ?_ _|refine zk ?_|refine zh ?_ _));refine zbg (cs:=#[.int .i64 0,.int .i64 0]) ?_ 0 _ rfl;(with_reducible repeat (first|refine zf ?_ _|refine zk ?_|refine zh ?_ _));refine zad ?_ NB165_164.out _;(with_reducible repeat (first|refine zf ?_ _|refine zk ?_|refine zh ?_ _));refine zad ?_ NB165_164.out _;(with_reducible repeat (first|refine zf ?_ _|refine zk ?_|refine zh ?_ _));exact BK165.out) Tryz.underlying24 rfl (by kernel_rfl) (.cell gb166 24 #[.int .i64 t181,.int .i64 t182] (0,0) _ rfl (by (with_reducible repeat (first|refine zf ?_ _|refine zk ?_|refine zh ?_ _));refine zbg (cs:=#[.int .i64 t181,.int .i64 0]) ?_ 1 _ rfl;(with_reducible repeat (first|refine zf ?_ _|refine zk ?_|refine zh ?_ _));refine zbg (cs:=#[.int .i64 0,.int .i64 0]) ?_ 0 _ rfl;(with_reducible repeat (first|refine zf ?_ _|refine zk ?_|refine zh ?_ _));refine zad ?_ NB166_165.out _;(with_reducible repeat (first|refine zf ?_ _|refine zk ?_|refine zh ?_ _));refine zad ?_ NB166_165.out _;(with_reducible repeat (first|refine zf ?_ _|refine zk ?_|refine zh ?_ _));refine zad ?_ NB166_164.out _;(with_reducible repeat (first|refine zf ?_ _|refine zk ?_|refine zh ?_ _));refine zad ?_ NB166_164.out _;(with_reducible repeat (first|refine zf ?_ _|refine zk ?_|refine zh ?_ _));exact BK166.out) Tryz.underlying24 rfl (by kernel_rfl) .nil)))) rfl ?_
    exact ⟨by first|rfl|(simp [zay,zax]<;>rfl)|(simp [*,zay,zax]<;>rfl),by repeat (first|(with_reducible first|exact HB.out|apply zw|apply zn|apply zu|refine zl ?_ (ze.ge HI170.out)|refine zl ?_ GE164.out|refine zl ?_ GE165.out|refine zl ?_ GE166.out|refine zl ?_ GE175.out|refine zl ?_ GE180.out|refine zl ?_ GE185.out)|exact HB.out)⟩
   ·rw [if_neg c37] at H
    have c37b0:(x18_5==0)=false:=beq_eq_false_iff_ne.mpr c37
    have c37b1:(x18_5 != 0)=true:=bne_iff_ne.mpr c37
    by_cases c52:x18_5=1
    ·rw [if_pos c52] at H
     have c52b0:(x18_5==1)=true:=beq_iff_eq.mpr c52
     have c52b1:(x18_5 != 1)=false:=bne_eq_false_iff_eq.mpr c52
     clear c52
     simp only [Option.some.injEq,Prod.mk.injEq] at H
     obtain ⟨rfl,rfl,rfl,rfl,rfl,rfl⟩:=H
     have hnb53:=NB180_164.out
     have hnc53:=NB164_180.out
     have hnb54:=NB180_165.out
     have hnc54:=NB165_180.out
     have hnb55:=NB180_166.out
     have hnc55:=NB166_180.out
     have hnb56:=NB180_175.out
     have hnc56:=NB175_180.out
     have hnb57:=NB180_185.out
     have hnc57:=NB185_180.out
     have hnb58:=NB180_170.out
     have hnc58:=NB170_180.out
     have hcz59_0:wc.cell? ⟨gb180,0,none⟩=some (.int .i64 t176):=(zU BK180.out 0).trans rfl
     have hcz59_1:wc.cell? ⟨gb180,1,none⟩=some (.int .i64 t177):=(zU BK180.out 1).trans rfl
     have hfz59_0:=zT BK180.out 0
     have hfz59_1:=zT BK180.out 1
     have hnb60:=NB185_164.out
     have hnc60:=NB164_185.out
     have hnb61:=NB185_165.out
     have hnc61:=NB165_185.out
     have hnb62:=NB185_166.out
     have hnc62:=NB166_185.out
     have hnb63:=NB185_175.out
     have hnc63:=NB175_185.out
     have hnb64:=NB185_170.out
     have hnc64:=NB170_185.out
     have hcz65_0:wc.cell? ⟨gb185,0,none⟩=some (.int .i64 t181):=(zU BK185.out 0).trans rfl
     have hcz65_1:wc.cell? ⟨gb185,1,none⟩=some (.int .i64 t182):=(zU BK185.out 1).trans rfl
     have hfz65_0:=zT BK185.out 0
     have hfz65_1:=zT BK185.out 1
     try go_wp2
     have n0_:zm (((wc.setCell ⟨gb185,0,none⟩ (.int .i64 t176)).setCell ⟨gb185,1,none⟩ (.int .i64 t177)).heap[gb164]?=some (.cells #[.int .i64 0,.int .i64 0] 24 (0,0))):=⟨by (with_reducible repeat (first|refine zf ?_ _|refine zk ?_|refine zh ?_ _));refine zad ?_ NB164_185.out _;(with_reducible repeat (first|refine zf ?_ _|refine zk ?_|refine zh ?_ _));refine zad ?_ NB164_185.out _;(with_reducible repeat (first|refine zf ?_ _|refine zk ?_|refine zh ?_ _));exact BK164.out⟩
     have n1_:zm (((wc.setCell ⟨gb185,0,none⟩ (.int .i64 t176)).setCell ⟨gb185,1,none⟩ (.int .i64 t177)).heap[gb165]?=some (.cells #[.int .i64 0,.int .i64 0] 24 (0,0))):=⟨by (with_reducible repeat (first|refine zf ?_ _|refine zk ?_|refine zh ?_ _));refine zad ?_ NB165_185.out _;(with_reducible repeat (first|refine zf ?_ _|refine zk ?_|refine zh ?_ _));refine zad ?_ NB165_185.out _;(with_reducible repeat (first|refine zf ?_ _|refine zk ?_|refine zh ?_ _));exact BK165.out⟩
     have n2_:zm (((wc.setCell ⟨gb185,0,none⟩ (.int .i64 t176)).setCell ⟨gb185,1,none⟩ (.int .i64 t177)).heap[gb166]?=some (.cells #[.int .i64 0,.int .i64 0] 24 (0,0))):=⟨by (with_reducible repeat (first|refine zf ?_ _|refine zk ?_|refine zh ?_ _));refine zad ?_ NB166_185.out _;(with_reducible repeat (first|refine zf ?_ _|refine zk ?_|refine zh ?_ _));refine zad ?_ NB166_185.out _;(with_reducible repeat (first|refine zf ?_ _|refine zk ?_|refine zh ?_ _));exact BK166.out⟩
     have n3_:zm (((wc.setCell ⟨gb185,0,none⟩ (.int .i64 t176)).setCell ⟨gb185,1,none⟩ (.int .i64 t177)).heap[gb175]?=some (.cells #[.int .i64 t171,.int .i64 t172] 24 (0,0))):=⟨by (with_reducible repeat (first|refine zf ?_ _|refine zk ?_|refine zh ?_ _));refine zad ?_ NB175_185.out _;(with_reducible repeat (first|refine zf ?_ _|refine zk ?_|refine zh ?_ _));refine zad ?_ NB175_185.out _;(with_reducible repeat (first|refine zf ?_ _|refine zk ?_|refine zh ?_ _));exact BK175.out⟩
     have n4_:zm (((wc.setCell ⟨gb185,0,none⟩ (.int .i64 t176)).setCell ⟨gb185,1,none⟩ (.int .i64 t177)).heap[gb180]?=some (.cells #[.int .i64 t176,.int .i64 t177] 24 (0,0))):=⟨by (with_reducible repeat (first|refine zf ?_ _|refine zk ?_|refine zh ?_ _));refine zad ?_ NB180_185.out _;(with_reducible repeat (first|refine zf ?_ _|refine zk ?_|refine zh ?_ _));refine zad ?_ NB180_185.out _;(with_reducible repeat (first|refine zf ?_ _|refine zk ?_|refine zh ?_ _));exact BK180.out⟩
     have n5_:zm (((wc.setCell ⟨gb185,0,none⟩ (.int .i64 t176)).setCell ⟨gb185,1,none⟩ (.int .i64 t177)).heap[gb185]?=some (.cells #[.int .i64 t176,.int .i64 t177] 24 (0,0))):=⟨by (with_reducible repeat (first|refine zf ?_ _|refine zk ?_|refine zh ?_ _));refine zbg (cs:=#[.int .i64 t176,.int .i64 t182]) ?_ 1 _ rfl;(with_reducible repeat (first|refine zf ?_ _|refine zk ?_|refine zh ?_ _));refine zbg (cs:=#[.int .i64 t181,.int .i64 t182]) ?_ 0 _ rfl;(with_reducible repeat (first|refine zf ?_ _|refine zk ?_|refine zh ?_ _));exact BK185.out⟩
     have n6_:zm (ze w ((wc.setCell ⟨gb185,0,none⟩ (.int .i64 t176)).setCell ⟨gb185,1,none⟩ (.int .i64 t177)) g170 t167 x171001_5 x171002_5):=⟨by repeat (first|(with_reducible first|exact HI170.out|apply ze.alloc|apply ze.drewN|apply ze.drew|apply ze.set_1|apply ze.set_2|refine ze.far ?_ NB170_164.out _|refine ze.far ?_ NB170_165.out _|refine ze.far ?_ NB170_166.out _|refine ze.far ?_ NB170_175.out _|refine ze.far ?_ NB170_180.out _|refine ze.far ?_ NB170_185.out _)|exact HI170.out)⟩
     have n7_:zm (Below w.heap.size w ((wc.setCell ⟨gb185,0,none⟩ (.int .i64 t176)).setCell ⟨gb185,1,none⟩ (.int .i64 t177))):=⟨by repeat (first|(with_reducible first|exact HB.out|apply zw|apply zn|apply zu|refine zl ?_ (ze.ge HI170.out)|refine zl ?_ GE164.out|refine zl ?_ GE165.out|refine zl ?_ GE166.out|refine zl ?_ GE175.out|refine zl ?_ GE180.out|refine zl ?_ GE185.out)|exact HB.out)⟩
     (try clear BK164)
     (try clear BK165)
     (try clear BK166)
     (try clear BK175)
     (try clear BK180)
     (try clear BK185)
     (try clear HI170)
     (try clear HB)
     generalize ((wc.setCell ⟨gb185,0,none⟩ (.int .i64 t176)).setCell ⟨gb185,1,none⟩ (.int .i64 t177))=w66 at n0_ n1_ n2_ n3_ n4_ n5_ n6_ n7_ ⊢
     have BK164:=n0_
     have BK165:=n1_
     have BK166:=n2_
     have BK175:=n3_
     have BK180:=n4_
     have BK185:=n5_
     have HI170:=n6_
     have HB:=n7_
     clear n0_ n1_ n2_ n3_ n4_ n5_ n6_ n7_
     have n0_:=zm.mk (zk BK164.out)
     have n1_:=zm.mk (zk BK165.out)
     have n2_:=zm.mk (zk BK166.out)
     have n3_:=zm.mk (zk BK175.out)
     have n4_:=zm.mk (zk BK180.out)
     have n5_:=zm.mk (zk BK185.out)
     have n6_:=zm.mk (ze.drew HI170.out)
     have n7_:=zm.mk (zu HB.out)
     clear BK164
     clear BK165
     clear BK166
     clear BK175
     clear BK180
     clear BK185
     clear HI170
     clear HB
     have BK164:=n0_
     have BK165:=n1_
     have BK166:=n2_
     have BK175:=n3_
     have BK180:=n4_
     have BK185:=n5_
     have HI170:=n6_
     have HB:=n7_
     clear n0_ n1_ n2_ n3_ n4_ n5_ n6_ n7_
     refine start_ (n:=6) (S:=fun w'=>w'.cell? ⟨gb175,0,none⟩=some (.int .i64 t171)/\w'.cell? ⟨gb175,1,none⟩=some (.int .i64 t172)/\w'.cell? ⟨gb180,0,none⟩=some (.int .i64 t176)/\w'.cell? ⟨gb180,1,none⟩=some (.int .i64 t177)/\w'.cell? ⟨gb185,0,none⟩=some (.int .i64 t176)/\w'.cell? ⟨gb185,1,none⟩=some (.int .i64 t177)) (ds:= []) #[false,false,false,false,false,false] (by kernel_rfl) rfl rfl ⟨(zU BK175.out 0).trans rfl,(zU BK175.out 1).trans rfl,(zU BK180.out 0).trans rfl,(zU BK180.out 1).trans rfl,(zU BK185.out 0).trans rfl,(zU BK185.out 1).trans rfl⟩ (fun hHeld=>?_)
     generalize w66.drew=w67 at BK164 BK165 BK166 BK175 BK180 BK185 HI170 HB hHeld ⊢
     refine take_ (i:=0) (N:=some 38) (v:=?_) (a':=?_) #[true,false,false,false,false,false] rfl rfl (by kernel_rfl) (fun _ _ _ h=>h) (Or.inl ⟨by rfl,?_⟩) hHeld ?_ ?_
     rotate_left
     ·rintro w' ⟨s0,s1,s2,s3,s4,s5⟩
      go_simp
      with_reducible rfl
     rotate_left
     ·simp only [Act.put,List.setIfInBounds_toArray,List.set_cons_zero,List.set_cons_succ,i64_w,i32_w]
      rfl
     refine take_ (i:=1) (N:=some 39) (v:=?_) (a':=?_) #[true,true,false,false,false,false] rfl rfl (by kernel_rfl) (fun _ _ _ h=>h) (Or.inl ⟨by rfl,?_⟩) hHeld ?_ ?_
     rotate_left
     ·rintro w' ⟨s0,s1,s2,s3,s4,s5⟩
      go_simp
      with_reducible rfl
     rotate_left
     ·simp only [Act.put,List.setIfInBounds_toArray,List.set_cons_zero,List.set_cons_succ,i64_w,i32_w]
      rfl
     refine take_ (i:=2) (N:=some 40) (v:=?_) (a':=?_) #[true,true,true,false,false,false] rfl rfl (by kernel_rfl) (fun _ _ _ h=>h) (Or.inl ⟨by rfl,?_⟩) hHeld ?_ ?_
     rotate_left
     ·rintro w' ⟨s0,s1,s2,s3,s4,s5⟩
      go_simp
      with_reducible rfl
     rotate_left
     ·simp only [Act.put,List.setIfInBounds_toArray,List.set_cons_zero,List.set_cons_succ,i64_w,i32_w]
      rfl
     refine one_ (i:=3) (N:=none) #[true,true,true,true,false,false] rfl rfl (by kernel_rfl) (by decide) (fun K hK=>?_)
     have hs68:w67.cell? ⟨gb164,0,none⟩=some (.int .i64 0):=(zU BK164.out 0).trans rfl
     have hfs68:=zT BK164.out 0
     have hns68_1:=NB165_164.out
     have hns68_2:=NB166_164.out
     have hns68_3:=NB175_164.out
     have hns68_4:=NB180_164.out
     have hns68_5:=NB185_164.out
     have hms68_1:=NB164_165.out
     have hms68_2:=NB164_166.out
     have hms68_3:=NB164_175.out
     have hms68_4:=NB164_180.out
     have hms68_5:=NB164_185.out
     have hs69:w67.cell? ⟨gb164,1,none⟩=some (.int .i64 0):=(zU BK164.out 1).trans rfl
     have hfs69:=zT BK164.out 1
     have hns69_1:=NB165_164.out
     have hns69_2:=NB166_164.out
     have hns69_3:=NB175_164.out
     have hns69_4:=NB180_164.out
     have hns69_5:=NB185_164.out
     have hms69_1:=NB164_165.out
     have hms69_2:=NB164_166.out
     have hms69_3:=NB164_175.out
     have hms69_4:=NB164_180.out
     have hms69_5:=NB164_185.out
     refine skip_ (w1:=?_) (by rfl) rfl ?_ ?_
     rotate_left
     ·go_simp
      rfl
     refine hK.out _ _ ⟨((cell_far (p:=⟨gb164,_,none⟩) NB175_164.out _).trans (((cell_far (p:=⟨gb164,_,none⟩) NB175_164.out _).trans (hHeld.1)))),((cell_far (p:=⟨gb164,_,none⟩) NB175_164.out _).trans (((cell_far (p:=⟨gb164,_,none⟩) NB175_164.out _).trans (hHeld.2.1)))),((cell_far (p:=⟨gb164,_,none⟩) NB180_164.out _).trans (((cell_far (p:=⟨gb164,_,none⟩) NB180_164.out _).trans (hHeld.2.2.1)))),((cell_far (p:=⟨gb164,_,none⟩) NB180_164.out _).trans (((cell_far (p:=⟨gb164,_,none⟩) NB180_164.out _).trans (hHeld.2.2.2.1)))),((cell_far (p:=⟨gb164,_,none⟩) NB185_164.out _).trans (((cell_far (p:=⟨gb164,_,none⟩) NB185_164.out _).trans (hHeld.2.2.2.2.1)))),((cell_far (p:=⟨gb164,_,none⟩) NB185_164.out _).trans (((cell_far (p:=⟨gb164,_,none⟩) NB185_164.out _).trans (hHeld.2.2.2.2.2))))⟩ (fun hHeld=>?_)
     clear hK K
     refine one_ (i:=4) (N:=none) #[true,true,true,true,true,false] rfl rfl (by kernel_rfl) (by decide) (fun K hK=>?_)
     have hs70:w67.cell? ⟨gb165,0,none⟩=some (.int .i64 0):=(zU BK165.out 0).trans rfl
     have hfs70:=zT BK165.out 0
     have hns70_0:=NB164_165.out
     have hns70_2:=NB166_165.out
     have hns70_3:=NB175_165.out
     have hns70_4:=NB180_165.out
     have hns70_5:=NB185_165.out
     have hms70_0:=NB165_164.out
     have hms70_2:=NB165_166.out
     have hms70_3:=NB165_175.out
     have hms70_4:=NB165_180.out
     have hms70_5:=NB165_185.out
     have hs71:w67.cell? ⟨gb165,1,none⟩=some (.int .i64 0):=(zU BK165.out 1).trans rfl
     have hfs71:=zT BK165.out 1
     have hns71_0:=NB164_165.out
     have hns71_2:=NB166_165.out
     have hns71_3:=NB175_165.out
     have hns71_4:=NB180_165.out
     have hns71_5:=NB185_165.out
     have hms71_0:=NB165_164.out
     have hms71_2:=NB165_166.out
     have hms71_3:=NB165_175.out
     have hms71_4:=NB165_180.out
     have hms71_5:=NB165_185.out
     refine skip_ (w1:=?_) (by rfl) rfl ?_ ?_
     rotate_left
     ·go_simp
      rfl
     refine hK.out _ _ ⟨((cell_far (p:=⟨gb165,_,none⟩) NB175_165.out _).trans (((cell_far (p:=⟨gb165,_,none⟩) NB175_165.out _).trans (hHeld.1)))),((cell_far (p:=⟨gb165,_,none⟩) NB175_165.out _).trans (((cell_far (p:=⟨gb165,_,none⟩) NB175_165.out _).trans (hHeld.2.1)))),((cell_far (p:=⟨gb165,_,none⟩) NB180_165.out _).trans (((cell_far (p:=⟨gb165,_,none⟩) NB180_165.out _).trans (hHeld.2.2.1)))),((cell_far (p:=⟨gb165,_,none⟩) NB180_165.out _).trans (((cell_far (p:=⟨gb165,_,none⟩) NB180_165.out _).trans (hHeld.2.2.2.1)))),((cell_far (p:=⟨gb165,_,none⟩) NB185_165.out _).trans (((cell_far (p:=⟨gb165,_,none⟩) NB185_165.out _).trans (hHeld.2.2.2.2.1)))),((cell_far (p:=⟨gb165,_,none⟩) NB185_165.out _).trans (((cell_far (p:=⟨gb165,_,none⟩) NB185_165.out _).trans (hHeld.2.2.2.2.2))))⟩ (fun hHeld=>?_)
     clear hK K
     refine one_ (i:=5) (N:=none) #[true,true,true,true,true,true] rfl rfl (by kernel_rfl) (by decide) (fun K hK=>?_)
     have hs72:w67.cell? ⟨gb166,0,none⟩=some (.int .i64 0):=(zU BK166.out 0).trans rfl
     have hfs72:=zT BK166.out 0
     have hns72_0:=NB164_166.out
     have hns72_1:=NB165_166.out
     have hns72_3:=NB175_166.out
     have hns72_4:=NB180_166.out
     have hns72_5:=NB185_166.out
     have hms72_0:=NB166_164.out
     have hms72_1:=NB166_165.out
     have hms72_3:=NB166_175.out
     have hms72_4:=NB166_180.out
     have hms72_5:=NB166_185.out
     have hs73:w67.cell? ⟨gb166,1,none⟩=some (.int .i64 0):=(zU BK166.out 1).trans rfl
     have hfs73:=zT BK166.out 1
     have hns73_0:=NB164_166.out
     have hns73_1:=NB165_166.out
     have hns73_3:=NB175_166.out
     have hns73_4:=NB180_166.out
     have hns73_5:=NB185_166.out
     have hms73_0:=NB166_164.out
     have hms73_1:=NB166_165.out
     have hms73_3:=NB166_175.out
     have hms73_4:=NB166_180.out
     have hms73_5:=NB166_185.out
     refine skip_ (w1:=?_) (by rfl) rfl ?_ ?_
     rotate_left
     ·go_simp
      rfl
     refine hK.out _ _ ⟨((cell_far (p:=⟨gb166,_,none⟩) NB175_166.out _).trans (((cell_far (p:=⟨gb166,_,none⟩) NB175_166.out _).trans (hHeld.1)))),((cell_far (p:=⟨gb166,_,none⟩) NB175_166.out _).trans (((cell_far (p:=⟨gb166,_,none⟩) NB175_166.out _).trans (hHeld.2.1)))),((cell_far (p:=⟨gb166,_,none⟩) NB180_166.out _).trans (((cell_far (p:=⟨gb166,_,none⟩) NB180_166.out _).trans (hHeld.2.2.1)))),((cell_far (p:=⟨gb166,_,none⟩) NB180_166.out _).trans (((cell_far (p:=⟨gb166,_,none⟩) NB180_166.out _).trans (hHeld.2.2.2.1)))),((cell_far (p:=⟨gb166,_,none⟩) NB185_166.out _).trans (((cell_far (p:=⟨gb166,_,none⟩) NB185_166.out _).trans (hHeld.2.2.2.2.1)))),((cell_far (p:=⟨gb166,_,none⟩) NB185_166.out _).trans (((cell_far (p:=⟨gb166,_,none⟩) NB185_166.out _).trans (hHeld.2.2.2.2.2))))⟩ (fun hHeld=>?_)
     clear hK K
     refine done_ (by kernel_rfl) ?_
     try go_wp2
     refine bodyPost_ret (results_list (rs:= [.cell 2 24,.cell 3 24,.cell 4 24]) rfl (by simp) (.cell gb164 24 #[.int .i64 t171,.int .i64 t172] (0,0) _ rfl (by (with_reducible repeat (first|refine zf ?_ _|refine zk ?_|refine zh ?_ _));refine zad ?_ NB164_166.out _;(with_reducible repeat (first|refine zf ?_ _|refine zk ?_|refine zh ?_ _));refine zad ?_ NB164_166.out _;(with_reducible repeat (first|refine zf ?_ _|refine zk ?_|refine zh ?_ _));refine zad ?_ NB164_165.out _;(with_reducible repeat (first|refine zf ?_ _|refine zk ?_|refine zh ?_ _));refine zad ?_ NB164_165.out _;(with_reducible repeat (first|refine zf ?_ _|refine zk ?_|refine zh ?_ _));refine zbg (cs:=#[.int .i64 t171,.int .i64 0]) ?_ 1 _ rfl;(with_reducible repeat (first|refine zf ?_ _|refine zk ?_|refine zh ?_ _));refine zbg (cs:=#[.int .i64 0,.int .i64 0]) ?_ 0 _ rfl;(with_reducible repeat (first|refine zf ?_ _|refine zk ?_|refine zh ?_ _));exact BK164.out) Tryz.underlying24 rfl (by kernel_rfl) (.cell gb165 24 #[.int .i64 t176,.int .i64 t177] (0,0) _ rfl (by (with_reducible repeat (first|refine zf ?_ _|refine zk ?_|refine zh ?_ _));refine zad ?_ NB165_166.out _;(with_reducible repeat (first|refine zf ?_ _|refine zk ?_|refine zh ?_ _));refine zad ?_ NB165_166.out _;(with_reducible repeat (first|refine zf ?_ _|refine zk ?_|refine zh ?_ _));refine zbg (cs:=#[.int .i64 t176,.int .i64 0]) ?_ 1 _ rfl;(with_reducible repeat (first|refine zf ?_ _|refine zk ?_|refine zh ?_ _));refine zbg (cs:=#[.int .i64 0,.int .i64 0]) ?_ 0 _ rfl;(with_reducible repeat (first|refine zf ?_ _|refine zk ?_|refine zh ?_ _));refine zad ?_ NB165_164.out _;(with_reducible repeat (first|refine zf ?_ _|refine zk ?_|refine zh ?_ _));refine zad ?_ NB165_164.out _;(with_reducible repeat (first|refine zf ?_ _|refine zk ?_|refine zh ?_ _));exact BK165.out) Tryz.underlying24 rfl (by kernel_rfl) (.cell gb166 24 #[.int .i64 t176,.int .i64 t177] (0,0) _ rfl (by (with_reducible repeat (first|refine zf ?_ _|refine zk ?_|refine zh ?_ _));refine zbg (cs:=#[.int .i64 t176,.int .i64 0]) ?_ 1 _ rfl;(with_reducible repeat (first|refine zf ?_ _|refine zk ?_|refine zh ?_ _));refine zbg (cs:=#[.int .i64 0,.int .i64 0]) ?_ 0 _ rfl;(with_reducible repeat (first|refine zf ?_ _|refine zk ?_|refine zh ?_ _));refine zad ?_ NB166_165.out _;(with_reducible repeat (first|refine zf ?_ _|refine zk ?_|refine zh ?_ _));refine zad ?_ NB166_165.out _;(with_reducible repeat (first|refine zf ?_ _|refine zk ?_|refine zh ?_ _));refine zad ?_ NB166_164.out _;(with_reducible repeat (first|refine zf ?_ _|refine zk ?_|refine zh ?_ _));refine zad ?_ NB166_164.out _;(with_reducible repeat (first|refine zf ?_ _|refine zk ?_|refine zh ?_ _));exact BK166.out) Tryz.underlying24 rfl (by kernel_rfl) .nil)))) rfl ?_
     exact ⟨by first|rfl|(simp [zay,zax]<;>rfl)|(simp [*,zay,zax]<;>rfl),by repeat (first|(with_reducible first|exact HB.out|apply zw|apply zn|apply zu|refine zl ?_ (ze.ge HI170.out)|refine zl ?_ GE164.out|refine zl ?_ GE165.out|refine zl ?_ GE166.out|refine zl ?_ GE175.out|refine zl ?_ GE180.out|refine zl ?_ GE185.out)|exact HB.out)⟩
    ·rw [if_neg c52] at H
     have c52b0:(x18_5==1)=false:=beq_eq_false_iff_ne.mpr c52
     have c52b1:(x18_5 != 1)=true:=bne_iff_ne.mpr c52
     by_cases c74:x18_5=2
     ·rw [if_pos c74] at H
      have c74b0:(x18_5==2)=true:=beq_iff_eq.mpr c74
      have c74b1:(x18_5 != 2)=false:=bne_eq_false_iff_eq.mpr c74
      clear c74
      simp only [Option.some.injEq,Prod.mk.injEq] at H
      obtain ⟨rfl,rfl,rfl,rfl,rfl,rfl⟩:=H
      have hnb75:=NB175_164.out
      have hnc75:=NB164_175.out
      have hnb76:=NB175_165.out
      have hnc76:=NB165_175.out
      have hnb77:=NB175_166.out
      have hnc77:=NB166_175.out
      have hnb78:=NB175_180.out
      have hnc78:=NB180_175.out
      have hnb79:=NB175_185.out
      have hnc79:=NB185_175.out
      have hnb80:=NB175_170.out
      have hnc80:=NB170_175.out
      have hcz81_0:wc.cell? ⟨gb175,0,none⟩=some (.int .i64 t171):=(zU BK175.out 0).trans rfl
      have hcz81_1:wc.cell? ⟨gb175,1,none⟩=some (.int .i64 t172):=(zU BK175.out 1).trans rfl
      have hfz81_0:=zT BK175.out 0
      have hfz81_1:=zT BK175.out 1
      have hnb82:=NB180_164.out
      have hnc82:=NB164_180.out
      have hnb83:=NB180_165.out
      have hnc83:=NB165_180.out
      have hnb84:=NB180_166.out
      have hnc84:=NB166_180.out
      have hnb85:=NB180_185.out
      have hnc85:=NB185_180.out
      have hnb86:=NB180_170.out
      have hnc86:=NB170_180.out
      have hcz87_0:wc.cell? ⟨gb180,0,none⟩=some (.int .i64 t176):=(zU BK180.out 0).trans rfl
      have hcz87_1:wc.cell? ⟨gb180,1,none⟩=some (.int .i64 t177):=(zU BK180.out 1).trans rfl
      have hfz87_0:=zT BK180.out 0
      have hfz87_1:=zT BK180.out 1
      try go_wp2
      have n0_:zm ((wc.setCell ⟨gb180,1,none⟩ (.int .i64 t172)).heap[gb164]?=some (.cells #[.int .i64 0,.int .i64 0] 24 (0,0))):=⟨by (with_reducible repeat (first|refine zf ?_ _|refine zk ?_|refine zh ?_ _));refine zad ?_ NB164_180.out _;(with_reducible repeat (first|refine zf ?_ _|refine zk ?_|refine zh ?_ _));exact BK164.out⟩
      have n1_:zm ((wc.setCell ⟨gb180,1,none⟩ (.int .i64 t172)).heap[gb165]?=some (.cells #[.int .i64 0,.int .i64 0] 24 (0,0))):=⟨by (with_reducible repeat (first|refine zf ?_ _|refine zk ?_|refine zh ?_ _));refine zad ?_ NB165_180.out _;(with_reducible repeat (first|refine zf ?_ _|refine zk ?_|refine zh ?_ _));exact BK165.out⟩
      have n2_:zm ((wc.setCell ⟨gb180,1,none⟩ (.int .i64 t172)).heap[gb166]?=some (.cells #[.int .i64 0,.int .i64 0] 24 (0,0))):=⟨by (with_reducible repeat (first|refine zf ?_ _|refine zk ?_|refine zh ?_ _));refine zad ?_ NB166_180.out _;(with_reducible repeat (first|refine zf ?_ _|refine zk ?_|refine zh ?_ _));exact BK166.out⟩
      have n3_:zm ((wc.setCell ⟨gb180,1,none⟩ (.int .i64 t172)).heap[gb175]?=some (.cells #[.int .i64 t171,.int .i64 t172] 24 (0,0))):=⟨by (with_reducible repeat (first|refine zf ?_ _|refine zk ?_|refine zh ?_ _));refine zad ?_ NB175_180.out _;(with_reducible repeat (first|refine zf ?_ _|refine zk ?_|refine zh ?_ _));exact BK175.out⟩
      have n4_:zm ((wc.setCell ⟨gb180,1,none⟩ (.int .i64 t172)).heap[gb180]?=some (.cells #[.int .i64 t176,.int .i64 t172] 24 (0,0))):=⟨by (with_reducible repeat (first|refine zf ?_ _|refine zk ?_|refine zh ?_ _));refine zbg (cs:=#[.int .i64 t176,.int .i64 t177]) ?_ 1 _ rfl;(with_reducible repeat (first|refine zf ?_ _|refine zk ?_|refine zh ?_ _));exact BK180.out⟩
      have n5_:zm ((wc.setCell ⟨gb180,1,none⟩ (.int .i64 t172)).heap[gb185]?=some (.cells #[.int .i64 t181,.int .i64 t182] 24 (0,0))):=⟨by (with_reducible repeat (first|refine zf ?_ _|refine zk ?_|refine zh ?_ _));refine zad ?_ NB185_180.out _;(with_reducible repeat (first|refine zf ?_ _|refine zk ?_|refine zh ?_ _));exact BK185.out⟩
      have n6_:zm (ze w (wc.setCell ⟨gb180,1,none⟩ (.int .i64 t172)) g170 t167 x171001_5 x171002_5):=⟨by repeat (first|(with_reducible first|exact HI170.out|apply ze.alloc|apply ze.drewN|apply ze.drew|apply ze.set_1|apply ze.set_2|refine ze.far ?_ NB170_164.out _|refine ze.far ?_ NB170_165.out _|refine ze.far ?_ NB170_166.out _|refine ze.far ?_ NB170_175.out _|refine ze.far ?_ NB170_180.out _|refine ze.far ?_ NB170_185.out _)|exact HI170.out)⟩
      have n7_:zm (Below w.heap.size w (wc.setCell ⟨gb180,1,none⟩ (.int .i64 t172))):=⟨by repeat (first|(with_reducible first|exact HB.out|apply zw|apply zn|apply zu|refine zl ?_ (ze.ge HI170.out)|refine zl ?_ GE164.out|refine zl ?_ GE165.out|refine zl ?_ GE166.out|refine zl ?_ GE175.out|refine zl ?_ GE180.out|refine zl ?_ GE185.out)|exact HB.out)⟩
      (try clear BK164)
      (try clear BK165)
      (try clear BK166)
      (try clear BK175)
      (try clear BK180)
      (try clear BK185)
      (try clear HI170)
      (try clear HB)
      generalize (wc.setCell ⟨gb180,1,none⟩ (.int .i64 t172))=w88 at n0_ n1_ n2_ n3_ n4_ n5_ n6_ n7_ ⊢
      have BK164:=n0_
      have BK165:=n1_
      have BK166:=n2_
      have BK175:=n3_
      have BK180:=n4_
      have BK185:=n5_
      have HI170:=n6_
      have HB:=n7_
      clear n0_ n1_ n2_ n3_ n4_ n5_ n6_ n7_
      have n0_:=zm.mk (zk BK164.out)
      have n1_:=zm.mk (zk BK165.out)
      have n2_:=zm.mk (zk BK166.out)
      have n3_:=zm.mk (zk BK175.out)
      have n4_:=zm.mk (zk BK180.out)
      have n5_:=zm.mk (zk BK185.out)
      have n6_:=zm.mk (ze.drew HI170.out)
      have n7_:=zm.mk (zu HB.out)
      clear BK164
      clear BK165
      clear BK166
      clear BK175
      clear BK180
      clear BK185
      clear HI170
      clear HB
      have BK164:=n0_
      have BK165:=n1_
      have BK166:=n2_
      have BK175:=n3_
      have BK180:=n4_
      have BK185:=n5_
      have HI170:=n6_
      have HB:=n7_
      clear n0_ n1_ n2_ n3_ n4_ n5_ n6_ n7_
      refine start_ (n:=6) (S:=fun w'=>w'.cell? ⟨gb175,0,none⟩=some (.int .i64 t171)/\w'.cell? ⟨gb175,1,none⟩=some (.int .i64 t172)/\w'.cell? ⟨gb180,0,none⟩=some (.int .i64 t176)/\w'.cell? ⟨gb180,1,none⟩=some (.int .i64 t172)/\w'.cell? ⟨gb185,0,none⟩=some (.int .i64 t181)/\w'.cell? ⟨gb185,1,none⟩=some (.int .i64 t182)) (ds:= []) #[false,false,false,false,false,false] (by kernel_rfl) rfl rfl ⟨(zU BK175.out 0).trans rfl,(zU BK175.out 1).trans rfl,(zU BK180.out 0).trans rfl,(zU BK180.out 1).trans rfl,(zU BK185.out 0).trans rfl,(zU BK185.out 1).trans rfl⟩ (fun hHeld=>?_)
      generalize w88.drew=w89 at BK164 BK165 BK166 BK175 BK180 BK185 HI170 HB hHeld ⊢
      refine take_ (i:=0) (N:=some 38) (v:=?_) (a':=?_) #[true,false,false,false,false,false] rfl rfl (by kernel_rfl) (fun _ _ _ h=>h) (Or.inl ⟨by rfl,?_⟩) hHeld ?_ ?_
      rotate_left
      ·rintro w' ⟨s0,s1,s2,s3,s4,s5⟩
       go_simp
       with_reducible rfl
      rotate_left
      ·simp only [Act.put,List.setIfInBounds_toArray,List.set_cons_zero,List.set_cons_succ,i64_w,i32_w]
       rfl
      refine take_ (i:=1) (N:=some 39) (v:=?_) (a':=?_) #[true,true,false,false,false,false] rfl rfl (by kernel_rfl) (fun _ _ _ h=>h) (Or.inl ⟨by rfl,?_⟩) hHeld ?_ ?_
      rotate_left
      ·rintro w' ⟨s0,s1,s2,s3,s4,s5⟩
       go_simp
       with_reducible rfl
      rotate_left
      ·simp only [Act.put,List.setIfInBounds_toArray,List.set_cons_zero,List.set_cons_succ,i64_w,i32_w]
       rfl
      refine take_ (i:=2) (N:=some 40) (v:=?_) (a':=?_) #[true,true,true,false,false,false] rfl rfl (by kernel_rfl) (fun _ _ _ h=>h) (Or.inl ⟨by rfl,?_⟩) hHeld ?_ ?_
      rotate_left
      ·rintro w' ⟨s0,s1,s2,s3,s4,s5⟩
       go_simp
       with_reducible rfl
      rotate_left
      ·simp only [Act.put,List.setIfInBounds_toArray,List.set_cons_zero,List.set_cons_succ,i64_w,i32_w]
       rfl
      refine one_ (i:=3) (N:=none) #[true,true,true,true,false,false] rfl rfl (by kernel_rfl) (by decide) (fun K hK=>?_)
      have hs90:w89.cell? ⟨gb164,0,none⟩=some (.int .i64 0):=(zU BK164.out 0).trans rfl
      have hfs90:=zT BK164.out 0
      have hns90_1:=NB165_164.out
      have hns90_2:=NB166_164.out
      have hns90_3:=NB175_164.out
      have hns90_4:=NB180_164.out
      have hns90_5:=NB185_164.out
      have hms90_1:=NB164_165.out
      have hms90_2:=NB164_166.out
      have hms90_3:=NB164_175.out
      have hms90_4:=NB164_180.out
      have hms90_5:=NB164_185.out
      have hs91:w89.cell? ⟨gb164,1,none⟩=some (.int .i64 0):=(zU BK164.out 1).trans rfl
      have hfs91:=zT BK164.out 1
      have hns91_1:=NB165_164.out
      have hns91_2:=NB166_164.out
      have hns91_3:=NB175_164.out
      have hns91_4:=NB180_164.out
      have hns91_5:=NB185_164.out
      have hms91_1:=NB164_165.out
      have hms91_2:=NB164_166.out
      have hms91_3:=NB164_175.out
      have hms91_4:=NB164_180.out
      have hms91_5:=NB164_185.out
      refine skip_ (w1:=?_) (by rfl) rfl ?_ ?_
      rotate_left
      ·go_simp
       rfl
      refine hK.out _ _ ⟨((cell_far (p:=⟨gb164,_,none⟩) NB175_164.out _).trans (((cell_far (p:=⟨gb164,_,none⟩) NB175_164.out _).trans (hHeld.1)))),((cell_far (p:=⟨gb164,_,none⟩) NB175_164.out _).trans (((cell_far (p:=⟨gb164,_,none⟩) NB175_164.out _).trans (hHeld.2.1)))),((cell_far (p:=⟨gb164,_,none⟩) NB180_164.out _).trans (((cell_far (p:=⟨gb164,_,none⟩) NB180_164.out _).trans (hHeld.2.2.1)))),((cell_far (p:=⟨gb164,_,none⟩) NB180_164.out _).trans (((cell_far (p:=⟨gb164,_,none⟩) NB180_164.out _).trans (hHeld.2.2.2.1)))),((cell_far (p:=⟨gb164,_,none⟩) NB185_164.out _).trans (((cell_far (p:=⟨gb164,_,none⟩) NB185_164.out _).trans (hHeld.2.2.2.2.1)))),((cell_far (p:=⟨gb164,_,none⟩) NB185_164.out _).trans (((cell_far (p:=⟨gb164,_,none⟩) NB185_164.out _).trans (hHeld.2.2.2.2.2))))⟩ (fun hHeld=>?_)
      clear hK K
      refine one_ (i:=4) (N:=none) #[true,true,true,true,true,false] rfl rfl (by kernel_rfl) (by decide) (fun K hK=>?_)
      have hs92:w89.cell? ⟨gb165,0,none⟩=some (.int .i64 0):=(zU BK165.out 0).trans rfl
      have hfs92:=zT BK165.out 0
      have hns92_0:=NB164_165.out
      have hns92_2:=NB166_165.out
      have hns92_3:=NB175_165.out
      have hns92_4:=NB180_165.out
      have hns92_5:=NB185_165.out
      have hms92_0:=NB165_164.out
      have hms92_2:=NB165_166.out
      have hms92_3:=NB165_175.out
      have hms92_4:=NB165_180.out
      have hms92_5:=NB165_185.out
      have hs93:w89.cell? ⟨gb165,1,none⟩=some (.int .i64 0):=(zU BK165.out 1).trans rfl
      have hfs93:=zT BK165.out 1
      have hns93_0:=NB164_165.out
      have hns93_2:=NB166_165.out
      have hns93_3:=NB175_165.out
      have hns93_4:=NB180_165.out
      have hns93_5:=NB185_165.out
      have hms93_0:=NB165_164.out
      have hms93_2:=NB165_166.out
      have hms93_3:=NB165_175.out
      have hms93_4:=NB165_180.out
      have hms93_5:=NB165_185.out
      refine skip_ (w1:=?_) (by rfl) rfl ?_ ?_
      rotate_left
      ·go_simp
       rfl
      refine hK.out _ _ ⟨((cell_far (p:=⟨gb165,_,none⟩) NB175_165.out _).trans (((cell_far (p:=⟨gb165,_,none⟩) NB175_165.out _).trans (hHeld.1)))),((cell_far (p:=⟨gb165,_,none⟩) NB175_165.out _).trans (((cell_far (p:=⟨gb165,_,none⟩) NB175_165.out _).trans (hHeld.2.1)))),((cell_far (p:=⟨gb165,_,none⟩) NB180_165.out _).trans (((cell_far (p:=⟨gb165,_,none⟩) NB180_165.out _).trans (hHeld.2.2.1)))),((cell_far (p:=⟨gb165,_,none⟩) NB180_165.out _).trans (((cell_far (p:=⟨gb165,_,none⟩) NB180_165.out _).trans (hHeld.2.2.2.1)))),((cell_far (p:=⟨gb165,_,none⟩) NB185_165.out _).trans (((cell_far (p:=⟨gb165,_,none⟩) NB185_165.out _).trans (hHeld.2.2.2.2.1)))),((cell_far (p:=⟨gb165,_,none⟩) NB185_165.out _).trans (((cell_far (p:=⟨gb165,_,none⟩) NB185_165.out _).trans (hHeld.2.2.2.2.2))))⟩ (fun hHeld=>?_)
      clear hK K
      refine one_ (i:=5) (N:=none) #[true,true,true,true,true,true] rfl rfl (by kernel_rfl) (by decide) (fun K hK=>?_)
      have hs94:w89.cell? ⟨gb166,0,none⟩=some (.int .i64 0):=(zU BK166.out 0).trans rfl
      have hfs94:=zT BK166.out 0
      have hns94_0:=NB164_166.out
      have hns94_1:=NB165_166.out
      have hns94_3:=NB175_166.out
      have hns94_4:=NB180_166.out
      have hns94_5:=NB185_166.out
      have hms94_0:=NB166_164.out
      have hms94_1:=NB166_165.out
      have hms94_3:=NB166_175.out
      have hms94_4:=NB166_180.out
      have hms94_5:=NB166_185.out
      have hs95:w89.cell? ⟨gb166,1,none⟩=some (.int .i64 0):=(zU BK166.out 1).trans rfl
      have hfs95:=zT BK166.out 1
      have hns95_0:=NB164_166.out
      have hns95_1:=NB165_166.out
      have hns95_3:=NB175_166.out
      have hns95_4:=NB180_166.out
      have hns95_5:=NB185_166.out
      have hms95_0:=NB166_164.out
      have hms95_1:=NB166_165.out
      have hms95_3:=NB166_175.out
      have hms95_4:=NB166_180.out
      have hms95_5:=NB166_185.out
      refine skip_ (w1:=?_) (by rfl) rfl ?_ ?_
      rotate_left
      ·go_simp
       rfl
      refine hK.out _ _ ⟨((cell_far (p:=⟨gb166,_,none⟩) NB175_166.out _).trans (((cell_far (p:=⟨gb166,_,none⟩) NB175_166.out _).trans (hHeld.1)))),((cell_far (p:=⟨gb166,_,none⟩) NB175_166.out _).trans (((cell_far (p:=⟨gb166,_,none⟩) NB175_166.out _).trans (hHeld.2.1)))),((cell_far (p:=⟨gb166,_,none⟩) NB180_166.out _).trans (((cell_far (p:=⟨gb166,_,none⟩) NB180_166.out _).trans (hHeld.2.2.1)))),((cell_far (p:=⟨gb166,_,none⟩) NB180_166.out _).trans (((cell_far (p:=⟨gb166,_,none⟩) NB180_166.out _).trans (hHeld.2.2.2.1)))),((cell_far (p:=⟨gb166,_,none⟩) NB185_166.out _).trans (((cell_far (p:=⟨gb166,_,none⟩) NB185_166.out _).trans (hHeld.2.2.2.2.1)))),((cell_far (p:=⟨gb166,_,none⟩) NB185_166.out _).trans (((cell_far (p:=⟨gb166,_,none⟩) NB185_166.out _).trans (hHeld.2.2.2.2.2))))⟩ (fun hHeld=>?_)
      clear hK K
      refine done_ (by kernel_rfl) ?_
      try go_wp2
      refine bodyPost_ret (results_list (rs:= [.cell 2 24,.cell 3 24,.cell 4 24]) rfl (by simp) (.cell gb164 24 #[.int .i64 t171,.int .i64 t172] (0,0) _ rfl (by (with_reducible repeat (first|refine zf ?_ _|refine zk ?_|refine zh ?_ _));refine zad ?_ NB164_166.out _;(with_reducible repeat (first|refine zf ?_ _|refine zk ?_|refine zh ?_ _));refine zad ?_ NB164_166.out _;(with_reducible repeat (first|refine zf ?_ _|refine zk ?_|refine zh ?_ _));refine zad ?_ NB164_165.out _;(with_reducible repeat (first|refine zf ?_ _|refine zk ?_|refine zh ?_ _));refine zad ?_ NB164_165.out _;(with_reducible repeat (first|refine zf ?_ _|refine zk ?_|refine zh ?_ _));refine zbg (cs:=#[.int .i64 t171,.int .i64 0]) ?_ 1 _ rfl;(with_reducible repeat (first|refine zf ?_ _|refine zk ?_|refine zh ?_ _));refine zbg (cs:=#[.int .i64 0,.int .i64 0]) ?_ 0 _ rfl;(with_reducible repeat (first|refine zf ?_ _|refine zk ?_|refine zh ?_ _));exact BK164.out) Tryz.underlying24 rfl (by kernel_rfl) (.cell gb165 24 #[.int .i64 t176,.int .i64 t172] (0,0) _ rfl (by (with_reducible repeat (first|refine zf ?_ _|refine zk ?_|refine zh ?_ _));refine zad ?_ NB165_166.out _;(with_reducible repeat (first|refine zf ?_ _|refine zk ?_|refine zh ?_ _));refine zad ?_ NB165_166.out _;(with_reducible repeat (first|refine zf ?_ _|refine zk ?_|refine zh ?_ _));refine zbg (cs:=#[.int .i64 t176,.int .i64 0]) ?_ 1 _ rfl;(with_reducible repeat (first|refine zf ?_ _|refine zk ?_|refine zh ?_ _));refine zbg (cs:=#[.int .i64 0,.int .i64 0]) ?_ 0 _ rfl;(with_reducible repeat (first|refine zf ?_ _|refine zk ?_|refine zh ?_ _));refine zad ?_ NB165_164.out _;(with_reducible repeat (first|refine zf ?_ _|refine zk ?_|refine zh ?_ _));refine zad ?_ NB165_164.out _;(with_reducible repeat (first|refine zf ?_ _|refine zk ?_|refine zh ?_ _));exact BK165.out) Tryz.underlying24 rfl (by kernel_rfl) (.cell gb166 24 #[.int .i64 t181,.int .i64 t182] (0,0) _ rfl (by (with_reducible repeat (first|refine zf ?_ _|refine zk ?_|refine zh ?_ _));refine zbg (cs:=#[.int .i64 t181,.int .i64 0]) ?_ 1 _ rfl;(with_reducible repeat (first|refine zf ?_ _|refine zk ?_|refine zh ?_ _));refine zbg (cs:=#[.int .i64 0,.int .i64 0]) ?_ 0 _ rfl;(with_reducible repeat (first|refine zf ?_ _|refine zk ?_|refine zh ?_ _));refine zad ?_ NB166_165.out _;(with_reducible repeat (first|refine zf ?_ _|refine zk ?_|refine zh ?_ _));refine zad ?_ NB166_165.out _;(with_reducible repeat (first|refine zf ?_ _|refine zk ?_|refine zh ?_ _));refine zad ?_ NB166_164.out _;(with_reducible repeat (first|refine zf ?_ _|refine zk ?_|refine zh ?_ _));refine zad ?_ NB166_164.out _;(with_reducible repeat (first|refine zf ?_ _|refine zk ?_|refine zh ?_ _));exact BK166.out) Tryz.underlying24 rfl (by kernel_rfl) .nil)))) rfl ?_
      exact ⟨by first|rfl|(simp [zay,zax]<;>rfl)|(simp [*,zay,zax]<;>rfl),by repeat (first|(with_reducible first|exact HB.out|apply zw|apply zn|apply zu|refine zl ?_ (ze.ge HI170.out)|refine zl ?_ GE164.out|refine zl ?_ GE165.out|refine zl ?_ GE166.out|refine zl ?_ GE175.out|refine zl ?_ GE180.out|refine zl ?_ GE185.out)|exact HB.out)⟩
     ·rw [if_neg c74] at H
      have c74b0:(x18_5==2)=false:=beq_eq_false_iff_ne.mpr c74
      have c74b1:(x18_5 != 2)=true:=bne_iff_ne.mpr c74
      simp only [Option.some.injEq,Prod.mk.injEq] at H
      obtain ⟨rfl,rfl,rfl,rfl,rfl,rfl⟩:=H
      try go_wp2
      have n0_:=zm.mk (zk BK164.out)
      have n1_:=zm.mk (zk BK165.out)
      have n2_:=zm.mk (zk BK166.out)
      have n3_:=zm.mk (zk BK175.out)
      have n4_:=zm.mk (zk BK180.out)
      have n5_:=zm.mk (zk BK185.out)
      have n6_:=zm.mk (ze.drew HI170.out)
      have n7_:=zm.mk (zu HB.out)
      clear BK164
      clear BK165
      clear BK166
      clear BK175
      clear BK180
      clear BK185
      clear HI170
      clear HB
      have BK164:=n0_
      have BK165:=n1_
      have BK166:=n2_
      have BK175:=n3_
      have BK180:=n4_
      have BK185:=n5_
      have HI170:=n6_
      have HB:=n7_
      clear n0_ n1_ n2_ n3_ n4_ n5_ n6_ n7_
      refine start_ (n:=6) (S:=fun w'=>w'.cell? ⟨gb175,0,none⟩=some (.int .i64 t171)/\w'.cell? ⟨gb175,1,none⟩=some (.int .i64 t172)/\w'.cell? ⟨gb180,0,none⟩=some (.int .i64 t176)/\w'.cell? ⟨gb180,1,none⟩=some (.int .i64 t177)/\w'.cell? ⟨gb185,0,none⟩=some (.int .i64 t181)/\w'.cell? ⟨gb185,1,none⟩=some (.int .i64 t182)) (ds:= []) #[false,false,false,false,false,false] (by kernel_rfl) rfl rfl ⟨(zU BK175.out 0).trans rfl,(zU BK175.out 1).trans rfl,(zU BK180.out 0).trans rfl,(zU BK180.out 1).trans rfl,(zU BK185.out 0).trans rfl,(zU BK185.out 1).trans rfl⟩ (fun hHeld=>?_)
      generalize wc.drew=w96 at BK164 BK165 BK166 BK175 BK180 BK185 HI170 HB hHeld ⊢
      refine take_ (i:=0) (N:=some 38) (v:=?_) (a':=?_) #[true,false,false,false,false,false] rfl rfl (by kernel_rfl) (fun _ _ _ h=>h) (Or.inl ⟨by rfl,?_⟩) hHeld ?_ ?_
      rotate_left
      ·rintro w' ⟨s0,s1,s2,s3,s4,s5⟩
       go_simp
       with_reducible rfl
      rotate_left
      ·simp only [Act.put,List.setIfInBounds_toArray,List.set_cons_zero,List.set_cons_succ,i64_w,i32_w]
       rfl
      refine take_ (i:=1) (N:=some 39) (v:=?_) (a':=?_) #[true,true,false,false,false,false] rfl rfl (by kernel_rfl) (fun _ _ _ h=>h) (Or.inl ⟨by rfl,?_⟩) hHeld ?_ ?_
      rotate_left
      ·rintro w' ⟨s0,s1,s2,s3,s4,s5⟩
       go_simp
       with_reducible rfl
      rotate_left
      ·simp only [Act.put,List.setIfInBounds_toArray,List.set_cons_zero,List.set_cons_succ,i64_w,i32_w]
       rfl
      refine take_ (i:=2) (N:=some 40) (v:=?_) (a':=?_) #[true,true,true,false,false,false] rfl rfl (by kernel_rfl) (fun _ _ _ h=>h) (Or.inl ⟨by rfl,?_⟩) hHeld ?_ ?_
      rotate_left
      ·rintro w' ⟨s0,s1,s2,s3,s4,s5⟩
       go_simp
       with_reducible rfl
      rotate_left
      ·simp only [Act.put,List.setIfInBounds_toArray,List.set_cons_zero,List.set_cons_succ,i64_w,i32_w]
       rfl
      refine one_ (i:=3) (N:=none) #[true,true,true,true,false,false] rfl rfl (by kernel_rfl) (by decide) (fun K hK=>?_)
      have hs97:w96.cell? ⟨gb164,0,none⟩=some (.int .i64 0):=(zU BK164.out 0).trans rfl
      have hfs97:=zT BK164.out 0
      have hns97_1:=NB165_164.out
      have hns97_2:=NB166_164.out
      have hns97_3:=NB175_164.out
      have hns97_4:=NB180_164.out
      have hns97_5:=NB185_164.out
      have hms97_1:=NB164_165.out
      have hms97_2:=NB164_166.out
      have hms97_3:=NB164_175.out
      have hms97_4:=NB164_180.out
      have hms97_5:=NB164_185.out
      have hs98:w96.cell? ⟨gb164,1,none⟩=some (.int .i64 0):=(zU BK164.out 1).trans rfl
      have hfs98:=zT BK164.out 1
      have hns98_1:=NB165_164.out
      have hns98_2:=NB166_164.out
      have hns98_3:=NB175_164.out
      have hns98_4:=NB180_164.out
      have hns98_5:=NB185_164.out
      have hms98_1:=NB164_165.out
      have hms98_2:=NB164_166.out
      have hms98_3:=NB164_175.out
      have hms98_4:=NB164_180.out
      have hms98_5:=NB164_185.out
      refine skip_ (w1:=?_) (by rfl) rfl ?_ ?_
      rotate_left
      ·go_simp
       rfl
      refine hK.out _ _ ⟨((cell_far (p:=⟨gb164,_,none⟩) NB175_164.out _).trans (((cell_far (p:=⟨gb164,_,none⟩) NB175_164.out _).trans (hHeld.1)))),((cell_far (p:=⟨gb164,_,none⟩) NB175_164.out _).trans (((cell_far (p:=⟨gb164,_,none⟩) NB175_164.out _).trans (hHeld.2.1)))),((cell_far (p:=⟨gb164,_,none⟩) NB180_164.out _).trans (((cell_far (p:=⟨gb164,_,none⟩) NB180_164.out _).trans (hHeld.2.2.1)))),((cell_far (p:=⟨gb164,_,none⟩) NB180_164.out _).trans (((cell_far (p:=⟨gb164,_,none⟩) NB180_164.out _).trans (hHeld.2.2.2.1)))),((cell_far (p:=⟨gb164,_,none⟩) NB185_164.out _).trans (((cell_far (p:=⟨gb164,_,none⟩) NB185_164.out _).trans (hHeld.2.2.2.2.1)))),((cell_far (p:=⟨gb164,_,none⟩) NB185_164.out _).trans (((cell_far (p:=⟨gb164,_,none⟩) NB185_164.out _).trans (hHeld.2.2.2.2.2))))⟩ (fun hHeld=>?_)
      clear hK K
      refine one_ (i:=4) (N:=none) #[true,true,true,true,true,false] rfl rfl (by kernel_rfl) (by decide) (fun K hK=>?_)
      have hs99:w96.cell? ⟨gb165,0,none⟩=some (.int .i64 0):=(zU BK165.out 0).trans rfl
      have hfs99:=zT BK165.out 0
      have hns99_0:=NB164_165.out
      have hns99_2:=NB166_165.out
      have hns99_3:=NB175_165.out
      have hns99_4:=NB180_165.out
      have hns99_5:=NB185_165.out
      have hms99_0:=NB165_164.out
      have hms99_2:=NB165_166.out
      have hms99_3:=NB165_175.out
      have hms99_4:=NB165_180.out
      have hms99_5:=NB165_185.out
      have hs100:w96.cell? ⟨gb165,1,none⟩=some (.int .i64 0):=(zU BK165.out 1).trans rfl
      have hfs100:=zT BK165.out 1
      have hns100_0:=NB164_165.out
      have hns100_2:=NB166_165.out
      have hns100_3:=NB175_165.out
      have hns100_4:=NB180_165.out
      have hns100_5:=NB185_165.out
      have hms100_0:=NB165_164.out
      have hms100_2:=NB165_166.out
      have hms100_3:=NB165_175.out
      have hms100_4:=NB165_180.out
      have hms100_5:=NB165_185.out
      refine skip_ (w1:=?_) (by rfl) rfl ?_ ?_
      rotate_left
      ·go_simp
       rfl
      refine hK.out _ _ ⟨((cell_far (p:=⟨gb165,_,none⟩) NB175_165.out _).trans (((cell_far (p:=⟨gb165,_,none⟩) NB175_165.out _).trans (hHeld.1)))),((cell_far (p:=⟨gb165,_,none⟩) NB175_165.out _).trans (((cell_far (p:=⟨gb165,_,none⟩) NB175_165.out _).trans (hHeld.2.1)))),((cell_far (p:=⟨gb165,_,none⟩) NB180_165.out _).trans (((cell_far (p:=⟨gb165,_,none⟩) NB180_165.out _).trans (hHeld.2.2.1)))),((cell_far (p:=⟨gb165,_,none⟩) NB180_165.out _).trans (((cell_far (p:=⟨gb165,_,none⟩) NB180_165.out _).trans (hHeld.2.2.2.1)))),((cell_far (p:=⟨gb165,_,none⟩) NB185_165.out _).trans (((cell_far (p:=⟨gb165,_,none⟩) NB185_165.out _).trans (hHeld.2.2.2.2.1)))),((cell_far (p:=⟨gb165,_,none⟩) NB185_165.out _).trans (((cell_far (p:=⟨gb165,_,none⟩) NB185_165.out _).trans (hHeld.2.2.2.2.2))))⟩ (fun hHeld=>?_)
      clear hK K
      refine one_ (i:=5) (N:=none) #[true,true,true,true,true,true] rfl rfl (by kernel_rfl) (by decide) (fun K hK=>?_)
      have hs101:w96.cell? ⟨gb166,0,none⟩=some (.int .i64 0):=(zU BK166.out 0).trans rfl
      have hfs101:=zT BK166.out 0
      have hns101_0:=NB164_166.out
      have hns101_1:=NB165_166.out
      have hns101_3:=NB175_166.out
      have hns101_4:=NB180_166.out
      have hns101_5:=NB185_166.out
      have hms101_0:=NB166_164.out
      have hms101_1:=NB166_165.out
      have hms101_3:=NB166_175.out
      have hms101_4:=NB166_180.out
      have hms101_5:=NB166_185.out
      have hs102:w96.cell? ⟨gb166,1,none⟩=some (.int .i64 0):=(zU BK166.out 1).trans rfl
      have hfs102:=zT BK166.out 1
      have hns102_0:=NB164_166.out
      have hns102_1:=NB165_166.out
      have hns102_3:=NB175_166.out
      have hns102_4:=NB180_166.out
      have hns102_5:=NB185_166.out
      have hms102_0:=NB166_164.out
      have hms102_1:=NB166_165.out
      have hms102_3:=NB166_175.out
      have hms102_4:=NB166_180.out
      have hms102_5:=NB166_185.out
      refine skip_ (w1:=?_) (by rfl) rfl ?_ ?_
      rotate_left
      ·go_simp
       rfl
      refine hK.out _ _ ⟨((cell_far (p:=⟨gb166,_,none⟩) NB175_166.out _).trans (((cell_far (p:=⟨gb166,_,none⟩) NB175_166.out _).trans (hHeld.1)))),((cell_far (p:=⟨gb166,_,none⟩) NB175_166.out _).trans (((cell_far (p:=⟨gb166,_,none⟩) NB175_166.out _).trans (hHeld.2.1)))),((cell_far (p:=⟨gb166,_,none⟩) NB180_166.out _).trans (((cell_far (p:=⟨gb166,_,none⟩) NB180_166.out _).trans (hHeld.2.2.1)))),((cell_far (p:=⟨gb166,_,none⟩) NB180_166.out _).trans (((cell_far (p:=⟨gb166,_,none⟩) NB180_166.out _).trans (hHeld.2.2.2.1)))),((cell_far (p:=⟨gb166,_,none⟩) NB185_166.out _).trans (((cell_far (p:=⟨gb166,_,none⟩) NB185_166.out _).trans (hHeld.2.2.2.2.1)))),((cell_far (p:=⟨gb166,_,none⟩) NB185_166.out _).trans (((cell_far (p:=⟨gb166,_,none⟩) NB185_166.out _).trans (hHeld.2.2.2.2.2))))⟩ (fun hHeld=>?_)
      clear hK K
      refine done_ (by kernel_rfl) ?_
      try go_wp2
      refine bodyPost_ret (results_list (rs:= [.cell 2 24,.cell 3 24,.cell 4 24]) rfl (by simp) (.cell gb164 24 #[.int .i64 t171,.int .i64 t172] (0,0) _ rfl (by (with_reducible repeat (first|refine zf ?_ _|refine zk ?_|refine zh ?_ _));refine zad ?_ NB164_166.out _;(with_reducible repeat (first|refine zf ?_ _|refine zk ?_|refine zh ?_ _));refine zad ?_ NB164_166.out _;(with_reducible repeat (first|refine zf ?_ _|refine zk ?_|refine zh ?_ _));refine zad ?_ NB164_165.out _;(with_reducible repeat (first|refine zf ?_ _|refine zk ?_|refine zh ?_ _));refine zad ?_ NB164_165.out _;(with_reducible repeat (first|refine zf ?_ _|refine zk ?_|refine zh ?_ _));refine zbg (cs:=#[.int .i64 t171,.int .i64 0]) ?_ 1 _ rfl;(with_reducible repeat (first|refine zf ?_ _|refine zk ?_|refine zh ?_ _));refine zbg (cs:=#[.int .i64 0,.int .i64 0]) ?_ 0 _ rfl;(with_reducible repeat (first|refine zf ?_ _|refine zk ?_|refine zh ?_ _));exact BK164.out) Tryz.underlying24 rfl (by kernel_rfl) (.cell gb165 24 #[.int .i64 t176,.int .i64 t177] (0,0) _ rfl (by (with_reducible repeat (first|refine zf ?_ _|refine zk ?_|refine zh ?_ _));refine zad ?_ NB165_166.out _;(with_reducible repeat (first|refine zf ?_ _|refine zk ?_|refine zh ?_ _));refine zad ?_ NB165_166.out _;(with_reducible repeat (first|refine zf ?_ _|refine zk ?_|refine zh ?_ _));refine zbg (cs:=#[.int .i64 t176,.int .i64 0]) ?_ 1 _ rfl;(with_reducible repeat (first|refine zf ?_ _|refine zk ?_|refine zh ?_ _));refine zbg (cs:=#[.int .i64 0,.int .i64 0]) ?_ 0 _ rfl;(with_reducible repeat (first|refine zf ?_ _|refine zk ?_|refine zh ?_ _));refine zad ?_ NB165_164.out _;(with_reducible repeat (first|refine zf ?_ _|refine zk ?_|refine zh ?_ _));refine zad ?_ NB165_164.out _;(with_reducible repeat (first|refine zf ?_ _|refine zk ?_|refine zh ?_ _));exact BK165.out) Tryz.underlying24 rfl (by kernel_rfl) (.cell gb166 24 #[.int .i64 t181,.int .i64 t182] (0,0) _ rfl (by (with_reducible repeat (first|refine zf ?_ _|refine zk ?_|refine zh ?_ _));refine zbg (cs:=#[.int .i64 t181,.int .i64 0]) ?_ 1 _ rfl;(with_reducible repeat (first|refine zf ?_ _|refine zk ?_|refine zh ?_ _));refine zbg (cs:=#[.int .i64 0,.int .i64 0]) ?_ 0 _ rfl;(with_reducible repeat (first|refine zf ?_ _|refine zk ?_|refine zh ?_ _));refine zad ?_ NB166_165.out _;(with_reducible repeat (first|refine zf ?_ _|refine zk ?_|refine zh ?_ _));refine zad ?_ NB166_165.out _;(with_reducible repeat (first|refine zf ?_ _|refine zk ?_|refine zh ?_ _));refine zad ?_ NB166_164.out _;(with_reducible repeat (first|refine zf ?_ _|refine zk ?_|refine zh ?_ _));refine zad ?_ NB166_164.out _;(with_reducible repeat (first|refine zf ?_ _|refine zk ?_|refine zh ?_ _));exact BK166.out) Tryz.underlying24 rfl (by kernel_rfl) .nil)))) rfl ?_
      exact ⟨by first|rfl|(simp [zay,zax]<;>rfl)|(simp [*,zay,zax]<;>rfl),by repeat (first|(with_reducible first|exact HB.out|apply zw|apply zn|apply zu|refine zl ?_ (ze.ge HI170.out)|refine zl ?_ GE164.out|refine zl ?_ GE165.out|refine zl ?_ GE166.out|refine zl ?_ GE175.out|refine zl ?_ GE180.out|refine zl ?_ GE185.out)|exact HB.out)⟩
end Go.Proofs.YtfcjhkkpbnobhaaGreat.PFnRhumbs
