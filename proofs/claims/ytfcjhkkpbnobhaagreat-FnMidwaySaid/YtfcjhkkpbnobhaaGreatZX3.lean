/- The law FnMidway gives true, whatever bytes come in. No conditions. (One of the texts of its proof, put together by a program of this session.) -/
import Derived.Test.YtfcjhkkpbnobhaaGreatZX0
import Derived.Test.YtfcjhkkpbnobhaaGreatZX1
set_option linter.unusedSectionVars false
set_option linter.unusedSimpArgs false
set_option linter.unusedVariables false
namespace Go.Proofs.YtfcjhkkpbnobhaaGreat.PFnMidway
open Go.RowKit Go.Proofs.YtfcjhkkpbnobhaaGreatW.PrintWords Go.Proofs.YtfcjhkkpbnobhaaGreatW.PrintLast Go.Proofs.YtfcjhkkpbnobhaaGreatW.PrintMore
def laws_d8Long.f (l0:List Int) (l1:List Int):Option (Bool):=if (l0.length:Int)>1048576 then (some true) else (some (decide ((l1.length:Int)>1048576)))
set_option maxHeartbeats 8000000 in
set_option maxRecDepth 100000 in
theorem laws_d8Long.calls (A0:Option Addr) (c0:Nat) (l0:List Int) (A1:Option Addr) (c1:Nat) (l1:List Int) (r:Bool) (w:World) (hr0:Kd.C (Kd.int .u8) w A0 l0.length l0) (hc0:l0.length<=c0) (hr1:Kd.C (Kd.int .u8) w A1 l1.length l1) (hc1:l1.length<=c1) (h:laws_d8Long.f l0 l1=some r):
  Calls Tryz.prog 19 #[.slice A0 l0.length c0,.slice A1 l1.length c1] w fun e w'=>e= .returned (.bool r)/\Drawn0 w w':=by
 have HR0:=zm.mk hr0
 have HC0:=zm.mk hc0
 clear hr0 hc0
 have HR1:=zm.mk hr1
 have HC1:=zm.mk hc1
 clear hr1 hc1
 have H:(if (l0.length:Int)>1048576 then (some true) else (some (decide ((l1.length:Int)>1048576))))=some r:=h
 clear h
 by_cases c3:(l0.length:Int)>1048576
 ·rw [if_pos c3] at H
  have c3b0:decide (1048576<(l0.length:Int))=true:=decide_eq_true c3
  have c3b1:decide (1048576<l0.length)=true:=decide_eq_true (by omega)
  clear c3
  obtain rfl:=Option.some.inj H
  go_enter Tryz.func19,Tryz.ntmps19
  go_wp2
  go_ret
  exact ⟨by first|rfl|(simp;done)|(simp [*];done),by repeat (first|exact Drawn0.refl _|apply Drawn0.step)⟩
 ·rw [if_neg c3] at H
  have c3b0:decide (1048576<(l0.length:Int))=false:=decide_eq_false c3
  have c3b1:decide (1048576<l0.length)=false:=decide_eq_false (by omega)
  clear c3
  obtain rfl:=Option.some.inj H
  go_enter Tryz.func19,Tryz.ntmps19
  go_wp2
  go_ret
  exact ⟨by first|rfl|(simp;done)|(simp [*];done),by repeat (first|exact Drawn0.refl _|apply Drawn0.step)⟩
def spec_E8Point.f (k:Nat) (l0:List Int):Option (Int×Int):=(zdm.f l0).bind fun bt194=>((zah.f k bt194.1 bt194.2.1 bt194.2.2).bind fun bt198=>(some (bt198.1,bt198.2.1)))
set_option maxHeartbeats 8000000 in
set_option maxRecDepth 100000 in
theorem spec_E8Point.calls (k:Nat) (A0:Option Addr) (c0:Nat) (l0:List Int) (r1:Int) (r2:Int) (w:World) (hr0:Kd.C (Kd.int .u8) w A0 l0.length l0) (hc0:l0.length<=c0) (h:spec_E8Point.f k l0=some (r1,r2)):
  Calls Tryz.prog 20 #[.slice A0 l0.length c0] w fun e w'=>e= .returned (.agg #[.int .i64 r1,.int .i64 r2])/\Below w.heap.size w w':=by
 have hu24:=Tryz.underlying24
 have HR0:=zm.mk hr0
 have HC0:=zm.mk hc0
 clear hr0 hc0
 have HB:=zm.mk (Below.refl w.heap.size w)
 have H:((zdm.f l0).bind fun bt194=>((zah.f k bt194.1 bt194.2.1 bt194.2.2).bind fun bt198=>(some (bt198.1,bt198.2.1))))=some (r1,r2):=h
 clear h
 replace H:=Option.bind_eq_some_iff.mp H
 obtain ⟨⟨t194,t195,t196⟩,A20,H⟩:=H
 replace H:((zah.f k t194 t195 t196).bind fun bt198=>(some (bt198.1,bt198.2.1)))=some (r1,r2):=H
 have A2:=zm.mk A20
 clear A20
 replace H:=Option.bind_eq_some_iff.mp H
 obtain ⟨⟨t198,t199,t200,t201⟩,A30,H⟩:=H
 replace H:(some (t198,t199))=some (r1,r2):=H
 have A3:=zm.mk A30
 clear A30
 simp only [Option.some.injEq,Prod.mk.injEq] at H
 obtain ⟨rfl,rfl⟩:=H
 go_enter Tryz.func20,Tryz.ntmps20
 go_wp2_with (first|((with_reducible refine zeq (N:=2) rfl ?_);refine zfz ?hg (N:=2) ?hd (cs:=#[.int .i64 0,.int .i64 0]) (t:=24) ?hr ?_;(case hd=>rfl);(case hg=>rfl);(case hr=>first|(go_simp;done)|(go_simp;rfl));intro gb193 hg w4 hbox hb;have n0_:=zm.mk (zcj (by repeat (first|(with_reducible first|exact HB.out|apply zq|apply zn|apply zo)|exact HB.out)) hb);have n1_:=zm.mk (hbox);have n2_:=zm.mk ((by rw [hg];exact (zb8 (by repeat (first|(with_reducible first|exact HB.out|apply zq|apply zn|apply zo)|exact HB.out))):w.heap.size<=gb193));have n3_:=zm.mk ((by rw [hg];exact (zb8 (by repeat (first|(with_reducible first|exact HB.out|apply zq|apply zn|apply zo)|exact HB.out))):w.heap.size<=gb193));clear HB;have HB:=n0_;have BK193:=n1_;have GW193:=n2_;have GE193:=n3_;clear n0_ n1_ n2_ n3_;clear hb hbox hg)|((with_reducible refine zaq (f:=73) rfl ?_);refine zcv (some 5) rfl rfl Tryz.func73 (by kernel_rfl) rfl #[.slice A0 l0.length c0] rfl (by (try simp only [List.map_toArray,List.map_cons,List.map_nil]);first|done|rfl|(simp only [List.length_drop,List.length_take];rfl)) ?_;(with_reducible refine (zdm.calls _ _ l0 t194 t195 t196 w _ ?side1 ?side2 ?side3 A2.out).mono ?_);(case side1=>repeat (first|(with_reducible first|exact HB.out|apply zq|apply zn|apply zo|refine zl ?_ GE193.out)|exact HB.out));(case side2=>exact HR0.out);(case side3=>exact HC0.out);rintro e w5 ⟨g197,rfl,hi,hb,hb2⟩;refine ⟨_,rfl,?_⟩;have n0_:=zm.mk (za0 (g:=gb193) (o:= .cells #[.int .i64 0,.int .i64 0] 24 (0,0)) (by (with_reducible repeat (first|refine ze ?_ _|refine zk ?_|refine zf ?_ _));exact BK193.out) hb2);have n1_:=zm.mk (hb);have n2_:=zm.mk (hi);have n3_:=zm.mk (za.ne_blk hi (za0 (g:=gb193) (o:= .cells #[.int .i64 0,.int .i64 0] 24 (0,0)) (by (with_reducible repeat (first|refine ze ?_ _|refine zk ?_|refine zf ?_ _));exact BK193.out) hb2) (by decide));have n4_:=zm.mk (Ne.symm (za.ne_blk hi (za0 (g:=gb193) (o:= .cells #[.int .i64 0,.int .i64 0] 24 (0,0)) (by (with_reducible repeat (first|refine ze ?_ _|refine zk ?_|refine zf ?_ _));exact BK193.out) hb2) (by decide)));clear BK193;clear HB;have BK193:=n0_;have HB:=n1_;have HI197:=n2_;have NB197_193:=n3_;have NB193_197:=n4_;clear n0_ n1_ n2_ n3_ n4_;(try clear hb);(try clear hb2);(try clear hk);(try clear hi))|((with_reducible refine zaq (f:=74) rfl ?_);refine zcv (some 7) rfl rfl Tryz.func74 (by kernel_rfl) rfl #[.pointer (some ⟨g197,0,none⟩)] rfl (by (try simp only [List.map_toArray,List.map_cons,List.map_nil]);first|done|rfl|(simp only [List.length_drop,List.length_take];rfl)) ?_;(with_reducible refine (zah.calls k g197 t194 t195 t196 t198 t199 t200 t201 w _ ?side1 ?side2 A3.out).mono ?_);(case side1=>repeat (first|(with_reducible first|exact HI197.out|apply za.alloc|apply za.drewN|apply za.drew|apply za.set_1|apply za.set_2|refine za.far ?_ NB197_193.out _)|exact HI197.out));(case side2=>repeat (first|(with_reducible first|exact HB.out|apply zq|apply zn|apply zo|refine zl ?_ (za.ge HI197.out)|refine zl ?_ GE193.out)|exact HB.out));rintro e w6 ⟨rfl,hi,hb,hk⟩;refine ⟨_,rfl,?_⟩;have n0_:=zm.mk (zy.blk hk (g':=gb193) (o:= .cells #[.int .i64 0,.int .i64 0] 24 (0,0)) (by (with_reducible repeat (first|refine ze ?_ _|refine zk ?_|refine zf ?_ _));exact BK193.out) NB193_197.out (by simp));have n1_:=zm.mk (hb);have n2_:=zm.mk (hi);clear BK193;clear HB;clear HI197;have BK193:=n0_;have HB:=n1_;have HI197:=n2_;clear n0_ n1_ n2_;(try clear hb);(try clear hb2);(try clear hk);(try clear hi);have hnb7:=NB193_197.out;have hnc7:=NB197_193.out;have hcz8_0:w6.cell? ⟨gb193,0,none⟩=some (.int .i64 0):=(zP BK193.out 0).trans rfl;have hcz8_1:w6.cell? ⟨gb193,1,none⟩=some (.int .i64 0):=(zP BK193.out 1).trans rfl;have hfz8_0:=zO BK193.out 0;have hfz8_1:=zO BK193.out 1))
 refine bodyPost_ret (results_cell_row rfl _ _ gb193 24 #[.int .i64 t198,.int .i64 t199] (0,0) _ rfl (by (with_reducible repeat (first|refine ze ?_ _|refine zk ?_|refine zf ?_ _));refine zbe (cs:=#[.int .i64 t198,.int .i64 0]) ?_ 1 _ rfl;(with_reducible repeat (first|refine ze ?_ _|refine zk ?_|refine zf ?_ _));refine zbe (cs:=#[.int .i64 0,.int .i64 0]) ?_ 0 _ rfl;(with_reducible repeat (first|refine ze ?_ _|refine zk ?_|refine zf ?_ _));exact BK193.out) Tryz.underlying24 rfl (by kernel_rfl)) rfl ?_
 exact ⟨by first|rfl|(simp [zao,zan]<;>rfl)|(simp [*,zao,zan]<;>rfl),by repeat (first|(with_reducible first|exact HB.out|apply zq|apply zn|apply zo|refine zl ?_ (za.ge HI197.out)|refine zl ?_ GE193.out)|exact HB.out)⟩
end Go.Proofs.YtfcjhkkpbnobhaaGreat.PFnMidway
