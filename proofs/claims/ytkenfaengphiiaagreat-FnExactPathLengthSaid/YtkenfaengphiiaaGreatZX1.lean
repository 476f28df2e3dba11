/- The law FnExactPathLength gives true, whatever comes in; each argument reads behind the call as it read before. No conditions. (One of the texts of its proof, put together by a program of this session.) -/
import Derived.Test.YtkenfaengphiiaaGreatZX0
set_option linter.unusedSectionVars false
set_option linter.unusedSimpArgs false
set_option linter.unusedVariables false
namespace Go.Proofs.YtkenfaengphiiaaGreat.PFnExactPathLength
open Go.RowKit Go.Proofs.YtkenfaengphiiaaGreatW.PrintWords Go.Proofs.YtkenfaengphiiaaGreatW.PrintLast Go.Proofs.YtkenfaengphiiaaGreatW.PrintMore
def zba.f (a0_0:Int) (a0_1:Int) (a0_2:Int):Option (Int×Int×Int):=some (a0_0,a0_1,a0_2)
set_option maxHeartbeats 8000000 in
set_option maxRecDepth 100000 in
theorem zba.calls (a0_0:Int) (a0_1:Int) (a0_2:Int) (r1:Int) (r2:Int) (r3:Int) (w:World) (h:zba.f a0_0 a0_1 a0_2=some (r1,r2,r3)):
  Calls Tryz.prog 45 #[.agg #[.int .i64 a0_0,.int .i64 a0_1,.int .i64 a0_2]] w fun e w'=>e= .returned (.agg #[.int .i64 r1,.int .i64 r2,.int .i64 r3])/\Below w.heap.size w w':=by
 have hu66:=Tryz.underlying66
 have hu57:=Tryz.underlying57
 have HB:=zy.mk (Below.refl w.heap.size w)
 have H:(some (a0_0,a0_1,a0_2))=some (r1,r2,r3):=h
 clear h
 simp only [Option.some.injEq,Prod.mk.injEq] at H
 obtain ⟨rfl,rfl,rfl⟩:=H
 go_enter Tryz.func45,Tryz.ntmps45
 go_wp2_with (first|((with_reducible refine zc7 (N:=1) rfl ?_);refine zcl ?hg (N:=1) ?hd (cs:=#[.int .i64 a0_0,.int .i64 a0_1,.int .i64 a0_2]) (t:=66) ?hr ?_;(case hd=>rfl);(case hg=>rfl);(case hr=>first|(go_simp;done)|(go_simp;rfl));intro gb101 hg w2 hbox hb;have n0_:=zy.mk (zaF (by repeat (first|(with_reducible first|exact HB.out|apply zm|apply zh|apply zo)|exact HB.out)) hb);have n1_:=zy.mk (hbox);have n2_:=zy.mk ((by rw [hg];exact (zam (by repeat (first|(with_reducible first|exact HB.out|apply zm|apply zh|apply zo)|exact HB.out))):w.heap.size<=gb101));have n3_:=zy.mk ((by rw [hg];exact (zam (by repeat (first|(with_reducible first|exact HB.out|apply zm|apply zh|apply zo)|exact HB.out))):w.heap.size<=gb101));clear HB;have HB:=n0_;have BK101:=n1_;have GW101:=n2_;have GE101:=n3_;clear n0_ n1_ n2_ n3_;clear hb hbox hg)|((with_reducible refine zc7 (N:=2) rfl ?_);refine zcl ?hg (N:=2) ?hd (cs:=#[.int .i64 0,.int .i64 0,.int .i64 0]) (t:=57) ?hr ?_;(case hd=>rfl);(case hg=>rfl);(case hr=>first|(go_simp;done)|(go_simp;rfl));intro gb102 hg w3 hbox hb;have n0_:=zy.mk (zaM (g:=gb101) (o:= .cells #[.int .i64 a0_0,.int .i64 a0_1,.int .i64 a0_2] 66 (0,0)) (by (with_reducible repeat (first|refine zG ?_ _|refine zM ?_|refine zH ?_ _));exact BK101.out) hb);have n1_:=zy.mk (zaF (by repeat (first|(with_reducible first|exact HB.out|apply zm|apply zh|apply zo|refine zB ?_ GE101.out)|exact HB.out)) hb);have n2_:=zy.mk (hbox);have n3_:=zy.mk ((by rw [hg];exact (zam (by repeat (first|(with_reducible first|exact HB.out|apply zm|apply zh|apply zo|refine zB ?_ GE101.out)|exact HB.out))):w.heap.size<=gb102));have n4_:=zy.mk ((by rw [hg];exact (zam (by repeat (first|(with_reducible first|exact HB.out|apply zm|apply zh|apply zo|refine zB ?_ GE101.out)|exact HB.out))):w.heap.size<=gb102));have n5_:=zy.mk ((by rw [hg];exact Nat.ne_of_lt (zea (g:=gb101) (o:= .cells #[.int .i64 a0_0,.int .i64 a0_1,.int .i64 a0_2] 66 (0,0)) (by (with_reducible repeat (first|refine zG ?_ _|refine zM ?_|refine zH ?_ _));exact BK101.out)):gb101≠gb102));have n6_:=zy.mk ((by rw [hg];exact Nat.ne_of_gt (zea (g:=gb101) (o:= .cells #[.int .i64 a0_0,.int .i64 a0_1,.int .i64 a0_2] 66 (0,0)) (by (with_reducible repeat (first|refine zG ?_ _|refine zM ?_|refine zH ?_ _));exact BK101.out)):gb102≠gb101));clear BK101;clear HB;have BK101:=n0_;have HB:=n1_;have BK102:=n2_;have GW102:=n3_;have GE102:=n4_;have NB101_102:=n5_;have NB102_101:=n6_;clear n0_ n1_ n2_ n3_ n4_ n5_ n6_;clear hb hbox hg)|((with_reducible refine zc7 (N:=3) rfl ?_);refine zcl ?hg (N:=3) ?hd (cs:=#[.int .i64 0,.int .i64 0,.int .i64 0]) (t:=57) ?hr ?_;(case hd=>rfl);(case hg=>rfl);(case hr=>first|(go_simp;done)|(go_simp;rfl));intro gb103 hg w4 hbox hb;have n0_:=zy.mk (zaM (g:=gb101) (o:= .cells #[.int .i64 a0_0,.int .i64 a0_1,.int .i64 a0_2] 66 (0,0)) (by (with_reducible repeat (first|refine zG ?_ _|refine zM ?_|refine zH ?_ _));exact BK101.out) hb);have n1_:=zy.mk (zaM (g:=gb102) (o:= .cells #[.int .i64 0,.int .i64 0,.int .i64 0] 57 (0,0)) (by (with_reducible repeat (first|refine zG ?_ _|refine zM ?_|refine zH ?_ _));exact BK102.out) hb);have n2_:=zy.mk (zaF (by repeat (first|(with_reducible first|exact HB.out|apply zm|apply zh|apply zo|refine zB ?_ GE101.out|refine zB ?_ GE102.out)|exact HB.out)) hb);have n3_:=zy.mk (hbox);have n4_:=zy.mk ((by rw [hg];exact (zam (by repeat (first|(with_reducible first|exact HB.out|apply zm|apply zh|apply zo|refine zB ?_ GE101.out|refine zB ?_ GE102.out)|exact HB.out))):w.heap.size<=gb103));have n5_:=zy.mk ((by rw [hg];exact (zam (by repeat (first|(with_reducible first|exact HB.out|apply zm|apply zh|apply zo|refine zB ?_ GE101.out|refine zB ?_ GE102.out)|exact HB.out))):w.heap.size<=gb103));have n6_:=zy.mk ((by rw [hg];exact Nat.ne_of_lt (zea (g:=gb101) (o:= .cells #[.int .i64 a0_0,.int .i64 a0_1,.int .i64 a0_2] 66 (0,0)) (by (with_reducible repeat (first|refine zG ?_ _|refine zM ?_|refine zH ?_ _));exact BK101.out)):gb101≠gb103));have n7_:=zy.mk ((by rw [hg];exact Nat.ne_of_gt (zea (g:=gb101) (o:= .cells #[.int .i64 a0_0,.int .i64 a0_1,.int .i64 a0_2] 66 (0,0)) (by (with_reducible repeat (first|refine zG ?_ _|refine zM ?_|refine zH ?_ _));exact BK101.out)):gb103≠gb101));have n8_:=zy.mk ((by rw [hg];exact Nat.ne_of_lt (zea (g:=gb102) (o:= .cells #[.int .i64 0,.int .i64 0,.int .i64 0] 57 (0,0)) (by (with_reducible repeat (first|refine zG ?_ _|refine zM ?_|refine zH ?_ _));exact BK102.out)):gb102≠gb103));have n9_:=zy.mk ((by rw [hg];exact Nat.ne_of_gt (zea (g:=gb102) (o:= .cells #[.int .i64 0,.int .i64 0,.int .i64 0] 57 (0,0)) (by (with_reducible repeat (first|refine zG ?_ _|refine zM ?_|refine zH ?_ _));exact BK102.out)):gb103≠gb102));clear BK101;clear BK102;clear HB;have BK101:=n0_;have BK102:=n1_;have HB:=n2_;have BK103:=n3_;have GW103:=n4_;have GE103:=n5_;have NB101_103:=n6_;have NB103_101:=n7_;have NB102_103:=n8_;have NB103_102:=n9_;clear n0_ n1_ n2_ n3_ n4_ n5_ n6_ n7_ n8_ n9_;clear hb hbox hg;have hnb5:=NB101_102.out;have hnc5:=NB102_101.out;have hnb6:=NB101_103.out;have hnc6:=NB103_101.out;have hcz7_0:w4.cell? ⟨gb101,0,none⟩=some (.int .i64 a0_0):=(zaB BK101.out 0).trans rfl;have hcz7_1:w4.cell? ⟨gb101,1,none⟩=some (.int .i64 a0_1):=(zaB BK101.out 1).trans rfl;have hcz7_2:w4.cell? ⟨gb101,2,none⟩=some (.int .i64 a0_2):=(zaB BK101.out 2).trans rfl;have hfz7_0:=zab BK101.out 0;have hfz7_1:=zab BK101.out 1;have hfz7_2:=zab BK101.out 2;have hnb8:=NB103_102.out;have hnc8:=NB102_103.out;have hcz9_0:w4.cell? ⟨gb103,0,none⟩=some (.int .i64 0):=(zaB BK103.out 0).trans rfl;have hcz9_1:w4.cell? ⟨gb103,1,none⟩=some (.int .i64 0):=(zaB BK103.out 1).trans rfl;have hcz9_2:w4.cell? ⟨gb103,2,none⟩=some (.int .i64 0):=(zaB BK103.out 2).trans rfl;have hfz9_0:=zab BK103.out 0;have hfz9_1:=zab BK103.out 1;have hfz9_2:=zab BK103.out 2;have hcz10_0:w4.cell? ⟨gb102,0,none⟩=some (.int .i64 0):=(zaB BK102.out 0).trans rfl;have hcz10_1:w4.cell? ⟨gb102,1,none⟩=some (.int .i64 0):=(zaB BK102.out 1).trans rfl;have hcz10_2:w4.cell? ⟨gb102,2,none⟩=some (.int .i64 0):=(zaB BK102.out 2).trans rfl;have hfz10_0:=zab BK102.out 0;have hfz10_1:=zab BK102.out 1;have hfz10_2:=zab BK102.out 2))
 refine bodyPost_ret (results_cell_row rfl _ _ gb102 57 #[.int .i64 a0_0,.int .i64 a0_1,.int .i64 a0_2] (0,0) _ rfl (by (with_reducible repeat (first|refine zG ?_ _|refine zM ?_|refine zH ?_ _));refine blk_put (cs:=#[.int .i64 a0_0,.int .i64 a0_1,.int .i64 0]) ?_ 2 _ rfl;(with_reducible repeat (first|refine zG ?_ _|refine zM ?_|refine zH ?_ _));refine blk_put (cs:=#[.int .i64 a0_0,.int .i64 0,.int .i64 0]) ?_ 1 _ rfl;(with_reducible repeat (first|refine zG ?_ _|refine zM ?_|refine zH ?_ _));refine blk_put (cs:=#[.int .i64 0,.int .i64 0,.int .i64 0]) ?_ 0 _ rfl;(with_reducible repeat (first|refine zG ?_ _|refine zM ?_|refine zH ?_ _));refine blk_far ?_ NB102_103.out _;(with_reducible repeat (first|refine zG ?_ _|refine zM ?_|refine zH ?_ _));refine blk_far ?_ NB102_103.out _;(with_reducible repeat (first|refine zG ?_ _|refine zM ?_|refine zH ?_ _));refine blk_far ?_ NB102_103.out _;(with_reducible repeat (first|refine zG ?_ _|refine zM ?_|refine zH ?_ _));exact BK102.out) Tryz.underlying57 rfl (by kernel_rfl)) rfl ?_
 exact ⟨by first|rfl|(simp [zbf,zbe]<;>rfl)|(simp [*,zbf,zbe]<;>rfl),by repeat (first|(with_reducible first|exact HB.out|apply zm|apply zh|apply zo|refine zB ?_ GE101.out|refine zB ?_ GE102.out|refine zB ?_ GE103.out)|exact HB.out)⟩
def zbq.f (a0_0:Int) (a0_1:Int) (a1_0:Int) (a1_1:Int):Option (Bool):=if a0_0=a1_0 then (if a0_1=a1_1 then (some true) else (some false)) else (some false)
set_option maxHeartbeats 8000000 in
set_option maxRecDepth 100000 in
theorem zbq.calls (a0_0:Int) (a0_1:Int) (a1_0:Int) (a1_1:Int) (r:Bool) (w:World) (h:zbq.f a0_0 a0_1 a1_0 a1_1=some r):
  Calls Tryz.prog 51 #[.agg #[.int .i64 a0_0,.int .i64 a0_1],.agg #[.int .i64 a1_0,.int .i64 a1_1]] w fun e w'=>e= .returned (.bool r)/\Below w.heap.size w w':=by
 have hu30:=Tryz.underlying30
 have HB:=zy.mk (Below.refl w.heap.size w)
 have H:(if a0_0=a1_0 then (if a0_1=a1_1 then (some true) else (some false)) else (some false))=some r:=h
 clear h
 by_cases c3:a0_0=a1_0
 ·rw [if_pos c3] at H
  have c3b0:(a0_0==a1_0)=true:=beq_iff_eq.mpr c3
  have c3b1:(a0_0 != a1_0)=false:=bne_eq_false_iff_eq.mpr c3
  clear c3
  by_cases c4:a0_1=a1_1
  ·rw [if_pos c4] at H
   have c4b0:(a0_1==a1_1)=true:=beq_iff_eq.mpr c4
   have c4b1:(a0_1 != a1_1)=false:=bne_eq_false_iff_eq.mpr c4
   clear c4
   obtain rfl:=Option.some.inj H
   go_enter Tryz.func51,Tryz.ntmps51
   go_wp2_with (first|((with_reducible refine zc7 (N:=2) rfl ?_);refine zcl ?hg (N:=2) ?hd (cs:=#[.int .i64 a0_0,.int .i64 a0_1]) (t:=30) ?hr ?_;(case hd=>rfl);(case hg=>rfl);(case hr=>first|(go_simp;done)|(go_simp;rfl));intro gb104 hg w5 hbox hb;have n0_:=zy.mk (zaF (by repeat (first|(with_reducible first|exact HB.out|apply zm|apply zh|apply zo)|exact HB.out)) hb);have n1_:=zy.mk (hbox);have n2_:=zy.mk ((by rw [hg];exact (zam (by repeat (first|(with_reducible first|exact HB.out|apply zm|apply zh|apply zo)|exact HB.out))):w.heap.size<=gb104));have n3_:=zy.mk ((by rw [hg];exact (zam (by repeat (first|(with_reducible first|exact HB.out|apply zm|apply zh|apply zo)|exact HB.out))):w.heap.size<=gb104));clear HB;have HB:=n0_;have BK104:=n1_;have GW104:=n2_;have GE104:=n3_;clear n0_ n1_ n2_ n3_;clear hb hbox hg)|((with_reducible refine zc7 (N:=3) rfl ?_);refine zcl ?hg (N:=3) ?hd (cs:=#[.int .i64 a1_0,.int .i64 a1_1]) (t:=30) ?hr ?_;(case hd=>rfl);(case hg=>rfl);(case hr=>first|(go_simp;done)|(go_simp;rfl));intro gb105 hg w6 hbox hb;have n0_:=zy.mk (zaM (g:=gb104) (o:= .cells #[.int .i64 a0_0,.int .i64 a0_1] 30 (0,0)) (by (with_reducible repeat (first|refine zG ?_ _|refine zM ?_|refine zH ?_ _));exact BK104.out) hb);have n1_:=zy.mk (zaF (by repeat (first|(with_reducible first|exact HB.out|apply zm|apply zh|apply zo|refine zB ?_ GE104.out)|exact HB.out)) hb);have n2_:=zy.mk (hbox);have n3_:=zy.mk ((by rw [hg];exact (zam (by repeat (first|(with_reducible first|exact HB.out|apply zm|apply zh|apply zo|refine zB ?_ GE104.out)|exact HB.out))):w.heap.size<=gb105));have n4_:=zy.mk ((by rw [hg];exact (zam (by repeat (first|(with_reducible first|exact HB.out|apply zm|apply zh|apply zo|refine zB ?_ GE104.out)|exact HB.out))):w.heap.size<=gb105));have n5_:=zy.mk ((by rw [hg];exact Nat.ne_of_lt (zea (g:=gb104) (o:= .cells #[.int .i64 a0_0,.int .i64 a0_1] 30 (0,0)) (by (with_reducible repeat (first|refine zG ?_ _|refine zM ?_|refine zH ?_ _));exact BK104.out)):gb104≠gb105));have n6_:=zy.mk ((by rw [hg];exact Nat.ne_of_gt (zea (g:=gb104) (o:= .cells #[.int .i64 a0_0,.int .i64 a0_1] 30 (0,0)) (by (with_reducible repeat (first|refine zG ?_ _|refine zM ?_|refine zH ?_ _));exact BK104.out)):gb105≠gb104));clear BK104;clear HB;have BK104:=n0_;have HB:=n1_;have BK105:=n2_;have GW105:=n3_;have GE105:=n4_;have NB104_105:=n5_;have NB105_104:=n6_;clear n0_ n1_ n2_ n3_ n4_ n5_ n6_;clear hb hbox hg;have hnb7:=NB104_105.out;have hnc7:=NB105_104.out;have hcz8_0:w6.cell? ⟨gb104,0,none⟩=some (.int .i64 a0_0):=(zaB BK104.out 0).trans rfl;have hcz8_1:w6.cell? ⟨gb104,1,none⟩=some (.int .i64 a0_1):=(zaB BK104.out 1).trans rfl;have hfz8_0:=zab BK104.out 0;have hfz8_1:=zab BK104.out 1;have hcz9_0:w6.cell? ⟨gb105,0,none⟩=some (.int .i64 a1_0):=(zaB BK105.out 0).trans rfl;have hcz9_1:w6.cell? ⟨gb105,1,none⟩=some (.int .i64 a1_1):=(zaB BK105.out 1).trans rfl;have hfz9_0:=zab BK105.out 0;have hfz9_1:=zab BK105.out 1))
   go_ret
   exact ⟨by first|rfl|(simp [zbf,zbe]<;>rfl)|(simp [*,zbf,zbe]<;>rfl),by repeat (first|(with_reducible first|exact HB.out|apply zm|apply zh|apply zo|refine zB ?_ GE104.out|refine zB ?_ GE105.out)|exact HB.out)⟩
  ·rw [if_neg c4] at H
   have c4b0:(a0_1==a1_1)=false:=beq_eq_false_iff_ne.mpr c4
   have c4b1:(a0_1 != a1_1)=true:=bne_iff_ne.mpr c4
   obtain rfl:=Option.some.inj H
   go_enter Tryz.func51,Tryz.ntmps51
   go_wp2_with (first|((with_reducible refine zc7 (N:=2) rfl ?_);refine zcl ?hg (N:=2) ?hd (cs:=#[.int .i64 a0_0,.int .i64 a0_1]) (t:=30) ?hr ?_;(case hd=>rfl);(case hg=>rfl);(case hr=>first|(go_simp;done)|(go_simp;rfl));intro gb104 hg w10 hbox hb;have n0_:=zy.mk (zaF (by repeat (first|(with_reducible first|exact HB.out|apply zm|apply zh|apply zo)|exact HB.out)) hb);have n1_:=zy.mk (hbox);have n2_:=zy.mk ((by rw [hg];exact (zam (by repeat (first|(with_reducible first|exact HB.out|apply zm|apply zh|apply zo)|exact HB.out))):w.heap.size<=gb104));have n3_:=zy.mk ((by rw [hg];exact (zam (by repeat (first|(with_reducible first|exact HB.out|apply zm|apply zh|apply zo)|exact HB.out))):w.heap.size<=gb104));clear HB;have HB:=n0_;have BK104:=n1_;have GW104:=n2_;have GE104:=n3_;clear n0_ n1_ n2_ n3_;clear hb hbox hg)|((with_reducible refine zc7 (N:=3) rfl ?_);refine zcl ?hg (N:=3) ?hd (cs:=#[.int .i64 a1_0,.int .i64 a1_1]) (t:=30) ?hr ?_;(case hd=>rfl);(case hg=>rfl);(case hr=>first|(go_simp;done)|(go_simp;rfl));intro gb105 hg w11 hbox hb;have n0_:=zy.mk (zaM (g:=gb104) (o:= .cells #[.int .i64 a0_0,.int .i64 a0_1] 30 (0,0)) (by (with_reducible repeat (first|refine zG ?_ _|refine zM ?_|refine zH ?_ _));exact BK104.out) hb);have n1_:=zy.mk (zaF (by repeat (first|(with_reducible first|exact HB.out|apply zm|apply zh|apply zo|refine zB ?_ GE104.out)|exact HB.out)) hb);have n2_:=zy.mk (hbox);have n3_:=zy.mk ((by rw [hg];exact (zam (by repeat (first|(with_reducible first|exact HB.out|apply zm|apply zh|apply zo|refine zB ?_ GE104.out)|exact HB.out))):w.heap.size<=gb105));have n4_:=zy.mk ((by rw [hg];exact (zam (by repeat (first|(with_reducible first|exact HB.out|apply zm|apply zh|apply zo|refine zB ?_ GE104.out)|exact HB.out))):w.heap.size<=gb105));have n5_:=zy.mk ((by rw [hg];exact Nat.ne_of_lt (zea (g:=gb104) (o:= .cells #[.int .i64 a0_0,.int .i64 a0_1] 30 (0,0)) (by (with_reducible repeat (first|refine zG ?_ _|refine zM ?_|refine zH ?_ _));exact BK104.out)):gb104≠gb105));have n6_:=zy.mk ((by rw [hg];exact Nat.ne_of_gt (zea (g:=gb104) (o:= .cells #[.int .i64 a0_0,.int .i64 a0_1] 30 (0,0)) (by (with_reducible repeat (first|refine zG ?_ _|refine zM ?_|refine zH ?_ _));exact BK104.out)):gb105≠gb104));clear BK104;clear HB;have BK104:=n0_;have HB:=n1_;have BK105:=n2_;have GW105:=n3_;have GE105:=n4_;have NB104_105:=n5_;have NB105_104:=n6_;clear n0_ n1_ n2_ n3_ n4_ n5_ n6_;clear hb hbox hg;have hnb12:=NB104_105.out;have hnc12:=NB105_104.out;have hcz13_0:w11.cell? ⟨gb104,0,none⟩=some (.int .i64 a0_0):=(zaB BK104.out 0).trans rfl;have hcz13_1:w11.cell? ⟨gb104,1,none⟩=some (.int .i64 a0_1):=(zaB BK104.out 1).trans rfl;have hfz13_0:=zab BK104.out 0;have hfz13_1:=zab BK104.out 1;have hcz14_0:w11.cell? ⟨gb105,0,none⟩=some (.int .i64 a1_0):=(zaB BK105.out 0).trans rfl;have hcz14_1:w11.cell? ⟨gb105,1,none⟩=some (.int .i64 a1_1):=(zaB BK105.out 1).trans rfl;have hfz14_0:=zab BK105.out 0;have hfz14_1:=zab BK105.out 1))
   go_ret
   exact ⟨by first|rfl|(simp [zbf,zbe]<;>rfl)|(simp [*,zbf,zbe]<;>rfl),by repeat (first|(with_reducible first|exact HB.out|apply zm|apply zh|apply zo|refine zB ?_ GE104.out|refine zB ?_ GE105.out)|exact HB.out)⟩
 ·rw [if_neg c3] at H
  have c3b0:(a0_0==a1_0)=false:=beq_eq_false_iff_ne.mpr c3
  have c3b1:(a0_0 != a1_0)=true:=bne_iff_ne.mpr c3
  obtain rfl:=Option.some.inj H
  go_enter Tryz.func51,Tryz.ntmps51
  go_wp2_with (first|((with_reducible refine zc7 (N:=2) rfl ?_);refine zcl ?hg (N:=2) ?hd (cs:=#[.int .i64 a0_0,.int .i64 a0_1]) (t:=30) ?hr ?_;(case hd=>rfl);(case hg=>rfl);(case hr=>first|(go_simp;done)|(go_simp;rfl));intro gb104 hg w15 hbox hb;have n0_:=zy.mk (zaF (by repeat (first|(with_reducible first|exact HB.out|apply zm|apply zh|apply zo)|exact HB.out)) hb);have n1_:=zy.mk (hbox);have n2_:=zy.mk ((by rw [hg];exact (zam (by repeat (first|(with_reducible first|exact HB.out|apply zm|apply zh|apply zo)|exact HB.out))):w.heap.size<=gb104));have n3_:=zy.mk ((by rw [hg];exact (zam (by repeat (first|(with_reducible first|exact HB.out|apply zm|apply zh|apply zo)|exact HB.out))):w.heap.size<=gb104));clear HB;have HB:=n0_;have BK104:=n1_;have GW104:=n2_;have GE104:=n3_;clear n0_ n1_ n2_ n3_;clear hb hbox hg)|((with_reducible refine zc7 (N:=3) rfl ?_);refine zcl ?hg (N:=3) ?hd (cs:=#[.int .i64 a1_0,.int .i64 a1_1]) (t:=30) ?hr ?_;(case hd=>rfl);(case hg=>rfl);(case hr=>first|(go_simp;done)|(go_simp;rfl));intro gb105 hg w16 hbox hb;have n0_:=zy.mk (zaM (g:=gb104) (o:= .cells #[.int .i64 a0_0,.int .i64 a0_1] 30 (0,0)) (by (with_reducible repeat (first|refine zG ?_ _|refine zM ?_|refine zH ?_ _));exact BK104.out) hb);have n1_:=zy.mk (zaF (by repeat (first|(with_reducible first|exact HB.out|apply zm|apply zh|apply zo|refine zB ?_ GE104.out)|exact HB.out)) hb);have n2_:=zy.mk (hbox);have n3_:=zy.mk ((by rw [hg];exact (zam (by repeat (first|(with_reducible first|exact HB.out|apply zm|apply zh|apply zo|refine zB ?_ GE104.out)|exact HB.out))):w.heap.size<=gb105));have n4_:=zy.mk ((by rw [hg];exact (zam (by repeat (first|(with_reducible first|exact HB.out|apply zm|apply zh|apply zo|refine zB ?_ GE104.out)|exact HB.out))):w.heap.size<=gb105));have n5_:=zy.mk ((by rw [hg];exact Nat.ne_of_lt (zea (g:=gb104) (o:= .cells #[.int .i64 a0_0,.int .i64 a0_1] 30 (0,0)) (by (with_reducible repeat (first|refine zG ?_ _|refine zM ?_|refine zH ?_ _));exact BK104.out)):gb104≠gb105));have n6_:=zy.mk ((by rw [hg];exact Nat.ne_of_gt (zea (g:=gb104) (o:= .cells #[.int .i64 a0_0,.int .i64 a0_1] 30 (0,0)) (by (with_reducible repeat (first|refine zG ?_ _|refine zM ?_|refine zH ?_ _));exact BK104.out)):gb105≠gb104));clear BK104;clear HB;have BK104:=n0_;have HB:=n1_;have BK105:=n2_;have GW105:=n3_;have GE105:=n4_;have NB104_105:=n5_;have NB105_104:=n6_;clear n0_ n1_ n2_ n3_ n4_ n5_ n6_;clear hb hbox hg;have hnb17:=NB104_105.out;have hnc17:=NB105_104.out;have hcz18_0:w16.cell? ⟨gb104,0,none⟩=some (.int .i64 a0_0):=(zaB BK104.out 0).trans rfl;have hcz18_1:w16.cell? ⟨gb104,1,none⟩=some (.int .i64 a0_1):=(zaB BK104.out 1).trans rfl;have hfz18_0:=zab BK104.out 0;have hfz18_1:=zab BK104.out 1;have hcz19_0:w16.cell? ⟨gb105,0,none⟩=some (.int .i64 a1_0):=(zaB BK105.out 0).trans rfl;have hcz19_1:w16.cell? ⟨gb105,1,none⟩=some (.int .i64 a1_1):=(zaB BK105.out 1).trans rfl;have hfz19_0:=zab BK105.out 0;have hfz19_1:=zab BK105.out 1))
  go_ret
  exact ⟨by first|rfl|(simp [zbf,zbe]<;>rfl)|(simp [*,zbf,zbe]<;>rfl),by repeat (first|(with_reducible first|exact HB.out|apply zm|apply zh|apply zo|refine zB ?_ GE104.out|refine zB ?_ GE105.out)|exact HB.out)⟩
def laws_szPointS.f (l0:List (S67)) (a1:Int):Option (Int):=if (wrap64 (a1-(l0.length:Int)))<0 then (some (-1)) else (some (wrap64 (a1-(l0.length:Int))))
set_option maxHeartbeats 8000000 in
set_option maxRecDepth 100000 in
theorem laws_szPointS.calls (A0:Option Addr) (c0:Nat) (l0:List (S67)) (a1:Int) (r:Int) (w:World) (hr0:Kd.C k67 w A0 l0.length l0) (hc0:l0.length<=c0) (h:laws_szPointS.f l0 a1=some r):
  Calls Tryz.prog 63 #[.slice A0 l0.length c0,.int .i64 a1] w fun e w'=>e= .returned (.int .i64 r)/\Drawn0 w w':=by
 have HR0:=zy.mk hr0
 have HC0:=zy.mk hc0
 clear hr0 hc0
 have H:(if (wrap64 (a1-(l0.length:Int)))<0 then (some (-1)) else (some (wrap64 (a1-(l0.length:Int)))))=some r:=h
 clear h
 by_cases c3:(wrap64 (a1-(l0.length:Int)))<0
 ·rw [if_pos c3] at H
  have c3b0:decide ((wrap64 (a1-(l0.length:Int)))<0)=true:=decide_eq_true c3
  clear c3
  obtain rfl:=Option.some.inj H
  go_enter Tryz.func63,Tryz.ntmps63
  go_wp2
  go_ret
  exact ⟨by first|rfl|(simp;done)|(simp [*];done),by repeat (first|exact Drawn0.refl _|apply Drawn0.step)⟩
 ·rw [if_neg c3] at H
  have c3b0:decide ((wrap64 (a1-(l0.length:Int)))<0)=false:=decide_eq_false c3
  clear c3
  obtain rfl:=Option.some.inj H
  go_enter Tryz.func63,Tryz.ntmps63
  go_wp2
  go_ret
  exact ⟨by first|rfl|(simp;done)|(simp [*];done),by repeat (first|exact Drawn0.refl _|apply Drawn0.step)⟩
def laws_toPoint.f (a0_0:Int) (a0_1:Int):Option (Int×Int):=some (a0_0,a0_1)
set_option maxHeartbeats 8000000 in
set_option maxRecDepth 100000 in
theorem laws_toPoint.calls (a0_0:Int) (a0_1:Int) (r1:Int) (r2:Int) (w:World) (h:laws_toPoint.f a0_0 a0_1=some (r1,r2)):
  Calls Tryz.prog 57 #[.agg #[.int .i64 a0_0,.int .i64 a0_1]] w fun e w'=>e= .returned (.agg #[.int .i64 r1,.int .i64 r2])/\Below w.heap.size w w':=by
 have hu67:=Tryz.underlying67
 have hu24:=Tryz.underlying24
 have HB:=zy.mk (Below.refl w.heap.size w)
 have H:(some (a0_0,a0_1))=some (r1,r2):=h
 clear h
 simp only [Option.some.injEq,Prod.mk.injEq] at H
 obtain ⟨rfl,rfl⟩:=H
 go_enter Tryz.func57,Tryz.ntmps57
 go_wp2_with (first|((with_reducible refine zc7 (N:=1) rfl ?_);refine zcl ?hg (N:=1) ?hd (cs:=#[.int .i64 a0_0,.int .i64 a0_1]) (t:=67) ?hr ?_;(case hd=>rfl);(case hg=>rfl);(case hr=>first|(go_simp;done)|(go_simp;rfl));intro gb106 hg w2 hbox hb;have n0_:=zy.mk (zaF (by repeat (first|(with_reducible first|exact HB.out|apply zm|apply zh|apply zo)|exact HB.out)) hb);have n1_:=zy.mk (hbox);have n2_:=zy.mk ((by rw [hg];exact (zam (by repeat (first|(with_reducible first|exact HB.out|apply zm|apply zh|apply zo)|exact HB.out))):w.heap.size<=gb106));have n3_:=zy.mk ((by rw [hg];exact (zam (by repeat (first|(with_reducible first|exact HB.out|apply zm|apply zh|apply zo)|exact HB.out))):w.heap.size<=gb106));clear HB;have HB:=n0_;have BK106:=n1_;have GW106:=n2_;have GE106:=n3_;clear n0_ n1_ n2_ n3_;clear hb hbox hg)|((with_reducible refine zc7 (N:=2) rfl ?_);refine zcl ?hg (N:=2) ?hd (cs:=#[.int .i64 0,.int .i64 0]) (t:=24) ?hr ?_;(case hd=>rfl);(case hg=>rfl);(case hr=>first|(go_simp;done)|(go_simp;rfl));intro gb107 hg w3 hbox hb;have n0_:=zy.mk (zaM (g:=gb106) (o:= .cells #[.int .i64 a0_0,.int .i64 a0_1] 67 (0,0)) (by (with_reducible repeat (first|refine zG ?_ _|refine zM ?_|refine zH ?_ _));exact BK106.out) hb);have n1_:=zy.mk (zaF (by repeat (first|(with_reducible first|exact HB.out|apply zm|apply zh|apply zo|refine zB ?_ GE106.out)|exact HB.out)) hb);have n2_:=zy.mk (hbox);have n3_:=zy.mk ((by rw [hg];exact (zam (by repeat (first|(with_reducible first|exact HB.out|apply zm|apply zh|apply zo|refine zB ?_ GE106.out)|exact HB.out))):w.heap.size<=gb107));have n4_:=zy.mk ((by rw [hg];exact (zam (by repeat (first|(with_reducible first|exact HB.out|apply zm|apply zh|apply zo|refine zB ?_ GE106.out)|exact HB.out))):w.heap.size<=gb107));have n5_:=zy.mk ((by rw [hg];exact Nat.ne_of_lt (zea (g:=gb106) (o:= .cells #[.int .i64 a0_0,.int .i64 a0_1] 67 (0,0)) (by (with_reducible repeat (first|refine zG ?_ _|refine zM ?_|refine zH ?_ _));exact BK106.out)):gb106≠gb107));have n6_:=zy.mk ((by rw [hg];exact Nat.ne_of_gt (zea (g:=gb106) (o:= .cells #[.int .i64 a0_0,.int .i64 a0_1] 67 (0,0)) (by (with_reducible repeat (first|refine zG ?_ _|refine zM ?_|refine zH ?_ _));exact BK106.out)):gb107≠gb106));clear BK106;clear HB;have BK106:=n0_;have HB:=n1_;have BK107:=n2_;have GW107:=n3_;have GE107:=n4_;have NB106_107:=n5_;have NB107_106:=n6_;clear n0_ n1_ n2_ n3_ n4_ n5_ n6_;clear hb hbox hg)|((with_reducible refine zc7 (N:=3) rfl ?_);refine zcl ?hg (N:=3) ?hd (cs:=#[.int .i64 0,.int .i64 0]) (t:=24) ?hr ?_;(case hd=>rfl);(case hg=>rfl);(case hr=>first|(go_simp;done)|(go_simp;rfl));intro gb108 hg w4 hbox hb;have n0_:=zy.mk (zaM (g:=gb106) (o:= .cells #[.int .i64 a0_0,.int .i64 a0_1] 67 (0,0)) (by (with_reducible repeat (first|refine zG ?_ _|refine zM ?_|refine zH ?_ _));exact BK106.out) hb);have n1_:=zy.mk (zaM (g:=gb107) (o:= .cells #[.int .i64 0,.int .i64 0] 24 (0,0)) (by (with_reducible repeat (first|refine zG ?_ _|refine zM ?_|refine zH ?_ _));exact BK107.out) hb);have n2_:=zy.mk (zaF (by repeat (first|(with_reducible first|exact HB.out|apply zm|apply zh|apply zo|refine zB ?_ GE106.out|refine zB ?_ GE107.out)|exact HB.out)) hb);have n3_:=zy.mk (hbox);have n4_:=zy.mk ((by rw [hg];exact (zam (by repeat (first|(with_reducible first|exact HB.out|apply zm|apply zh|apply zo|refine zB ?_ GE106.out|refine zB ?_ GE107.out)|exact HB.out))):w.heap.size<=gb108));have n5_:=zy.mk ((by rw [hg];exact (zam (by repeat (first|(with_reducible first|exact HB.out|apply zm|apply zh|apply zo|refine zB ?_ GE106.out|refine zB ?_ GE107.out)|exact HB.out))):w.heap.size<=gb108));have n6_:=zy.mk ((by rw [hg];exact Nat.ne_of_lt (zea (g:=gb106) (o:= .cells #[.int .i64 a0_0,.int .i64 a0_1] 67 (0,0)) (by (with_reducible repeat (first|refine zG ?_ _|refine zM ?_|refine zH ?_ _));exact BK106.out)):gb106≠gb108));have n7_:=zy.mk ((by rw [hg];exact Nat.ne_of_gt (zea (g:=gb106) (o:= .cells #[.int .i64 a0_0,.int .i64 a0_1] 67 (0,0)) (by (with_reducible repeat (first|refine zG ?_ _|refine zM ?_|refine zH ?_ _));exact BK106.out)):gb108≠gb106));have n8_:=zy.mk ((by rw [hg];exact Nat.ne_of_lt (zea (g:=gb107) (o:= .cells #[.int .i64 0,.int .i64 0] 24 (0,0)) (by (with_reducible repeat (first|refine zG ?_ _|refine zM ?_|refine zH ?_ _));exact BK107.out)):gb107≠gb108));have n9_:=zy.mk ((by rw [hg];exact Nat.ne_of_gt (zea (g:=gb107) (o:= .cells #[.int .i64 0,.int .i64 0] 24 (0,0)) (by (with_reducible repeat (first|refine zG ?_ _|refine zM ?_|refine zH ?_ _));exact BK107.out)):gb108≠gb107));clear BK106;clear BK107;clear HB;have BK106:=n0_;have BK107:=n1_;have HB:=n2_;have BK108:=n3_;have GW108:=n4_;have GE108:=n5_;have NB106_108:=n6_;have NB108_106:=n7_;have NB107_108:=n8_;have NB108_107:=n9_;clear n0_ n1_ n2_ n3_ n4_ n5_ n6_ n7_ n8_ n9_;clear hb hbox hg;have hnb5:=NB106_107.out;have hnc5:=NB107_106.out;have hnb6:=NB106_108.out;have hnc6:=NB108_106.out;have hcz7_0:w4.cell? ⟨gb106,0,none⟩=some (.int .i64 a0_0):=(zaB BK106.out 0).trans rfl;have hcz7_1:w4.cell? ⟨gb106,1,none⟩=some (.int .i64 a0_1):=(zaB BK106.out 1).trans rfl;have hfz7_0:=zab BK106.out 0;have hfz7_1:=zab BK106.out 1;have hnb8:=NB108_107.out;have hnc8:=NB107_108.out;have hcz9_0:w4.cell? ⟨gb108,0,none⟩=some (.int .i64 0):=(zaB BK108.out 0).trans rfl;have hcz9_1:w4.cell? ⟨gb108,1,none⟩=some (.int .i64 0):=(zaB BK108.out 1).trans rfl;have hfz9_0:=zab BK108.out 0;have hfz9_1:=zab BK108.out 1;have hcz10_0:w4.cell? ⟨gb107,0,none⟩=some (.int .i64 0):=(zaB BK107.out 0).trans rfl;have hcz10_1:w4.cell? ⟨gb107,1,none⟩=some (.int .i64 0):=(zaB BK107.out 1).trans rfl;have hfz10_0:=zab BK107.out 0;have hfz10_1:=zab BK107.out 1))
 refine bodyPost_ret (results_cell_row rfl _ _ gb107 24 #[.int .i64 a0_0,.int .i64 a0_1] (0,0) _ rfl (by (with_reducible repeat (first|refine zG ?_ _|refine zM ?_|refine zH ?_ _));refine blk_put (cs:=#[.int .i64 a0_0,.int .i64 0]) ?_ 1 _ rfl;(with_reducible repeat (first|refine zG ?_ _|refine zM ?_|refine zH ?_ _));refine blk_put (cs:=#[.int .i64 0,.int .i64 0]) ?_ 0 _ rfl;(with_reducible repeat (first|refine zG ?_ _|refine zM ?_|refine zH ?_ _));refine blk_far ?_ NB107_108.out _;(with_reducible repeat (first|refine zG ?_ _|refine zM ?_|refine zH ?_ _));refine blk_far ?_ NB107_108.out _;(with_reducible repeat (first|refine zG ?_ _|refine zM ?_|refine zH ?_ _));exact BK107.out) Tryz.underlying24 rfl (by kernel_rfl)) rfl ?_
 exact ⟨by first|rfl|(simp [zbf,zbe]<;>rfl)|(simp [*,zbf,zbe]<;>rfl),by repeat (first|(with_reducible first|exact HB.out|apply zm|apply zh|apply zo|refine zB ?_ GE106.out|refine zB ?_ GE107.out|refine zB ?_ GE108.out)|exact HB.out)⟩
def zV.l0:Nat->List (S67)->List (S24)->Int->Option ((List (S24)))
 | 0,_,_,_=>none
 | k+1,x0,x3,x4=>if x4<(x0.length:Int) then (if 0<=x4 then ((laws_toPoint.f ((rd_T67 x0 x4).f0) ((rd_T67 x0 x4).f1)).bind fun bt113=>(if x4<(x3.length:Int) then (zV.l0 k x0 (x3.set (x4:Int).toNat (⟨bt113.1,bt113.2⟩:S24)) (wrap64 (x4+1))) else (none))) else (none)) else (some x3)
def zV.f (k:Nat) (l0:List (S67)):Option ((List (S24))):=if 0<=(l0.length:Int) then (if ((l0.length:Int):Int).toNat<=17592186044416 then (zV.l0 k l0 (List.replicate ((l0.length:Int):Int).toNat z24) 0) else (none)) else (none)
theorem zV.mono_l:∀k,(∀y0 y1 y2,LeO (zV.l0 k y0 y1 y2) (zV.l0 (k+1) y0 y1 y2))
 | 0=>fun _ _ _ r h=>by simp [zV.l0] at h
 | k+1=>by
  have ih0:=zV.mono_l k
  ·intro y0 y1 y2
   unfold zV.l0
   repeat' first
   | (with_reducible exact ih0 _ _ _)
   | (with_reducible exact LeO.refl _)
   | (with_reducible exact LeO.none _)
   | (with_reducible refine LeO.ite ?_ ?_)
   | (with_reducible refine LeO.bind ?_ (fun _=>?_))
   | exact ih0 _ _ _
   | exact LeO.none _
   | refine LeO.ite ?_ ?_
   | refine LeO.bind ?_ (fun _=>?_)
theorem zV.mono:∀a0 k,LeO (zV.f k a0) (zV.f (k+1) a0):=by
 intro a0 k
 have ih0:=zV.mono_l k
 unfold zV.f
 repeat' first
   | (with_reducible exact ih0 _ _ _)
   | (with_reducible exact LeO.refl _)
   | (with_reducible exact LeO.none _)
   | (with_reducible refine LeO.ite ?_ ?_)
   | (with_reducible refine LeO.bind ?_ (fun _=>?_))
   | exact ih0 _ _ _
   | exact LeO.none _
   | refine LeO.ite ?_ ?_
   | refine LeO.bind ?_ (fun _=>?_)
set_option maxHeartbeats 8000000 in
set_option maxRecDepth 100000 in
theorem zV.calls (k:Nat) (A0:Option Addr) (c0:Nat) (l0:List (S67)) (r:List (S24)) (w:World) (hr0:Kd.C k67 w A0 l0.length l0) (hc0:l0.length<=c0) (h:zV.f k l0=some r):
  Calls Tryz.prog 65 #[.slice A0 l0.length c0] w fun e w'=>∃v0_:Value,e= .returned (v0_)/\Kd.R k24 24 w' w.heap.size (fun _=>True) v0_ r/\Below w.heap.size w w':=by
 have hu67:=Tryz.underlying67
 have hu24:=Tryz.underlying24
 have HR0:=zy.mk hr0
 have HC0:=zy.mk hc0
 clear hr0 hc0
 have HB:=zy.mk (Below.refl w.heap.size w)
 have H:(if 0<=(l0.length:Int) then (if ((l0.length:Int):Int).toNat<=17592186044416 then (zV.l0 k l0 (List.replicate ((l0.length:Int):Int).toNat z24) 0) else (none)) else (none))=some r:=h
 clear h
 by_cases c2:0<=(l0.length:Int)
 ·rw [if_pos c2] at H
  have c2b0:=eq_true c2
  have c2b1:decide (0<=(l0.length:Int))=true:=decide_eq_true c2
  clear c2
  by_cases c3:((l0.length:Int):Int).toNat<=17592186044416
  ·rw [if_pos c3] at H
   have c3b0:=eq_true c3
   have c3b1:decide (((l0.length:Int):Int).toNat<=17592186044416)=true:=decide_eq_true c3
   clear c3
   obtain ⟨y109,hy109⟩:∃y_:List (S24),y_=(List.replicate ((l0.length:Int):Int).toNat z24):=⟨_,rfl⟩
   replace H:(zV.l0 k l0 y109 0)=some r:=by first|(rw [hy109];with_reducible exact H)|(have H2_:=(Option.bind_some _ _).symm.trans H;rw [hy109];with_reducible exact H2_)|(have H2_:=(Option.bind_some _ _).symm.trans H;with_reducible exact H2_)|with_reducible exact H|(rw [hy109];exact H)|exact H
   have Ny109:=zy.mk hy109
   clear hy109
   have H':=zy.mk H
   clear H
   go_enter Tryz.func65,Tryz.ntmps65
   go_wp2_with (first|((with_reducible refine zc7 (N:=7) rfl ?_);refine Kd.R_make k24 _ 24 rfl (N:=7) rfl 101 _ _ rfl (l0.length:Int) rfl rfl Tryz.underlying101 (.agg #[(.int .i64 0),(.int .i64 0)]) 16 info24 rfl (by decide) (by omega) z24 (ok:=fun _=>True) (okp:=fun _=>True) (k24_mkM _ _ _ z24) (fun _ hk=>hk) trivial (of_decide_eq_true (by first|(with_reducible assumption)|assumption)) (Nat.le_trans (Nat.mul_le_mul_right _ (of_decide_eq_true (by first|(with_reducible assumption)|assumption):(l0.length:Int).toNat<=17592186044416)) (by omega)) (Below.refl _ _) (Nat.le_refl _) ?_;intro v110 w4 ho5 hb hg_ hnew_;clear hg_ hnew_;(first|rw [<- Ny109.out] at ho5|(simp only [Int.reduceToNat] at ho5;rw [<- Ny109.out] at ho5));have n0_:=zy.mk (Kd.R_lower ho5 (zam (by repeat (first|(with_reducible first|exact HB.out|apply zm|apply zh|apply zo)|exact HB.out))));have n1_:=zy.mk (zaF (by repeat (first|(with_reducible first|exact HB.out|apply zm|apply zh|apply zo)|exact HB.out)) hb);clear HB;have HO111:=n0_;have HB:=n1_;clear n0_ n1_;clear hb ho5))
   go_loopg [4] k (fun kq v4 w'=>∃(x3_1:List (S24)) (x4_1:Int),v4= .int .i64 x4_1/\zy (zV.l0 kq l0 x3_1 x4_1=some r)/\zy (kq<=k)/\zy (Kd.R k24 24 w' w.heap.size (fun _=>True) v110 x3_1)/\zy (Below w.heap.size w w'))
   case atStart=>exact ⟨(y109),(0),(by first|rfl|(simp;done)|(simp [*];done)),H',⟨Nat.le_refl _⟩,⟨by (with_reducible repeat (first|apply Kd.zdb|apply Kd.zda|apply Kd.ze6));exact HO111.out⟩,⟨by repeat (first|(with_reducible first|exact HB.out|apply zm|apply zh|apply zo)|exact HB.out)⟩⟩
   case round=>
    clear H'
    try clear c2
    try clear c2b0
    try clear c2b1
    try clear p2
    try clear c3
    try clear c3b0
    try clear c3b1
    obtain ⟨x3_1,x4_1,rfl,HA,HK1,HO_3,HB⟩:=hrel
    cases gk with
    | zero=>exact absurd HA.out (by simp [zV.l0])
    | succ k1=>
     have H:=HA.out
     clear HA
     simp only [zV.l0] at H
     by_cases c6:x4_1<(l0.length:Int)
     ·rw [if_pos c6] at H
      have c6b0:decide (x4_1<(l0.length:Int))=true:=decide_eq_true c6
      clear c6
      by_cases c7:0<=x4_1
      ·rw [if_pos c7] at H
       have c7b0:decide (0<=x4_1)=true:=decide_eq_true c7
       clear c7
       replace H:=Option.bind_eq_some_iff.mp H
       obtain ⟨⟨t113,t114⟩,A80,H⟩:=H
       replace H:(if x4_1<(x3_1.length:Int) then (zV.l0 k1 l0 (x3_1.set (x4_1:Int).toNat (⟨t113,t114⟩:S24)) (wrap64 (x4_1+1))) else (none))=some r:=H
       have A8:=zy.mk A80
       clear A80
       by_cases c9:x4_1<(x3_1.length:Int)
       ·rw [if_pos c9] at H
        have c9b0:decide (x4_1<(x3_1.length:Int))=true:=decide_eq_true c9
        clear c9
        obtain ⟨y115,hy115⟩:∃y_:List (S24),y_=(x3_1.set (x4_1:Int).toNat (⟨t113,t114⟩:S24)):=⟨_,rfl⟩
        replace H:(zV.l0 k1 l0 y115 (wrap64 (x4_1+1)))=some r:=by first|(rw [hy115];with_reducible exact H)|(have H2_:=(Option.bind_some _ _).symm.trans H;rw [hy115];with_reducible exact H2_)|(have H2_:=(Option.bind_some _ _).symm.trans H;with_reducible exact H2_)|with_reducible exact H|(rw [hy115];exact H)|exact H
        have Ny115:=zy.mk hy115
        clear hy115
        have H':=zy.mk H
        clear H
        have p112:0<=(x4_1:Int):=of_decide_eq_true (by first|(with_reducible assumption)|assumption)
        have q112:x4_1<(l0.length:Int):=of_decide_eq_true (by first|(with_reducible assumption)|assumption)
        obtain ⟨ad112,e112,hx112_0,hx112_1⟩:=at_T67 HR0.out x4_1 p112 q112
        cases e112
        replace hx112_0:=(HB.out.cell (World.block_lt_of_cell? w _ hx112_0)).trans hx112_0
        replace hx112_1:=(HB.out.cell (World.block_lt_of_cell? w _ hx112_1)).trans hx112_1
        replace p112:=eq_true p112
        replace q112:=eq_true q112
        go_wp2_with (first|((with_reducible refine zcE (f:=57) rfl ?_);refine goesL_ (some 20) rfl rfl Tryz.func57 (by kernel_rfl) rfl #[.agg #[.int .i64 ((rd_T67 l0 x4_1).f0),.int .i64 ((rd_T67 l0 x4_1).f1)]] rfl (by (try simp only [List.map_toArray,List.map_cons,List.map_nil]);first|done|rfl|(simp only [List.length_drop,List.length_take];rfl)) ?_;(with_reducible refine (laws_toPoint.calls ((rd_T67 l0 x4_1).f0) ((rd_T67 l0 x4_1).f1) t113 t114 _ A8.out).mono ?_);rintro e w11 ⟨rfl,hb⟩;refine ⟨_,rfl,?_⟩;have n0_:=zy.mk (Kd.zfM (by (with_reducible repeat (first|apply Kd.zdb|apply Kd.zda|apply Kd.ze6));exact HO_3.out) hb);have n1_:=zy.mk (zaF (by repeat (first|(with_reducible first|exact HB.out|apply zm|apply zh|apply zo)|exact HB.out)) hb);clear HO_3;clear HB;have HO_3:=n0_;have HB:=n1_;clear n0_ n1_;(try clear hb);(try clear hb2);(try clear hk);(try clear hi);have p10:0<=(x4_1:Int):=of_decide_eq_true (by first|(with_reducible assumption)|assumption);have q10:(x4_1:Int)<((x3_1.length:Int):Int):=of_decide_eq_true (by first|(with_reducible assumption)|assumption);obtain ⟨go10,co10,eo10,gb10,gl10,cl10,HG10⟩:=Kd.R_form HO_3.out (by omega);(first|cases eo10|(injection eo10 with ea_ en_ ec_;(first|subst ea_|(injection ea_ with ea_;subst ea_));subst ec_;clear en_));have GB10:=zy.mk gb10;have GG10:=zy.mk HG10;clear gb10 gl10 HG10;obtain ⟨ce10,hcl10,hM10,hcc10,hfr10⟩:=Kd.R_elem HO_3.out z24 (x4_1:Int) p10 q10;obtain rfl:=k24_openM hM10;have hx10_0:w11.cell? ⟨go10,(x4_1:Int).toNat*2,none⟩=some (.int .i64 ((zdx x3_1 x4_1).f0)):=hcc10 0 _ rfl;have hx10_1:w11.cell? ⟨go10,(x4_1:Int).toNat*2+1,none⟩=some (.int .i64 ((zdx x3_1 x4_1).f1)):=hcc10 1 _ rfl;have hf10_0:w11.frozen? ⟨go10,(x4_1:Int).toNat*2,none⟩=false:=hfr10 0;have hf10_1:w11.frozen? ⟨go10,(x4_1:Int).toNat*2+1,none⟩=false:=hfr10 1;clear hcl10 hcc10 hfr10 hM10;replace p10:=eq_true p10;replace q10:=eq_true q10;have HX12:=zy.mk (show Kd.R k24 24 w11 w.heap.size (fun _=>True) (.slice (some ⟨go10,0,none⟩) x3_1.length co10) x3_1 from (by (with_reducible repeat (first|apply Kd.zdb|apply Kd.zda|apply Kd.ze6));exact HO_3.out));obtain ⟨ce12,hcl12,hM12,hcc12,hfr12⟩:=Kd.R_elem HX12.out z24 (x4_1:Int) (of_decide_eq_true (by first|(with_reducible assumption)|assumption)) (by have h_:(x4_1:Int)<((x3_1.length:Int):Int):=of_decide_eq_true (by first|(with_reducible assumption)|assumption);first|exact h_|(have e_:=(Kd.zfx HO_3.out).1;omega)|simpa using h_);obtain rfl:=k24_openM hM12;have HP12:=Kd.R_seg HX12.out (x4_1:Int) (of_decide_eq_true (by first|(with_reducible assumption)|assumption)) (by have h_:(x4_1:Int)<((x3_1.length:Int):Int):=of_decide_eq_true (by first|(with_reducible assumption)|assumption);first|exact h_|(have e_:=(Kd.zfx HO_3.out).1;omega)|simpa using h_) (seg:= [.int .i64 t113,.int .i64 t114]) (j:=0) hcl12 hcc12 (show 2<=2 from by decide) (x':=(⟨t113,t114⟩:S24)) (k24_mkM _ _ _ (⟨t113,t114⟩:S24)) (fun _ hk=>hk);have hx12_0:=hcc12 0 _ rfl;(try simp only [show (k24).sz=2 from rfl,Nat.mul_one,Nat.add_zero] at hx12_0);have hf12_0:=hfr12 0;(try simp only [show (k24).sz=2 from rfl,Nat.mul_one,Nat.add_zero] at hf12_0);have hx12_1:=hcc12 1 _ rfl;(try simp only [show (k24).sz=2 from rfl,Nat.mul_one,Nat.add_zero] at hx12_1);have hf12_1:=hfr12 1;(try simp only [show (k24).sz=2 from rfl,Nat.mul_one,Nat.add_zero] at hf12_1);clear hcl12 hcc12 hfr12 hM12)|((with_reducible refine gate_store (t:=24) (p:=21) rfl ?_);refine store_event (t:=24) (p:=21) (v:=?vo_w13) (w1:=((w11.setCell ⟨go10,(x4_1:Int).toNat*2,none⟩ (.int .i64 t113)).setCell ⟨go10,(x4_1:Int).toNat*2+1,none⟩ (.int .i64 t114))) ?hg ?ho ?hn ?hr ?_;(case ho=>rfl);(case hg=>rfl);(case hn=>rfl);(case hr=>first|(go_simp;done)|(go_simp;rfl));intro w13 hw;have hg:w11.grownBy w13 (some go10):=(by rw [hw];exact HP12.2);have hp_:Kd.R k24 24 w13 w.heap.size (fun _=>True) (.slice (some ⟨go10,0,none⟩) x3_1.length co10) y115:=(by rw [hw,Ny115.out];exact HP12.1);clear HP12;have n0_:=zy.mk (hp_);have n1_:=zy.mk ((by rw [hw];exact zB (zB (HB.out) GB10.out) GB10.out:Below w.heap.size w w13));clear HO_3;clear HB;have HO_3:=n0_;have HB:=n1_;clear n0_ n1_;clear hg hw hp_))
        go_roundg k1
        case measure=>have:=HK1.out;omega
        case rel=>exact ⟨(y115),(wrap64 (x4_1+1)),(by first|rfl|(simp;done)|(simp [*];done)),H',⟨by have:=HK1.out;omega⟩,⟨by (with_reducible repeat (first|apply Kd.zdb|apply Kd.zda|apply Kd.ze6));exact HO_3.out⟩,⟨by repeat (first|(with_reducible first|exact HB.out|apply zm|apply zh|apply zo)|exact HB.out)⟩⟩
       ·rw [if_neg c9] at H
        exact absurd H (by simp)
      ·rw [if_neg c7] at H
       exact absurd H (by simp)
     ·rw [if_neg c6] at H
      have c6b0:decide (x4_1<(l0.length:Int))=false:=decide_eq_false c6
      clear c6
      obtain rfl:=Option.some.inj H
      go_wp2
      go_ret
      exact ⟨_,by first|rfl|(simp [zbf,zbe]<;>rfl)|(simp [*,zbf,zbe]<;>rfl),by (with_reducible repeat (first|apply Kd.zdb|apply Kd.zda|apply Kd.ze6));exact HO_3.out,by repeat (first|(with_reducible first|exact HB.out|apply zm|apply zh|apply zo)|exact HB.out)⟩
  ·rw [if_neg c3] at H
   exact absurd H (by simp)
 ·rw [if_neg c2] at H
  exact absurd H (by simp)
def laws_eqPoint.f (a0_0:Int) (a0_1:Int) (a1_0:Int) (a1_1:Int):Option (Bool):=if a0_0=a1_0 then (if a0_1=a1_1 then (some true) else (some false)) else (some false)
set_option maxHeartbeats 8000000 in
set_option maxRecDepth 100000 in
theorem laws_eqPoint.calls (a0_0:Int) (a0_1:Int) (a1_0:Int) (a1_1:Int) (r:Bool) (w:World) (h:laws_eqPoint.f a0_0 a0_1 a1_0 a1_1=some r):
  Calls Tryz.prog 182 #[.agg #[.int .i64 a0_0,.int .i64 a0_1],.agg #[.int .i64 a1_0,.int .i64 a1_1]] w fun e w'=>e= .returned (.bool r)/\Below w.heap.size w w':=by
 have hu24:=Tryz.underlying24
 have HB:=zy.mk (Below.refl w.heap.size w)
 have H:(if a0_0=a1_0 then (if a0_1=a1_1 then (some true) else (some false)) else (some false))=some r:=h
 clear h
 by_cases c3:a0_0=a1_0
 ·rw [if_pos c3] at H
  have c3b0:(a0_0==a1_0)=true:=beq_iff_eq.mpr c3
  have c3b1:(a0_0 != a1_0)=false:=bne_eq_false_iff_eq.mpr c3
  clear c3
  by_cases c4:a0_1=a1_1
  ·rw [if_pos c4] at H
   have c4b0:(a0_1==a1_1)=true:=beq_iff_eq.mpr c4
   have c4b1:(a0_1 != a1_1)=false:=bne_eq_false_iff_eq.mpr c4
   clear c4
   obtain rfl:=Option.some.inj H
   go_enter Tryz.func182,Tryz.ntmps182
   go_wp2_with (first|((with_reducible refine zc7 (N:=2) rfl ?_);refine zcl ?hg (N:=2) ?hd (cs:=#[.int .i64 a0_0,.int .i64 a0_1]) (t:=24) ?hr ?_;(case hd=>rfl);(case hg=>rfl);(case hr=>first|(go_simp;done)|(go_simp;rfl));intro gb116 hg w5 hbox hb;have n0_:=zy.mk (zaF (by repeat (first|(with_reducible first|exact HB.out|apply zm|apply zh|apply zo)|exact HB.out)) hb);have n1_:=zy.mk (hbox);have n2_:=zy.mk ((by rw [hg];exact (zam (by repeat (first|(with_reducible first|exact HB.out|apply zm|apply zh|apply zo)|exact HB.out))):w.heap.size<=gb116));have n3_:=zy.mk ((by rw [hg];exact (zam (by repeat (first|(with_reducible first|exact HB.out|apply zm|apply zh|apply zo)|exact HB.out))):w.heap.size<=gb116));clear HB;have HB:=n0_;have BK116:=n1_;have GW116:=n2_;have GE116:=n3_;clear n0_ n1_ n2_ n3_;clear hb hbox hg)|((with_reducible refine zc7 (N:=3) rfl ?_);refine zcl ?hg (N:=3) ?hd (cs:=#[.int .i64 a1_0,.int .i64 a1_1]) (t:=24) ?hr ?_;(case hd=>rfl);(case hg=>rfl);(case hr=>first|(go_simp;done)|(go_simp;rfl));intro gb117 hg w6 hbox hb;have n0_:=zy.mk (zaM (g:=gb116) (o:= .cells #[.int .i64 a0_0,.int .i64 a0_1] 24 (0,0)) (by (with_reducible repeat (first|refine zG ?_ _|refine zM ?_|refine zH ?_ _));exact BK116.out) hb);have n1_:=zy.mk (zaF (by repeat (first|(with_reducible first|exact HB.out|apply zm|apply zh|apply zo|refine zB ?_ GE116.out)|exact HB.out)) hb);have n2_:=zy.mk (hbox);have n3_:=zy.mk ((by rw [hg];exact (zam (by repeat (first|(with_reducible first|exact HB.out|apply zm|apply zh|apply zo|refine zB ?_ GE116.out)|exact HB.out))):w.heap.size<=gb117));have n4_:=zy.mk ((by rw [hg];exact (zam (by repeat (first|(with_reducible first|exact HB.out|apply zm|apply zh|apply zo|refine zB ?_ GE116.out)|exact HB.out))):w.heap.size<=gb117));have n5_:=zy.mk ((by rw [hg];exact Nat.ne_of_lt (zea (g:=gb116) (o:= .cells #[.int .i64 a0_0,.int .i64 a0_1] 24 (0,0)) (by (with_reducible repeat (first|refine zG ?_ _|refine zM ?_|refine zH ?_ _));exact BK116.out)):gb116≠gb117));have n6_:=zy.mk ((by rw [hg];exact Nat.ne_of_gt (zea (g:=gb116) (o:= .cells #[.int .i64 a0_0,.int .i64 a0_1] 24 (0,0)) (by (with_reducible repeat (first|refine zG ?_ _|refine zM ?_|refine zH ?_ _));exact BK116.out)):gb117≠gb116));clear BK116;clear HB;have BK116:=n0_;have HB:=n1_;have BK117:=n2_;have GW117:=n3_;have GE117:=n4_;have NB116_117:=n5_;have NB117_116:=n6_;clear n0_ n1_ n2_ n3_ n4_ n5_ n6_;clear hb hbox hg;have hnb7:=NB116_117.out;have hnc7:=NB117_116.out;have hcz8_0:w6.cell? ⟨gb116,0,none⟩=some (.int .i64 a0_0):=(zaB BK116.out 0).trans rfl;have hcz8_1:w6.cell? ⟨gb116,1,none⟩=some (.int .i64 a0_1):=(zaB BK116.out 1).trans rfl;have hfz8_0:=zab BK116.out 0;have hfz8_1:=zab BK116.out 1;have hcz9_0:w6.cell? ⟨gb117,0,none⟩=some (.int .i64 a1_0):=(zaB BK117.out 0).trans rfl;have hcz9_1:w6.cell? ⟨gb117,1,none⟩=some (.int .i64 a1_1):=(zaB BK117.out 1).trans rfl;have hfz9_0:=zab BK117.out 0;have hfz9_1:=zab BK117.out 1))
   go_ret
   exact ⟨by first|rfl|(simp [zbf,zbe]<;>rfl)|(simp [*,zbf,zbe]<;>rfl),by repeat (first|(with_reducible first|exact HB.out|apply zm|apply zh|apply zo|refine zB ?_ GE116.out|refine zB ?_ GE117.out)|exact HB.out)⟩
  ·rw [if_neg c4] at H
   have c4b0:(a0_1==a1_1)=false:=beq_eq_false_iff_ne.mpr c4
   have c4b1:(a0_1 != a1_1)=true:=bne_iff_ne.mpr c4
   obtain rfl:=Option.some.inj H
   go_enter Tryz.func182,Tryz.ntmps182
   go_wp2_with (first|((with_reducible refine zc7 (N:=2) rfl ?_);refine zcl ?hg (N:=2) ?hd (cs:=#[.int .i64 a0_0,.int .i64 a0_1]) (t:=24) ?hr ?_;(case hd=>rfl);(case hg=>rfl);(case hr=>first|(go_simp;done)|(go_simp;rfl));intro gb116 hg w10 hbox hb;have n0_:=zy.mk (zaF (by repeat (first|(with_reducible first|exact HB.out|apply zm|apply zh|apply zo)|exact HB.out)) hb);have n1_:=zy.mk (hbox);have n2_:=zy.mk ((by rw [hg];exact (zam (by repeat (first|(with_reducible first|exact HB.out|apply zm|apply zh|apply zo)|exact HB.out))):w.heap.size<=gb116));have n3_:=zy.mk ((by rw [hg];exact (zam (by repeat (first|(with_reducible first|exact HB.out|apply zm|apply zh|apply zo)|exact HB.out))):w.heap.size<=gb116));clear HB;have HB:=n0_;have BK116:=n1_;have GW116:=n2_;have GE116:=n3_;clear n0_ n1_ n2_ n3_;clear hb hbox hg)|((with_reducible refine zc7 (N:=3) rfl ?_);refine zcl ?hg (N:=3) ?hd (cs:=#[.int .i64 a1_0,.int .i64 a1_1]) (t:=24) ?hr ?_;(case hd=>rfl);(case hg=>rfl);(case hr=>first|(go_simp;done)|(go_simp;rfl));intro gb117 hg w11 hbox hb;have n0_:=zy.mk (zaM (g:=gb116) (o:= .cells #[.int .i64 a0_0,.int .i64 a0_1] 24 (0,0)) (by (with_reducible repeat (first|refine zG ?_ _|refine zM ?_|refine zH ?_ _));exact BK116.out) hb);have n1_:=zy.mk (zaF (by repeat (first|(with_reducible first|exact HB.out|apply zm|apply zh|apply zo|refine zB ?_ GE116.out)|exact HB.out)) hb);have n2_:=zy.mk (hbox);have n3_:=zy.mk ((by rw [hg];exact (zam (by repeat (first|(with_reducible first|exact HB.out|apply zm|apply zh|apply zo|refine zB ?_ GE116.out)|exact HB.out))):w.heap.size<=gb117));have n4_:=zy.mk ((by rw [hg];exact (zam (by repeat (first|(with_reducible first|exact HB.out|apply zm|apply zh|apply zo|refine zB ?_ GE116.out)|exact HB.out))):w.heap.size<=gb117));have n5_:=zy.mk ((by rw [hg];exact Nat.ne_of_lt (zea (g:=gb116) (o:= .cells #[.int .i64 a0_0,.int .i64 a0_1] 24 (0,0)) (by (with_reducible repeat (first|refine zG ?_ _|refine zM ?_|refine zH ?_ _));exact BK116.out)):gb116≠gb117));have n6_:=zy.mk ((by rw [hg];exact Nat.ne_of_gt (zea (g:=gb116) (o:= .cells #[.int .i64 a0_0,.int .i64 a0_1] 24 (0,0)) (by (with_reducible repeat (first|refine zG ?_ _|refine zM ?_|refine zH ?_ _));exact BK116.out)):gb117≠gb116));clear BK116;clear HB;have BK116:=n0_;have HB:=n1_;have BK117:=n2_;have GW117:=n3_;have GE117:=n4_;have NB116_117:=n5_;have NB117_116:=n6_;clear n0_ n1_ n2_ n3_ n4_ n5_ n6_;clear hb hbox hg;have hnb12:=NB116_117.out;have hnc12:=NB117_116.out;have hcz13_0:w11.cell? ⟨gb116,0,none⟩=some (.int .i64 a0_0):=(zaB BK116.out 0).trans rfl;have hcz13_1:w11.cell? ⟨gb116,1,none⟩=some (.int .i64 a0_1):=(zaB BK116.out 1).trans rfl;have hfz13_0:=zab BK116.out 0;have hfz13_1:=zab BK116.out 1;have hcz14_0:w11.cell? ⟨gb117,0,none⟩=some (.int .i64 a1_0):=(zaB BK117.out 0).trans rfl;have hcz14_1:w11.cell? ⟨gb117,1,none⟩=some (.int .i64 a1_1):=(zaB BK117.out 1).trans rfl;have hfz14_0:=zab BK117.out 0;have hfz14_1:=zab BK117.out 1))
   go_ret
   exact ⟨by first|rfl|(simp [zbf,zbe]<;>rfl)|(simp [*,zbf,zbe]<;>rfl),by repeat (first|(with_reducible first|exact HB.out|apply zm|apply zh|apply zo|refine zB ?_ GE116.out|refine zB ?_ GE117.out)|exact HB.out)⟩
 ·rw [if_neg c3] at H
  have c3b0:(a0_0==a1_0)=false:=beq_eq_false_iff_ne.mpr c3
  have c3b1:(a0_0 != a1_0)=true:=bne_iff_ne.mpr c3
  obtain rfl:=Option.some.inj H
  go_enter Tryz.func182,Tryz.ntmps182
  go_wp2_with (first|((with_reducible refine zc7 (N:=2) rfl ?_);refine zcl ?hg (N:=2) ?hd (cs:=#[.int .i64 a0_0,.int .i64 a0_1]) (t:=24) ?hr ?_;(case hd=>rfl);(case hg=>rfl);(case hr=>first|(go_simp;done)|(go_simp;rfl));intro gb116 hg w15 hbox hb;have n0_:=zy.mk (zaF (by repeat (first|(with_reducible first|exact HB.out|apply zm|apply zh|apply zo)|exact HB.out)) hb);have n1_:=zy.mk (hbox);have n2_:=zy.mk ((by rw [hg];exact (zam (by repeat (first|(with_reducible first|exact HB.out|apply zm|apply zh|apply zo)|exact HB.out))):w.heap.size<=gb116));have n3_:=zy.mk ((by rw [hg];exact (zam (by repeat (first|(with_reducible first|exact HB.out|apply zm|apply zh|apply zo)|exact HB.out))):w.heap.size<=gb116));clear HB;have HB:=n0_;have BK116:=n1_;have GW116:=n2_;have GE116:=n3_;clear n0_ n1_ n2_ n3_;clear hb hbox hg)|((with_reducible refine zc7 (N:=3) rfl ?_);refine zcl ?hg (N:=3) ?hd (cs:=#[.int .i64 a1_0,.int .i64 a1_1]) (t:=24) ?hr ?_;(case hd=>rfl);(case hg=>rfl);(case hr=>first|(go_simp;done)|(go_simp;rfl));intro gb117 hg w16 hbox hb;have n0_:=zy.mk (zaM (g:=gb116) (o:= .cells #[.int .i64 a0_0,.int .i64 a0_1] 24 (0,0)) (by (with_reducible repeat (first|refine zG ?_ _|refine zM ?_|refine zH ?_ _));exact BK116.out) hb);have n1_:=zy.mk (zaF (by repeat (first|(with_reducible first|exact HB.out|apply zm|apply zh|apply zo|refine zB ?_ GE116.out)|exact HB.out)) hb);have n2_:=zy.mk (hbox);have n3_:=zy.mk ((by rw [hg];exact (zam (by repeat (first|(with_reducible first|exact HB.out|apply zm|apply zh|apply zo|refine zB ?_ GE116.out)|exact HB.out))):w.heap.size<=gb117));have n4_:=zy.mk ((by rw [hg];exact (zam (by repeat (first|(with_reducible first|exact HB.out|apply zm|apply zh|apply zo|refine zB ?_ GE116.out)|exact HB.out))):w.heap.size<=gb117));have n5_:=zy.mk ((by rw [hg];exact Nat.ne_of_lt (zea (g:=gb116) (o:= .cells #[.int .i64 a0_0,.int .i64 a0_1] 24 (0,0)) (by (with_reducible repeat (first|refine zG ?_ _|refine zM ?_|refine zH ?_ _));exact BK116.out)):gb116≠gb117));have n6_:=zy.mk ((by rw [hg];exact Nat.ne_of_gt (zea (g:=gb116) (o:= .cells #[.int .i64 a0_0,.int .i64 a0_1] 24 (0,0)) (by (with_reducible repeat (first|refine zG ?_ _|refine zM ?_|refine zH ?_ _));exact BK116.out)):gb117≠gb116));clear BK116;clear HB;have BK116:=n0_;have HB:=n1_;have BK117:=n2_;have GW117:=n3_;have GE117:=n4_;have NB116_117:=n5_;have NB117_116:=n6_;clear n0_ n1_ n2_ n3_ n4_ n5_ n6_;clear hb hbox hg;have hnb17:=NB116_117.out;have hnc17:=NB117_116.out;have hcz18_0:w16.cell? ⟨gb116,0,none⟩=some (.int .i64 a0_0):=(zaB BK116.out 0).trans rfl;have hcz18_1:w16.cell? ⟨gb116,1,none⟩=some (.int .i64 a0_1):=(zaB BK116.out 1).trans rfl;have hfz18_0:=zab BK116.out 0;have hfz18_1:=zab BK116.out 1;have hcz19_0:w16.cell? ⟨gb117,0,none⟩=some (.int .i64 a1_0):=(zaB BK117.out 0).trans rfl;have hcz19_1:w16.cell? ⟨gb117,1,none⟩=some (.int .i64 a1_1):=(zaB BK117.out 1).trans rfl;have hfz19_0:=zab BK117.out 0;have hfz19_1:=zab BK117.out 1))
  go_ret
  exact ⟨by first|rfl|(simp [zbf,zbe]<;>rfl)|(simp [*,zbf,zbe]<;>rfl),by repeat (first|(with_reducible first|exact HB.out|apply zm|apply zh|apply zo|refine zB ?_ GE116.out|refine zB ?_ GE117.out)|exact HB.out)⟩
def zat.l0:Nat->List (S24)->List (S24)->Int->Option (Bool)
 | 0,_,_,_=>none
 | k+1,x0,x1,x5=>if x5<(x0.length:Int) then (if 0<=x5 then (if x5<(x1.length:Int) then ((laws_eqPoint.f ((zdx x0 x5).f0) ((zdx x0 x5).f1) ((zdx x1 x5).f0) ((zdx x1 x5).f1)).bind fun t120=>(if t120=true then (zat.l0 k x0 x1 (wrap64 (x5+1))) else (some false))) else (none)) else (none)) else (some true)
def zat.f (k:Nat) (l0:List (S24)) (l1:List (S24)):Option (Bool):=if (l0.length:Int)=(l1.length:Int) then (zat.l0 k l0 l1 0) else (some false)
def zat.T6:Bool×List (List Nat×List Nat):=(true,[([],[]),([],[]),([0,1],[0,1]),([2],[2]),([],[]),([],[]),([4,5],[4,5]),([6],[6]),([3,7],[3,7]),([8],[8])])
def zat.B6:List Nat:= [0,0,3,7,0,0,48,112,255,511]
theorem zat.tab6:rtab .any (opsOf Tryz.f67 6)=zat.T6:=by kernel_rfl
theorem zat.bits6:waitsOk zat.T6.2 zat.B6=true:=by kernel_rfl
set_option maxHeartbeats 8000000 in
set_option maxRecDepth 100000 in
theorem zat.calls (k:Nat) (A0:Option Addr) (c0:Nat) (l0:List (S24)) (A1:Option Addr) (c1:Nat) (l1:List (S24)) (r:Bool) (w:World) (hr0:Kd.C k24 w A0 l0.length l0) (hc0:l0.length<=c0) (hr1:Kd.C k24 w A1 l1.length l1) (hc1:l1.length<=c1) (h:zat.f k l0 l1=some r):
  Calls Tryz.prog 67 #[.slice A0 l0.length c0,.slice A1 l1.length c1] w fun e w'=>e= .returned (.bool r)/\Below w.heap.size w w':=by
 have hu24:=Tryz.underlying24
 have HR0:=zy.mk hr0
 have HC0:=zy.mk hc0
 clear hr0 hc0
 have HR1:=zy.mk hr1
 have HC1:=zy.mk hc1
 clear hr1 hc1
 have HB:=zy.mk (Below.refl w.heap.size w)
 have H:(if (l0.length:Int)=(l1.length:Int) then (zat.l0 k l0 l1 0) else (some false))=some r:=h
 clear h
 by_cases c3:(l0.length:Int)=(l1.length:Int)
 ·rw [if_pos c3] at H
  have c3b0:((l0.length:Int)==(l1.length:Int))=true:=beq_iff_eq.mpr c3
  have c3b1:((l0.length:Int) != (l1.length:Int))=false:=bne_eq_false_iff_eq.mpr c3
  have c3b2:(l0.length==l1.length)=true:=by first|simpa using c3|(simp at c3 ⊢;omega)
  clear c3
  have H':=zy.mk H
  clear H
  go_enter Tryz.func67,Tryz.ntmps67
  go_wp2
  go_loopg [5] k (fun kq v5 w'=>∃(x5_1:Int),v5= .int .i64 x5_1/\zy (zat.l0 kq l0 l1 x5_1=some r)/\zy (kq<=k)/\zy (Below w.heap.size w w'))
  case atStart=>exact ⟨(0),(by first|rfl|(simp;done)|(simp [*];done)),H',⟨Nat.le_refl _⟩,⟨by repeat (first|(with_reducible first|exact HB.out|apply zm|apply zh|apply zo)|exact HB.out)⟩⟩
  case round=>
   clear H'
   try clear c1
   try clear p2
   try clear c3
   try clear c3b0
   try clear c3b1
   try clear c3b2
   obtain ⟨x5_1,rfl,HA,HK1,HB⟩:=hrel
   cases gk with
   | zero=>exact absurd HA.out (by simp [zat.l0])
   | succ k1=>
    have H:=HA.out
    clear HA
    simp only [zat.l0] at H
    by_cases c4:x5_1<(l0.length:Int)
    ·rw [if_pos c4] at H
     have c4b0:decide (x5_1<(l0.length:Int))=true:=decide_eq_true c4
     clear c4
     by_cases c5:0<=x5_1
     ·rw [if_pos c5] at H
      have c5b0:decide (0<=x5_1)=true:=decide_eq_true c5
      clear c5
      by_cases c6:x5_1<(l1.length:Int)
      ·rw [if_pos c6] at H
       have c6b0:decide (x5_1<(l1.length:Int))=true:=decide_eq_true c6
       clear c6
       replace H:=Option.bind_eq_some_iff.mp H
       obtain ⟨t120,A70,H⟩:=H
       replace H:(if t120=true then (zat.l0 k1 l0 l1 (wrap64 (x5_1+1))) else (some false))=some r:=H
       have A7:=zy.mk A70
       clear A70
       by_cases c8:t120=true
       ·subst c8
        have H1:(zat.l0 k1 l0 l1 (wrap64 (x5_1+1)))=some r:=by rw [if_pos rfl] at H;exact H
        clear H
        have H:=H1
        clear H1
        have H':=zy.mk H
        clear H
        try go_wp2
        have n0_:=zy.mk (zo HB.out)
        clear HB
        have HB:=n0_
        clear n0_
        have p118:0<=(x5_1:Int):=of_decide_eq_true (by first|(with_reducible assumption)|assumption)
        have q118:x5_1<(l0.length:Int):=of_decide_eq_true (by first|(with_reducible assumption)|assumption)
        obtain ⟨ad118,e118,hx118_0,hx118_1⟩:=at_T24 HR0.out x5_1 p118 q118
        have hw118_1:=hx118_1
        have hw118_0:=hx118_0
        cases e118
        replace hx118_0:=(HB.out.cell (World.block_lt_of_cell? w _ hx118_0)).trans hx118_0
        replace hx118_1:=(HB.out.cell (World.block_lt_of_cell? w _ hx118_1)).trans hx118_1
        replace p118:=eq_true p118
        replace q118:=eq_true q118
        have p119:0<=(x5_1:Int):=of_decide_eq_true (by first|(with_reducible assumption)|assumption)
        have q119:x5_1<(l1.length:Int):=of_decide_eq_true (by first|(with_reducible assumption)|assumption)
        obtain ⟨ad119,e119,hx119_0,hx119_1⟩:=at_T24 HR1.out x5_1 p119 q119
        have hw119_1:=hx119_1
        have hw119_0:=hx119_0
        cases e119
        replace hx119_0:=(HB.out.cell (World.block_lt_of_cell? w _ hx119_0)).trans hx119_0
        replace hx119_1:=(HB.out.cell (World.block_lt_of_cell? w _ hx119_1)).trans hx119_1
        replace p119:=eq_true p119
        replace q119:=eq_true q119
        refine start_ (n:=10) (S:=fun w'=>w'.cell? (ad118.add ((x5_1).toNat*2))=some (.int .i64 ((zdx l0 x5_1).f0))/\w'.cell? ⟨(ad118.add ((x5_1).toNat*2)).block,(ad118.add ((x5_1).toNat*2)).off+1,none⟩=some (.int .i64 ((zdx l0 x5_1).f1))/\w'.cell? (ad119.add ((x5_1).toNat*2))=some (.int .i64 ((zdx l1 x5_1).f0))/\w'.cell? ⟨(ad119.add ((x5_1).toNat*2)).block,(ad119.add ((x5_1).toNat*2)).off+1,none⟩=some (.int .i64 ((zdx l1 x5_1).f1))) (ds:= []) #[false,false,false,false,false,false,false,false,false,false] (by kernel_rfl) rfl rfl ⟨((HB.out.cell (World.block_lt_of_cell? w _ hw118_0)).trans hw118_0),((HB.out.cell (World.block_lt_of_cell? w _ hw118_1)).trans hw118_1),((HB.out.cell (World.block_lt_of_cell? w _ hw119_0)).trans hw119_0),((HB.out.cell (World.block_lt_of_cell? w _ hw119_1)).trans hw119_1)⟩ (fun hHeld=>?_);refine with_tabW zat.tab6 zat.bits6 (fun HT_ HW_=>?_)
        generalize wr.drew=w9 at HB hx118_0 hx118_1 hx119_0 hx119_1 hHeld ⊢
        refine pure_ (i:=0) (N:=some 17) (v:=?_) (a':=?_) #[true,false,false,false,false,false,false,false,false,false] rfl rfl (any_of HT_.out (by kernel_rfl)) (fun _ _ _ h=>h) (Or.inl ⟨by rfl,?_⟩) ?_ ?_
        rotate_left
        ·intro w'
         go_simp
         with_reducible rfl
        rotate_left
        ·simp only [Act.put,List.setIfInBounds_toArray,List.set_cons_zero,List.set_cons_succ,i64_w,i32_w]
         rfl
        refine pure_ (i:=1) (N:=some 18) (v:=?_) (a':=?_) #[true,true,false,false,false,false,false,false,false,false] rfl rfl (any_of HT_.out (by kernel_rfl)) (fun _ _ _ h=>h) (Or.inl ⟨by rfl,?_⟩) ?_ ?_
        rotate_left
        ·intro w'
         go_simp
         with_reducible rfl
        rotate_left
        ·simp only [Act.put,List.setIfInBounds_toArray,List.set_cons_zero,List.set_cons_succ,i64_w,i32_w]
         rfl
        refine pure_ (i:=2) (N:=some 19) (v:=?_) (a':=?_) #[true,true,true,false,false,false,false,false,false,false] rfl rfl (any_of HT_.out (by kernel_rfl)) (fun _ _ _ h=>h) (Or.inl ⟨by rfl,?_⟩) ?_ ?_
        rotate_left
        ·intro w'
         go_simp
         with_reducible rfl
        rotate_left
        ·simp only [Act.put,List.setIfInBounds_toArray,List.set_cons_zero,List.set_cons_succ,i64_w,i32_w]
         rfl
        refine pure_ (i:=4) (N:=some 21) (v:=?_) (a':=?_) #[true,true,true,false,true,false,false,false,false,false] rfl rfl (any_of HT_.out (by kernel_rfl)) (fun _ _ _ h=>h) (Or.inl ⟨by rfl,?_⟩) ?_ ?_
        rotate_left
        ·intro w'
         go_simp
         with_reducible rfl
        rotate_left
        ·simp only [Act.put,List.setIfInBounds_toArray,List.set_cons_zero,List.set_cons_succ,i64_w,i32_w]
         rfl
        refine pure_ (i:=5) (N:=some 22) (v:=?_) (a':=?_) #[true,true,true,false,true,true,false,false,false,false] rfl rfl (any_of HT_.out (by kernel_rfl)) (fun _ _ _ h=>h) (Or.inl ⟨by rfl,?_⟩) ?_ ?_
        rotate_left
        ·intro w'
         go_simp
         with_reducible rfl
        rotate_left
        ·simp only [Act.put,List.setIfInBounds_toArray,List.set_cons_zero,List.set_cons_succ,i64_w,i32_w]
         rfl
        refine pure_ (i:=6) (N:=some 23) (v:=?_) (a':=?_) #[true,true,true,false,true,true,true,false,false,false] rfl rfl (any_of HT_.out (by kernel_rfl)) (fun _ _ _ h=>h) (Or.inl ⟨by rfl,?_⟩) ?_ ?_
        rotate_left
        ·intro w'
         go_simp
         with_reducible rfl
        rotate_left
        ·simp only [Act.put,List.setIfInBounds_toArray,List.set_cons_zero,List.set_cons_succ,i64_w,i32_w]
         rfl
        refine take_ (i:=3) (N:=some 20) (v:=?_) (a':=?_) #[true,true,true,true,true,true,true,false,false,false] rfl rfl (take_ofW HT_.out HW_.out (by kernel_rfl)) (fun _ _ _ h=>h) (Or.inl ⟨by rfl,?_⟩) hHeld ?_ ?_
        rotate_left
        ·rintro w' ⟨s0,s1,s2,s3⟩
         go_simp
         with_reducible rfl
        rotate_left
        ·simp only [Act.put,List.setIfInBounds_toArray,List.set_cons_zero,List.set_cons_succ,i64_w,i32_w]
         rfl
        refine take_ (i:=7) (N:=some 24) (v:=?_) (a':=?_) #[true,true,true,true,true,true,true,true,false,false] rfl rfl (take_ofW HT_.out HW_.out (by kernel_rfl)) (fun _ _ _ h=>h) (Or.inl ⟨by rfl,?_⟩) hHeld ?_ ?_
        rotate_left
        ·rintro w' ⟨s0,s1,s2,s3⟩
         go_simp
         with_reducible rfl
        rotate_left
        ·simp only [Act.put,List.setIfInBounds_toArray,List.set_cons_zero,List.set_cons_succ,i64_w,i32_w]
         rfl
        refine one_ (i:=8) (N:=some 25) #[true,true,true,true,true,true,true,true,true,false] rfl rfl (one_of HT_.out (by kernel_rfl)) (by decide) (fun K hK=>?_)
        refine goes_ Tryz.func182 (by kernel_rfl) rfl #[.agg #[.int .i64 ((zdx l0 x5_1).f0),.int .i64 ((zdx l0 x5_1).f1)],.agg #[.int .i64 ((zdx l1 x5_1).f0),.int .i64 ((zdx l1 x5_1).f1)]] (by rfl) rfl rfl (by (try simp only [List.map_toArray,List.map_cons,List.map_nil]);first|done|rfl|(simp only [List.length_drop,List.length_take];rfl)) ?_
        with_reducible refine (laws_eqPoint.calls ((zdx l0 x5_1).f0) ((zdx l0 x5_1).f1) ((zdx l1 x5_1).f0) ((zdx l1 x5_1).f1) true _ A7.out).mono ?_
        rintro e w10 ⟨rfl,hb⟩
        refine ⟨_,rfl,?_⟩
        have n0_:=zy.mk (zaF (by repeat (first|(with_reducible first|exact HB.out|apply zm|apply zh|apply zo)|exact HB.out)) hb)
        clear HB
        have HB:=n0_
        clear n0_
        (try clear hb)
        (try clear hb2)
        (try clear hk)
        (try clear hi)
        refine hK.out _ _ ⟨((HB.out.cell (World.block_lt_of_cell? w _ hw118_0)).trans hw118_0),((HB.out.cell (World.block_lt_of_cell? w _ hw118_1)).trans hw118_1),((HB.out.cell (World.block_lt_of_cell? w _ hw119_0)).trans hw119_0),((HB.out.cell (World.block_lt_of_cell? w _ hw119_1)).trans hw119_1)⟩ (fun hHeld=>?_)
        clear hK K
        refine norm_ (a':=?_) ?_ ?_
        rotate_left
        ·show Act.put _ (some 25) _=_
         simp only [Act.put,List.setIfInBounds_toArray,List.set_cons_zero,List.set_cons_succ,i64_w,i32_w]
         rfl
        refine pure_ (i:=9) (N:=some 26) (v:=?_) (a':=?_) #[true,true,true,true,true,true,true,true,true,true] rfl rfl (any_of HT_.out (by kernel_rfl)) (fun _ _ _ h=>h) (Or.inl ⟨by rfl,?_⟩) ?_ ?_
        rotate_left
        ·intro w'
         go_simp
         with_reducible rfl
        rotate_left
        ·simp only [Act.put,List.setIfInBounds_toArray,List.set_cons_zero,List.set_cons_succ,i64_w,i32_w]
         rfl
        refine done_ (done_of HT_.out (by kernel_rfl)) ?_
        try go_wp2
        go_roundg k1
        case measure=>have:=HK1.out;omega
        case rel=>exact ⟨(wrap64 (x5_1+1)),(by first|rfl|(simp;done)|(simp [*];done)),H',⟨by have:=HK1.out;omega⟩,⟨by repeat (first|(with_reducible first|exact HB.out|apply zm|apply zh|apply zo)|exact HB.out)⟩⟩
       ·replace c8:=Bool.eq_false_iff.mpr c8
        subst c8
        have H1:(some false)=some r:=by rw [if_neg (show ¬(false=true) by decide)] at H;exact H
        clear H
        have H:=H1
        clear H1
        obtain rfl:=Option.some.inj H
        try go_wp2
        have n0_:=zy.mk (zo HB.out)
        clear HB
        have HB:=n0_
        clear n0_
        have p118:0<=(x5_1:Int):=of_decide_eq_true (by first|(with_reducible assumption)|assumption)
        have q118:x5_1<(l0.length:Int):=of_decide_eq_true (by first|(with_reducible assumption)|assumption)
        obtain ⟨ad118,e118,hx118_0,hx118_1⟩:=at_T24 HR0.out x5_1 p118 q118
        have hw118_1:=hx118_1
        have hw118_0:=hx118_0
        cases e118
        replace hx118_0:=(HB.out.cell (World.block_lt_of_cell? w _ hx118_0)).trans hx118_0
        replace hx118_1:=(HB.out.cell (World.block_lt_of_cell? w _ hx118_1)).trans hx118_1
        replace p118:=eq_true p118
        replace q118:=eq_true q118
        have p119:0<=(x5_1:Int):=of_decide_eq_true (by first|(with_reducible assumption)|assumption)
        have q119:x5_1<(l1.length:Int):=of_decide_eq_true (by first|(with_reducible assumption)|assumption)
        obtain ⟨ad119,e119,hx119_0,hx119_1⟩:=at_T24 HR1.out x5_1 p119 q119
        have hw119_1:=hx119_1
        have hw119_0:=hx119_0
        cases e119
        replace hx119_0:=(HB.out.cell (World.block_lt_of_cell? w _ hx119_0)).trans hx119_0
        replace hx119_1:=(HB.out.cell (World.block_lt_of_cell? w _ hx119_1)).trans hx119_1
        replace p119:=eq_true p119
        replace q119:=eq_true q119
        refine start_ (n:=10) (S:=fun w'=>w'.cell? (ad118.add ((x5_1).toNat*2))=some (.int .i64 ((zdx l0 x5_1).f0))/\w'.cell? ⟨(ad118.add ((x5_1).toNat*2)).block,(ad118.add ((x5_1).toNat*2)).off+1,none⟩=some (.int .i64 ((zdx l0 x5_1).f1))/\w'.cell? (ad119.add ((x5_1).toNat*2))=some (.int .i64 ((zdx l1 x5_1).f0))/\w'.cell? ⟨(ad119.add ((x5_1).toNat*2)).block,(ad119.add ((x5_1).toNat*2)).off+1,none⟩=some (.int .i64 ((zdx l1 x5_1).f1))) (ds:= []) #[false,false,false,false,false,false,false,false,false,false] (by kernel_rfl) rfl rfl ⟨((HB.out.cell (World.block_lt_of_cell? w _ hw118_0)).trans hw118_0),((HB.out.cell (World.block_lt_of_cell? w _ hw118_1)).trans hw118_1),((HB.out.cell (World.block_lt_of_cell? w _ hw119_0)).trans hw119_0),((HB.out.cell (World.block_lt_of_cell? w _ hw119_1)).trans hw119_1)⟩ (fun hHeld=>?_);refine with_tabW zat.tab6 zat.bits6 (fun HT_ HW_=>?_)
        generalize wr.drew=w11 at HB hx118_0 hx118_1 hx119_0 hx119_1 hHeld ⊢
        refine pure_ (i:=0) (N:=some 17) (v:=?_) (a':=?_) #[true,false,false,false,false,false,false,false,false,false] rfl rfl (any_of HT_.out (by kernel_rfl)) (fun _ _ _ h=>h) (Or.inl ⟨by rfl,?_⟩) ?_ ?_
        rotate_left
        ·intro w'
         go_simp
         with_reducible rfl
        rotate_left
        ·simp only [Act.put,List.setIfInBounds_toArray,List.set_cons_zero,List.set_cons_succ,i64_w,i32_w]
         rfl
        refine pure_ (i:=1) (N:=some 18) (v:=?_) (a':=?_) #[true,true,false,false,false,false,false,false,false,false] rfl rfl (any_of HT_.out (by kernel_rfl)) (fun _ _ _ h=>h) (Or.inl ⟨by rfl,?_⟩) ?_ ?_
        rotate_left
        ·intro w'
         go_simp
         with_reducible rfl
        rotate_left
        ·simp only [Act.put,List.setIfInBounds_toArray,List.set_cons_zero,List.set_cons_succ,i64_w,i32_w]
         rfl
        refine pure_ (i:=2) (N:=some 19) (v:=?_) (a':=?_) #[true,true,true,false,false,false,false,false,false,false] rfl rfl (any_of HT_.out (by kernel_rfl)) (fun _ _ _ h=>h) (Or.inl ⟨by rfl,?_⟩) ?_ ?_
        rotate_left
        ·intro w'
         go_simp
         with_reducible rfl
        rotate_left
        ·simp only [Act.put,List.setIfInBounds_toArray,List.set_cons_zero,List.set_cons_succ,i64_w,i32_w]
         rfl
        refine pure_ (i:=4) (N:=some 21) (v:=?_) (a':=?_) #[true,true,true,false,true,false,false,false,false,false] rfl rfl (any_of HT_.out (by kernel_rfl)) (fun _ _ _ h=>h) (Or.inl ⟨by rfl,?_⟩) ?_ ?_
        rotate_left
        ·intro w'
         go_simp
         with_reducible rfl
        rotate_left
        ·simp only [Act.put,List.setIfInBounds_toArray,List.set_cons_zero,List.set_cons_succ,i64_w,i32_w]
         rfl
        refine pure_ (i:=5) (N:=some 22) (v:=?_) (a':=?_) #[true,true,true,false,true,true,false,false,false,false] rfl rfl (any_of HT_.out (by kernel_rfl)) (fun _ _ _ h=>h) (Or.inl ⟨by rfl,?_⟩) ?_ ?_
        rotate_left
        ·intro w'
         go_simp
         with_reducible rfl
        rotate_left
        ·simp only [Act.put,List.setIfInBounds_toArray,List.set_cons_zero,List.set_cons_succ,i64_w,i32_w]
         rfl
        refine pure_ (i:=6) (N:=some 23) (v:=?_) (a':=?_) #[true,true,true,false,true,true,true,false,false,false] rfl rfl (any_of HT_.out (by kernel_rfl)) (fun _ _ _ h=>h) (Or.inl ⟨by rfl,?_⟩) ?_ ?_
        rotate_left
        ·intro w'
         go_simp
         with_reducible rfl
        rotate_left
        ·simp only [Act.put,List.setIfInBounds_toArray,List.set_cons_zero,List.set_cons_succ,i64_w,i32_w]
         rfl
        refine take_ (i:=3) (N:=some 20) (v:=?_) (a':=?_) #[true,true,true,true,true,true,true,false,false,false] rfl rfl (take_ofW HT_.out HW_.out (by kernel_rfl)) (fun _ _ _ h=>h) (Or.inl ⟨by rfl,?_⟩) hHeld ?_ ?_
        rotate_left
        ·rintro w' ⟨s0,s1,s2,s3⟩
         go_simp
         with_reducible rfl
        rotate_left
        ·simp only [Act.put,List.setIfInBounds_toArray,List.set_cons_zero,List.set_cons_succ,i64_w,i32_w]
         rfl
        refine take_ (i:=7) (N:=some 24) (v:=?_) (a':=?_) #[true,true,true,true,true,true,true,true,false,false] rfl rfl (take_ofW HT_.out HW_.out (by kernel_rfl)) (fun _ _ _ h=>h) (Or.inl ⟨by rfl,?_⟩) hHeld ?_ ?_
        rotate_left
        ·rintro w' ⟨s0,s1,s2,s3⟩
         go_simp
         with_reducible rfl
        rotate_left
        ·simp only [Act.put,List.setIfInBounds_toArray,List.set_cons_zero,List.set_cons_succ,i64_w,i32_w]
         rfl
        refine one_ (i:=8) (N:=some 25) #[true,true,true,true,true,true,true,true,true,false] rfl rfl (one_of HT_.out (by kernel_rfl)) (by decide) (fun K hK=>?_)
        refine goes_ Tryz.func182 (by kernel_rfl) rfl #[.agg #[.int .i64 ((zdx l0 x5_1).f0),.int .i64 ((zdx l0 x5_1).f1)],.agg #[.int .i64 ((zdx l1 x5_1).f0),.int .i64 ((zdx l1 x5_1).f1)]] (by rfl) rfl rfl (by (try simp only [List.map_toArray,List.map_cons,List.map_nil]);first|done|rfl|(simp only [List.length_drop,List.length_take];rfl)) ?_
        with_reducible refine (laws_eqPoint.calls ((zdx l0 x5_1).f0) ((zdx l0 x5_1).f1) ((zdx l1 x5_1).f0) ((zdx l1 x5_1).f1) false _ A7.out).mono ?_
        rintro e w12 ⟨rfl,hb⟩
        refine ⟨_,rfl,?_⟩
        have n0_:=zy.mk (zaF (by repeat (first|(with_reducible first|exact HB.out|apply zm|apply zh|apply zo)|exact HB.out)) hb)
        clear HB
        have HB:=n0_
        clear n0_
        (try clear hb)
        (try clear hb2)
        (try clear hk)
        (try clear hi)
        refine hK.out _ _ ⟨((HB.out.cell (World.block_lt_of_cell? w _ hw118_0)).trans hw118_0),((HB.out.cell (World.block_lt_of_cell? w _ hw118_1)).trans hw118_1),((HB.out.cell (World.block_lt_of_cell? w _ hw119_0)).trans hw119_0),((HB.out.cell (World.block_lt_of_cell? w _ hw119_1)).trans hw119_1)⟩ (fun hHeld=>?_)
        clear hK K
        refine norm_ (a':=?_) ?_ ?_
        rotate_left
        ·show Act.put _ (some 25) _=_
         simp only [Act.put,List.setIfInBounds_toArray,List.set_cons_zero,List.set_cons_succ,i64_w,i32_w]
         rfl
        refine pure_ (i:=9) (N:=some 26) (v:=?_) (a':=?_) #[true,true,true,true,true,true,true,true,true,true] rfl rfl (any_of HT_.out (by kernel_rfl)) (fun _ _ _ h=>h) (Or.inl ⟨by rfl,?_⟩) ?_ ?_
        rotate_left
        ·intro w'
         go_simp
         with_reducible rfl
        rotate_left
        ·simp only [Act.put,List.setIfInBounds_toArray,List.set_cons_zero,List.set_cons_succ,i64_w,i32_w]
         rfl
        refine done_ (done_of HT_.out (by kernel_rfl)) ?_
        try go_wp2
        go_ret
        exact ⟨by first|rfl|(simp [zbf,zbe]<;>rfl)|(simp [*,zbf,zbe]<;>rfl),by repeat (first|(with_reducible first|exact HB.out|apply zm|apply zh|apply zo)|exact HB.out)⟩
      ·rw [if_neg c6] at H
       exact absurd H (by simp)
     ·rw [if_neg c5] at H
      exact absurd H (by simp)
    ·rw [if_neg c4] at H
     have c4b0:decide (x5_1<(l0.length:Int))=false:=decide_eq_false c4
     clear c4
     obtain rfl:=Option.some.inj H
     go_wp2
     go_ret
     exact ⟨by first|rfl|(simp [zbf,zbe]<;>rfl)|(simp [*,zbf,zbe]<;>rfl),by repeat (first|(with_reducible first|exact HB.out|apply zm|apply zh|apply zo)|exact HB.out)⟩
 ·rw [if_neg c3] at H
  have c3b0:((l0.length:Int)==(l1.length:Int))=false:=beq_eq_false_iff_ne.mpr c3
  have c3b1:((l0.length:Int) != (l1.length:Int))=true:=bne_iff_ne.mpr c3
  have c3b2:(l0.length==l1.length)=false:=by first|simpa using c3|(simp at c3 ⊢;omega)
  obtain rfl:=Option.some.inj H
  go_enter Tryz.func67,Tryz.ntmps67
  go_wp2
  go_ret
  exact ⟨by first|rfl|(simp [zbf,zbe]<;>rfl)|(simp [*,zbf,zbe]<;>rfl),by repeat (first|(with_reducible first|exact HB.out|apply zm|apply zh|apply zo)|exact HB.out)⟩
end Go.Proofs.YtkenfaengphiiaaGreat.PFnExactPathLength
