/- The law FnExactPathLength gives true, whatever comes in; each argument reads behind the call as it read before. No conditions. (One of the texts of its proof, put together by a program of this session.) -/
import Derived.Test.YtkenfaengphiiaaGreatZX0
import Derived.Test.YtkenfaengphiiaaGreatZX1
import Derived.Test.YtkenfaengphiiaaGreatZPX
set_option linter.unusedSectionVars false
set_option linter.unusedSimpArgs false
set_option linter.unusedVariables false
noncomputable section
namespace Go.Proofs.YtkenfaengphiiaaGreat.PFnExactPathLength
open Go.RowKit Go.Proofs.YtkenfaengphiiaaGreatW.PrintWords Go.Proofs.YtkenfaengphiiaaGreatW.PrintLast Go.Proofs.YtkenfaengphiiaaGreatW.PrintMore
def zJ.j0:Nat->List (S67)->List (S24)->Bool->Option (Bool)
 | 0,_,_,_=>none
 | k+1,x1,x10,x45=>if x45=true then (some false) else ((zV.f k x1).bind fun t144=>((zat.f k x10 t144).bind fun t147=>(if t147=true then (some true) else (some false))))
def zJ.f (k:Nat) (a0_0:Int) (a0_1:Int) (a0_2:Int) (l1:List (S67)) (a2:Int):Option (Bool):=(laws_szPointS.f l1 1048576).bind fun t122=>(if t122<0 then (some true) else ((zba.f a0_0 a0_1 a0_2).bind fun bt123=>((zV.f k l1).bind fun t126=>((zc4.f bt123.1 bt123.2.1 bt123.2.2 t126 a2).bind fun bt129=>((zV.f k l1).bind fun t133=>((zba.f a0_0 a0_1 a0_2).bind fun bt136=>((zbS.f bt136.1 bt136.2.1 bt136.2.2 t133 a2).bind fun bt139=>((zbq.f bt139.1 bt139.2.1 bt129.1 bt129.2.1).bind fun t143=>(if t143=true then (zJ.j0 k l1 t133 (bt139.2.2 != bt129.2.2)) else (zJ.j0 k l1 t133 true))))))))))
set_option maxHeartbeats 8000000 in
set_option maxRecDepth 100000 in
theorem zJ.calls (k:Nat) (a0_0:Int) (a0_1:Int) (a0_2:Int) (A1:Option Addr) (c1:Nat) (l1:List (S67)) (a2:Int) (r:Bool) (w:World) (hr1:Kd.C k67 w A1 l1.length l1) (hc1:l1.length<=c1) (h:zJ.f k a0_0 a0_1 a0_2 l1 a2=some r):
  Calls Tryz.prog 12 #[.agg #[.int .i64 a0_0,.int .i64 a0_1,.int .i64 a0_2],.slice A1 l1.length c1,.int .i64 a2] w fun e w'=>e= .returned (.bool r)/\Below w.heap.size w w':=by
 have hu66:=Tryz.underlying66
 have hu30:=Tryz.underlying30
 have HR1:=zy.mk hr1
 have HC1:=zy.mk hc1
 clear hr1 hc1
 have HB:=zy.mk (Below.refl w.heap.size w)
 have H:((laws_szPointS.f l1 1048576).bind fun t122=>(if t122<0 then (some true) else ((zba.f a0_0 a0_1 a0_2).bind fun bt123=>((zV.f k l1).bind fun t126=>((zc4.f bt123.1 bt123.2.1 bt123.2.2 t126 a2).bind fun bt129=>((zV.f k l1).bind fun t133=>((zba.f a0_0 a0_1 a0_2).bind fun bt136=>((zbS.f bt136.1 bt136.2.1 bt136.2.2 t133 a2).bind fun bt139=>((zbq.f bt139.1 bt139.2.1 bt129.1 bt129.2.1).bind fun t143=>(if t143=true then (zJ.j0 k l1 t133 (bt139.2.2 != bt129.2.2)) else (zJ.j0 k l1 t133 true)))))))))))=some r:=h
 clear h
 replace H:=Option.bind_eq_some_iff.mp H
 obtain ⟨t122,A40,H⟩:=H
 replace H:(if t122<0 then (some true) else ((zba.f a0_0 a0_1 a0_2).bind fun bt123=>((zV.f k l1).bind fun t126=>((zc4.f bt123.1 bt123.2.1 bt123.2.2 t126 a2).bind fun bt129=>((zV.f k l1).bind fun t133=>((zba.f a0_0 a0_1 a0_2).bind fun bt136=>((zbS.f bt136.1 bt136.2.1 bt136.2.2 t133 a2).bind fun bt139=>((zbq.f bt139.1 bt139.2.1 bt129.1 bt129.2.1).bind fun t143=>(if t143=true then (zJ.j0 k l1 t133 (bt139.2.2 != bt129.2.2)) else (zJ.j0 k l1 t133 true))))))))))=some r:=H
 have A4:=zy.mk A40
 clear A40
 by_cases c5:t122<0
 ·rw [if_pos c5] at H
  have c5b0:decide (t122<0)=true:=decide_eq_true c5
  clear c5
  obtain rfl:=Option.some.inj H
  go_enter Tryz.func12,Tryz.ntmps12
  go_wp2_with (first|((with_reducible refine zc7 (N:=3) rfl ?_);refine zcl ?hg (N:=3) ?hd (cs:=#[.int .i64 a0_0,.int .i64 a0_1,.int .i64 a0_2]) (t:=66) ?hr ?_;(case hd=>rfl);(case hg=>rfl);(case hr=>first|(go_simp;done)|(go_simp;rfl));intro gb121 hg w6 hbox hb;have n0_:=zy.mk (zaF (by repeat (first|(with_reducible first|exact HB.out|apply zm|apply zh|apply zo)|exact HB.out)) hb);have n1_:=zy.mk (hbox);have n2_:=zy.mk ((by rw [hg];exact (zam (by repeat (first|(with_reducible first|exact HB.out|apply zm|apply zh|apply zo)|exact HB.out))):w.heap.size<=gb121));have n3_:=zy.mk ((by rw [hg];exact (zam (by repeat (first|(with_reducible first|exact HB.out|apply zm|apply zh|apply zo)|exact HB.out))):w.heap.size<=gb121));clear HB;have HB:=n0_;have BK121:=n1_;have GW121:=n2_;have GE121:=n3_;clear n0_ n1_ n2_ n3_;clear hb hbox hg)|((with_reducible refine zcE (f:=63) rfl ?_);refine goesL_ (some 15) rfl rfl Tryz.func63 (by kernel_rfl) rfl #[.slice A1 l1.length c1,.int .i64 1048576] rfl (by (try simp only [List.map_toArray,List.map_cons,List.map_nil]);first|done|rfl|(simp only [List.length_drop,List.length_take];rfl)) ?_;(with_reducible refine (laws_szPointS.calls _ _ l1 1048576 t122 _ ?side1 ?side2 A4.out).mono ?_);(case side1=>repeat (first|exact (Kd.C_below HR1.out HB.out)|(with_reducible refine Kd.C_alloc ?_ _)|(with_reducible refine Kd.C_drewN ?_ _)|(with_reducible refine Kd.C_drew ?_)));(case side2=>exact HC1.out);rintro e w' ⟨rfl,⟨nd,rfl⟩⟩;refine ⟨_,rfl,?_⟩))
  go_ret
  exact ⟨by first|rfl|(simp [zbf,zbe]<;>rfl)|(simp [*,zbf,zbe]<;>rfl),by repeat (first|(with_reducible first|exact HB.out|apply zm|apply zh|apply zo|refine zB ?_ GE121.out)|exact HB.out)⟩
 ·rw [if_neg c5] at H
  have c5b0:decide (t122<0)=false:=decide_eq_false c5
  clear c5
  replace H:=Option.bind_eq_some_iff.mp H
  obtain ⟨⟨t123,t124,t125⟩,A70,H⟩:=H
  replace H:((zV.f k l1).bind fun t126=>((zc4.f t123 t124 t125 t126 a2).bind fun bt129=>((zV.f k l1).bind fun t133=>((zba.f a0_0 a0_1 a0_2).bind fun bt136=>((zbS.f bt136.1 bt136.2.1 bt136.2.2 t133 a2).bind fun bt139=>((zbq.f bt139.1 bt139.2.1 bt129.1 bt129.2.1).bind fun t143=>(if t143=true then (zJ.j0 k l1 t133 (bt139.2.2 != bt129.2.2)) else (zJ.j0 k l1 t133 true))))))))=some r:=H
  have A7:=zy.mk A70
  clear A70
  replace H:=Option.bind_eq_some_iff.mp H
  obtain ⟨t126,A80,H⟩:=H
  replace H:((zc4.f t123 t124 t125 t126 a2).bind fun bt129=>((zV.f k l1).bind fun t133=>((zba.f a0_0 a0_1 a0_2).bind fun bt136=>((zbS.f bt136.1 bt136.2.1 bt136.2.2 t133 a2).bind fun bt139=>((zbq.f bt139.1 bt139.2.1 bt129.1 bt129.2.1).bind fun t143=>(if t143=true then (zJ.j0 k l1 t133 (bt139.2.2 != bt129.2.2)) else (zJ.j0 k l1 t133 true)))))))=some r:=H
  have A8:=zy.mk A80
  clear A80
  replace H:=Option.bind_eq_some_iff.mp H
  obtain ⟨⟨t129,t130,t131⟩,A90,H⟩:=H
  replace H:((zV.f k l1).bind fun t133=>((zba.f a0_0 a0_1 a0_2).bind fun bt136=>((zbS.f bt136.1 bt136.2.1 bt136.2.2 t133 a2).bind fun bt139=>((zbq.f bt139.1 bt139.2.1 t129 t130).bind fun t143=>(if t143=true then (zJ.j0 k l1 t133 (bt139.2.2 != t131)) else (zJ.j0 k l1 t133 true))))))=some r:=H
  have A9:=zy.mk A90
  clear A90
  replace H:=Option.bind_eq_some_iff.mp H
  obtain ⟨t133,A100,H⟩:=H
  replace H:((zba.f a0_0 a0_1 a0_2).bind fun bt136=>((zbS.f bt136.1 bt136.2.1 bt136.2.2 t133 a2).bind fun bt139=>((zbq.f bt139.1 bt139.2.1 t129 t130).bind fun t143=>(if t143=true then (zJ.j0 k l1 t133 (bt139.2.2 != t131)) else (zJ.j0 k l1 t133 true)))))=some r:=H
  have A10:=zy.mk A100
  clear A100
  replace H:=Option.bind_eq_some_iff.mp H
  obtain ⟨⟨t136,t137,t138⟩,A110,H⟩:=H
  replace H:((zbS.f t136 t137 t138 t133 a2).bind fun bt139=>((zbq.f bt139.1 bt139.2.1 t129 t130).bind fun t143=>(if t143=true then (zJ.j0 k l1 t133 (bt139.2.2 != t131)) else (zJ.j0 k l1 t133 true))))=some r:=H
  have A11:=zy.mk A110
  clear A110
  replace H:=Option.bind_eq_some_iff.mp H
  obtain ⟨⟨t139,t140,t141⟩,A120,H⟩:=H
  replace H:((zbq.f t139 t140 t129 t130).bind fun t143=>(if t143=true then (zJ.j0 k l1 t133 (t141 != t131)) else (zJ.j0 k l1 t133 true)))=some r:=H
  have A12:=zy.mk A120
  clear A120
  have HC13:=zy.mk H
  clear H
  go_enter Tryz.func12,Tryz.ntmps12
  go_upto_region 8 with (first|((with_reducible refine zc7 (N:=3) rfl ?_);refine zcl ?hg (N:=3) ?hd (cs:=#[.int .i64 a0_0,.int .i64 a0_1,.int .i64 a0_2]) (t:=66) ?hr ?_;(case hd=>rfl);(case hg=>rfl);(case hr=>first|(go_simp;done)|(go_simp;rfl));intro gb121 hg w14 hbox hb;have n0_:=zy.mk (zaF (by repeat (first|(with_reducible first|exact HB.out|apply zm|apply zh|apply zo)|exact HB.out)) hb);have n1_:=zy.mk (hbox);have n2_:=zy.mk ((by rw [hg];exact (zam (by repeat (first|(with_reducible first|exact HB.out|apply zm|apply zh|apply zo)|exact HB.out))):w.heap.size<=gb121));have n3_:=zy.mk ((by rw [hg];exact (zam (by repeat (first|(with_reducible first|exact HB.out|apply zm|apply zh|apply zo)|exact HB.out))):w.heap.size<=gb121));clear HB;have HB:=n0_;have BK121:=n1_;have GW121:=n2_;have GE121:=n3_;clear n0_ n1_ n2_ n3_;clear hb hbox hg)|((with_reducible refine zcE (f:=63) rfl ?_);refine goesL_ (some 15) rfl rfl Tryz.func63 (by kernel_rfl) rfl #[.slice A1 l1.length c1,.int .i64 1048576] rfl (by (try simp only [List.map_toArray,List.map_cons,List.map_nil]);first|done|rfl|(simp only [List.length_drop,List.length_take];rfl)) ?_;(with_reducible refine (laws_szPointS.calls _ _ l1 1048576 t122 _ ?side1 ?side2 A4.out).mono ?_);(case side1=>repeat (first|exact (Kd.C_below HR1.out HB.out)|(with_reducible refine Kd.C_alloc ?_ _)|(with_reducible refine Kd.C_drewN ?_ _)|(with_reducible refine Kd.C_drew ?_)));(case side2=>exact HC1.out);rintro e w' ⟨rfl,⟨nd,rfl⟩⟩;refine ⟨_,rfl,?_⟩;(try (rw [drewN_self w14];generalize hq_:World.drewN w14 _=w14;have n0_:zy (w14.heap[gb121]?=some (.cells #[.int .i64 a0_0,.int .i64 a0_1,.int .i64 a0_2] 66 (0,0))):=⟨by rw [<- hq_];exact (by (with_reducible repeat (first|refine zG ?_ _|refine zM ?_|refine zH ?_ _));exact BK121.out)⟩;have n1_:zy (Below w.heap.size w w14):=⟨by rw [<- hq_];exact (by repeat (first|(with_reducible first|exact HB.out|apply zm|apply zh|apply zo|refine zB ?_ GE121.out)|exact HB.out))⟩;clear BK121 HB hq_;have BK121:=n0_;have HB:=n1_;clear n0_ n1_));have hcz15_0:w14.cell? ⟨gb121,0,none⟩=some (.int .i64 a0_0):=(zaB BK121.out 0).trans rfl;have hcz15_1:w14.cell? ⟨gb121,1,none⟩=some (.int .i64 a0_1):=(zaB BK121.out 1).trans rfl;have hcz15_2:w14.cell? ⟨gb121,2,none⟩=some (.int .i64 a0_2):=(zaB BK121.out 2).trans rfl;have hfz15_0:=zab BK121.out 0;have hfz15_1:=zab BK121.out 1;have hfz15_2:=zab BK121.out 2)|((with_reducible refine zcE (f:=45) rfl ?_);refine goesL_ (some 20) rfl rfl Tryz.func45 (by kernel_rfl) rfl #[.agg #[.int .i64 a0_0,.int .i64 a0_1,.int .i64 a0_2]] rfl (by (try simp only [List.map_toArray,List.map_cons,List.map_nil]);first|done|rfl|(simp only [List.length_drop,List.length_take];rfl)) ?_;(with_reducible refine (zba.calls a0_0 a0_1 a0_2 t123 t124 t125 _ A7.out).mono ?_);rintro e w16 ⟨rfl,hb⟩;refine ⟨_,rfl,?_⟩;have n0_:=zy.mk (zaM (g:=gb121) (o:= .cells #[.int .i64 a0_0,.int .i64 a0_1,.int .i64 a0_2] 66 (0,0)) (by (with_reducible repeat (first|refine zG ?_ _|refine zM ?_|refine zH ?_ _));exact BK121.out) hb);have n1_:=zy.mk (zaF (by repeat (first|(with_reducible first|exact HB.out|apply zm|apply zh|apply zo|refine zB ?_ GE121.out)|exact HB.out)) hb);clear BK121;clear HB;have BK121:=n0_;have HB:=n1_;clear n0_ n1_;(try clear hb);(try clear hb2);(try clear hk);(try clear hi))|((with_reducible refine zcE (f:=65) rfl ?_);refine goesL_ (some 22) rfl rfl Tryz.func65 (by kernel_rfl) rfl #[.slice A1 l1.length c1] rfl (by (try simp only [List.map_toArray,List.map_cons,List.map_nil]);first|done|rfl|(simp only [List.length_drop,List.length_take];rfl)) ?_;(with_reducible refine (zV.calls k _ _ l1 t126 _ ?side1 ?side2 A8.out).mono ?_);(case side1=>repeat (first|exact (Kd.C_below HR1.out HB.out)|(with_reducible refine Kd.C_alloc ?_ _)|(with_reducible refine Kd.C_drewN ?_ _)|(with_reducible refine Kd.C_drew ?_)));(case side2=>exact HC1.out);rintro e w17 ⟨v127,rfl,ho0,hb⟩;refine ⟨_,rfl,?_⟩;have n0_:=zy.mk (Kd.R_lower ho0 (zam (by repeat (first|(with_reducible first|exact HB.out|apply zm|apply zh|apply zo|refine zB ?_ GE121.out)|exact HB.out))));have n1_:=zy.mk (zaM (g:=gb121) (o:= .cells #[.int .i64 a0_0,.int .i64 a0_1,.int .i64 a0_2] 66 (0,0)) (by (with_reducible repeat (first|refine zG ?_ _|refine zM ?_|refine zH ?_ _));exact BK121.out) hb);have n2_:=zy.mk (zaF (by repeat (first|(with_reducible first|exact HB.out|apply zm|apply zh|apply zo|refine zB ?_ GE121.out)|exact HB.out)) hb);clear BK121;clear HB;have HO128:=n0_;have BK121:=n1_;have HB:=n2_;clear n0_ n1_ n2_;(try clear hb);(try clear hb2);(try clear hk);(try clear hi);(try clear ho0);obtain ⟨Ao18,co18,eo18⟩:=Kd.R_slice HO128.out;subst eo18)|((with_reducible refine zcE (f:=64) rfl ?_);refine goesL_ (some 24) rfl rfl Tryz.func64 (by kernel_rfl) rfl #[.agg #[.int .i64 t123,.int .i64 t124,.int .i64 t125],.slice Ao18 t126.length co18,.int .i64 a2] rfl (by (try simp only [List.map_toArray,List.map_cons,List.map_nil]);first|done|rfl|(simp only [List.length_drop,List.length_take];rfl)) ?_;(with_reducible refine (zc4.calls t123 t124 t125 _ _ t126 a2 t129 t130 t131 _ ?side1 ?side2 A9.out).mono ?_);(case side1=>repeat (first|exact (Kd.zfx HO128.out).2.2|(with_reducible refine Kd.C_alloc ?_ _)|(with_reducible refine Kd.C_drewN ?_ _)|(with_reducible refine Kd.C_drew ?_)));(case side2=>exact (Kd.zfx HO128.out).2.1);rintro e w19 ⟨rfl,hb⟩;refine ⟨_,rfl,?_⟩;have n0_:=zy.mk (Kd.zfM (by (with_reducible repeat (first|apply Kd.zdb|apply Kd.zda|apply Kd.ze6));exact HO128.out) hb);have n1_:=zy.mk (zaM (g:=gb121) (o:= .cells #[.int .i64 a0_0,.int .i64 a0_1,.int .i64 a0_2] 66 (0,0)) (by (with_reducible repeat (first|refine zG ?_ _|refine zM ?_|refine zH ?_ _));exact BK121.out) hb);have n2_:=zy.mk (zaF (by repeat (first|(with_reducible first|exact HB.out|apply zm|apply zh|apply zo|refine zB ?_ GE121.out)|exact HB.out)) hb);clear HO128;clear BK121;clear HB;have HO128:=n0_;have BK121:=n1_;have HB:=n2_;clear n0_ n1_ n2_;(try clear hb);(try clear hb2);(try clear hk);(try clear hi))|((with_reducible refine zc7 (N:=8) rfl ?_);refine zcl ?hg (N:=8) ?hd (cs:=#[.int .i64 0,.int .i64 0]) (t:=30) ?hr ?_;(case hd=>rfl);(case hg=>rfl);(case hr=>first|(go_simp;done)|(go_simp;rfl));intro gb132 hg w20 hbox hb;have n0_:=zy.mk (Kd.zfM (by (with_reducible repeat (first|apply Kd.zdb|apply Kd.zda|apply Kd.ze6));exact HO128.out) hb);have n1_:=zy.mk (zaM (g:=gb121) (o:= .cells #[.int .i64 a0_0,.int .i64 a0_1,.int .i64 a0_2] 66 (0,0)) (by (with_reducible repeat (first|refine zG ?_ _|refine zM ?_|refine zH ?_ _));exact BK121.out) hb);have n2_:=zy.mk (zaF (by repeat (first|(with_reducible first|exact HB.out|apply zm|apply zh|apply zo|refine zB ?_ GE121.out)|exact HB.out)) hb);have n3_:=zy.mk (hbox);have n4_:=zy.mk ((by rw [hg];exact (zam (by repeat (first|(with_reducible first|exact HB.out|apply zm|apply zh|apply zo|refine zB ?_ GE121.out)|exact HB.out))):w.heap.size<=gb132));have n5_:=zy.mk ((by rw [hg];exact (zam (by repeat (first|(with_reducible first|exact HB.out|apply zm|apply zh|apply zo|refine zB ?_ GE121.out)|exact HB.out))):w.heap.size<=gb132));have n6_:=zy.mk ((by rw [hg];exact Nat.ne_of_lt (zea (g:=gb121) (o:= .cells #[.int .i64 a0_0,.int .i64 a0_1,.int .i64 a0_2] 66 (0,0)) (by (with_reducible repeat (first|refine zG ?_ _|refine zM ?_|refine zH ?_ _));exact BK121.out)):gb121≠gb132));have n7_:=zy.mk ((by rw [hg];exact Nat.ne_of_gt (zea (g:=gb121) (o:= .cells #[.int .i64 a0_0,.int .i64 a0_1,.int .i64 a0_2] 66 (0,0)) (by (with_reducible repeat (first|refine zG ?_ _|refine zM ?_|refine zH ?_ _));exact BK121.out)):gb132≠gb121));clear HO128;clear BK121;clear HB;have HO128:=n0_;have BK121:=n1_;have HB:=n2_;have BK132:=n3_;have GW132:=n4_;have GE132:=n5_;have NB121_132:=n6_;have NB132_121:=n7_;clear n0_ n1_ n2_ n3_ n4_ n5_ n6_ n7_;clear hb hbox hg;have hnb21:=NB132_121.out;have hnc21:=NB121_132.out;have hcz22_0:w20.cell? ⟨gb132,0,none⟩=some (.int .i64 0):=(zaB BK132.out 0).trans rfl;have hcz22_1:w20.cell? ⟨gb132,1,none⟩=some (.int .i64 0):=(zaB BK132.out 1).trans rfl;have hfz22_0:=zab BK132.out 0;have hfz22_1:=zab BK132.out 1)|((with_reducible refine zcE (f:=65) rfl ?_);refine goesL_ (some 28) rfl rfl Tryz.func65 (by kernel_rfl) rfl #[.slice A1 l1.length c1] rfl (by (try simp only [List.map_toArray,List.map_cons,List.map_nil]);first|done|rfl|(simp only [List.length_drop,List.length_take];rfl)) ?_;(with_reducible refine (zV.calls k _ _ l1 t133 _ ?side1 ?side2 A10.out).mono ?_);(case side1=>exact Kd.C_below HR1.out (by repeat (first|(with_reducible first|exact HB.out|apply zm|apply zh|apply zo|refine zB ?_ GE121.out|refine zB ?_ GE132.out)|exact HB.out)));(case side2=>exact HC1.out);rintro e w23 ⟨v134,rfl,ho0,hb⟩;refine ⟨_,rfl,?_⟩;have n0_:=zy.mk (Kd.R_elder' (by (with_reducible repeat (first|apply Kd.zdb|apply Kd.zda|apply Kd.ze6));exact (Kd.R_mono (Kd.R_far (p:=⟨gb132,1,none⟩) (Kd.R_far (p:=⟨gb132,0,none⟩) (Kd.R_types HO128.out BK132.out (by decide)) (fun _ hk=>hk.2) (.int .i64 t129)) (fun _ hk=>hk.2) (.int .i64 t130)) (fun _ h_=>h_.1))) (Kd.R_base ho0) hb);have n1_:=zy.mk (Kd.R_lower (Kd.R_new' ho0 (Kd.R_lt (by (with_reducible repeat (first|apply Kd.zdb|apply Kd.zda|apply Kd.ze6));exact (Kd.R_mono (Kd.R_far (p:=⟨gb132,1,none⟩) (Kd.R_far (p:=⟨gb132,0,none⟩) (Kd.R_types HO128.out BK132.out (by decide)) (fun _ hk=>hk.2) (.int .i64 t129)) (fun _ hk=>hk.2) (.int .i64 t130)) (fun _ h_=>h_.1))))) (zam (by repeat (first|(with_reducible first|exact HB.out|apply zm|apply zh|apply zo|refine zB ?_ GE121.out|refine zB ?_ GE132.out)|exact HB.out))));have n2_:=zy.mk (zaM (g:=gb121) (o:= .cells #[.int .i64 a0_0,.int .i64 a0_1,.int .i64 a0_2] 66 (0,0)) (by (with_reducible repeat (first|refine zG ?_ _|refine zM ?_|refine zH ?_ _));refine blk_far ?_ NB121_132.out _;(with_reducible repeat (first|refine zG ?_ _|refine zM ?_|refine zH ?_ _));refine blk_far ?_ NB121_132.out _;(with_reducible repeat (first|refine zG ?_ _|refine zM ?_|refine zH ?_ _));exact BK121.out) hb);have n3_:=zy.mk (zaM (g:=gb132) (o:= .cells #[.int .i64 t129,.int .i64 t130] 30 (0,0)) (by (with_reducible repeat (first|refine zG ?_ _|refine zM ?_|refine zH ?_ _));refine blk_put (cs:=#[.int .i64 t129,.int .i64 0]) ?_ 1 _ rfl;(with_reducible repeat (first|refine zG ?_ _|refine zM ?_|refine zH ?_ _));refine blk_put (cs:=#[.int .i64 0,.int .i64 0]) ?_ 0 _ rfl;(with_reducible repeat (first|refine zG ?_ _|refine zM ?_|refine zH ?_ _));exact BK132.out) hb);have n4_:=zy.mk (zaF (by repeat (first|(with_reducible first|exact HB.out|apply zm|apply zh|apply zo|refine zB ?_ GE121.out|refine zB ?_ GE132.out)|exact HB.out)) hb);clear HO128;clear BK121;clear BK132;clear HB;have HO128:=n0_;have HO135:=n1_;have BK121:=n2_;have BK132:=n3_;have HB:=n4_;clear n0_ n1_ n2_ n3_ n4_;(try clear hb);(try clear hb2);(try clear hk);(try clear hi);(try clear ho0);have hcz24_0:w23.cell? ⟨gb121,0,none⟩=some (.int .i64 a0_0):=(zaB BK121.out 0).trans rfl;have hcz24_1:w23.cell? ⟨gb121,1,none⟩=some (.int .i64 a0_1):=(zaB BK121.out 1).trans rfl;have hcz24_2:w23.cell? ⟨gb121,2,none⟩=some (.int .i64 a0_2):=(zaB BK121.out 2).trans rfl;have hfz24_0:=zab BK121.out 0;have hfz24_1:=zab BK121.out 1;have hfz24_2:=zab BK121.out 2)|((with_reducible refine zcE (f:=45) rfl ?_);refine goesL_ (some 31) rfl rfl Tryz.func45 (by kernel_rfl) rfl #[.agg #[.int .i64 a0_0,.int .i64 a0_1,.int .i64 a0_2]] rfl (by (try simp only [List.map_toArray,List.map_cons,List.map_nil]);first|done|rfl|(simp only [List.length_drop,List.length_take];rfl)) ?_;(with_reducible refine (zba.calls a0_0 a0_1 a0_2 t136 t137 t138 _ A11.out).mono ?_);rintro e w25 ⟨rfl,hb⟩;refine ⟨_,rfl,?_⟩;have n0_:=zy.mk (Kd.zfM (by (with_reducible repeat (first|apply Kd.zdb|apply Kd.zda|apply Kd.ze6));exact HO128.out) hb);have n1_:=zy.mk (Kd.zfM (by (with_reducible repeat (first|apply Kd.zdb|apply Kd.zda|apply Kd.ze6));exact HO135.out) hb);have n2_:=zy.mk (zaM (g:=gb121) (o:= .cells #[.int .i64 a0_0,.int .i64 a0_1,.int .i64 a0_2] 66 (0,0)) (by (with_reducible repeat (first|refine zG ?_ _|refine zM ?_|refine zH ?_ _));exact BK121.out) hb);have n3_:=zy.mk (zaM (g:=gb132) (o:= .cells #[.int .i64 t129,.int .i64 t130] 30 (0,0)) (by (with_reducible repeat (first|refine zG ?_ _|refine zM ?_|refine zH ?_ _));exact BK132.out) hb);have n4_:=zy.mk (zaF (by repeat (first|(with_reducible first|exact HB.out|apply zm|apply zh|apply zo|refine zB ?_ GE121.out|refine zB ?_ GE132.out)|exact HB.out)) hb);clear HO128;clear HO135;clear BK121;clear BK132;clear HB;have HO128:=n0_;have HO135:=n1_;have BK121:=n2_;have BK132:=n3_;have HB:=n4_;clear n0_ n1_ n2_ n3_ n4_;(try clear hb);(try clear hb2);(try clear hk);(try clear hi);obtain ⟨Ao26,co26,eo26⟩:=Kd.R_slice HO135.out;subst eo26)|((with_reducible refine zcE (f:=66) rfl ?_);refine goesL_ (some 34) rfl rfl Tryz.func66 (by kernel_rfl) rfl #[.agg #[.int .i64 t136,.int .i64 t137,.int .i64 t138],.slice Ao26 t133.length co26,.int .i64 a2] rfl (by (try simp only [List.map_toArray,List.map_cons,List.map_nil]);first|done|rfl|(simp only [List.length_drop,List.length_take];rfl)) ?_;(with_reducible refine (zbS.calls t136 t137 t138 _ _ t133 a2 t139 t140 t141 _ ?side1 ?side2 A12.out).mono ?_);(case side1=>repeat (first|exact (Kd.zfx HO135.out).2.2|(with_reducible refine Kd.C_alloc ?_ _)|(with_reducible refine Kd.C_drewN ?_ _)|(with_reducible refine Kd.C_drew ?_)));(case side2=>exact (Kd.zfx HO135.out).2.1);rintro e w27 ⟨rfl,hb⟩;refine ⟨_,rfl,?_⟩;have n0_:=zy.mk (Kd.zfM (by (with_reducible repeat (first|apply Kd.zdb|apply Kd.zda|apply Kd.ze6));exact HO128.out) hb);have n1_:=zy.mk (Kd.zfM (by (with_reducible repeat (first|apply Kd.zdb|apply Kd.zda|apply Kd.ze6));exact HO135.out) hb);have n2_:=zy.mk (zaM (g:=gb121) (o:= .cells #[.int .i64 a0_0,.int .i64 a0_1,.int .i64 a0_2] 66 (0,0)) (by (with_reducible repeat (first|refine zG ?_ _|refine zM ?_|refine zH ?_ _));exact BK121.out) hb);have n3_:=zy.mk (zaM (g:=gb132) (o:= .cells #[.int .i64 t129,.int .i64 t130] 30 (0,0)) (by (with_reducible repeat (first|refine zG ?_ _|refine zM ?_|refine zH ?_ _));exact BK132.out) hb);have n4_:=zy.mk (zaF (by repeat (first|(with_reducible first|exact HB.out|apply zm|apply zh|apply zo|refine zB ?_ GE121.out|refine zB ?_ GE132.out)|exact HB.out)) hb);clear HO128;clear HO135;clear BK121;clear BK132;clear HB;have HO128:=n0_;have HO135:=n1_;have BK121:=n2_;have BK132:=n3_;have HB:=n4_;clear n0_ n1_ n2_ n3_ n4_;(try clear hb);(try clear hb2);(try clear hk);(try clear hi))|((with_reducible refine zc7 (N:=11) rfl ?_);refine zcl ?hg (N:=11) ?hd (cs:=#[.int .i64 0,.int .i64 0]) (t:=30) ?hr ?_;(case hd=>rfl);(case hg=>rfl);(case hr=>first|(go_simp;done)|(go_simp;rfl));intro gb142 hg w28 hbox hb;have n0_:=zy.mk (Kd.zfM (by (with_reducible repeat (first|apply Kd.zdb|apply Kd.zda|apply Kd.ze6));exact HO128.out) hb);have n1_:=zy.mk (Kd.zfM (by (with_reducible repeat (first|apply Kd.zdb|apply Kd.zda|apply Kd.ze6));exact HO135.out) hb);have n2_:=zy.mk (zaM (g:=gb121) (o:= .cells #[.int .i64 a0_0,.int .i64 a0_1,.int .i64 a0_2] 66 (0,0)) (by (with_reducible repeat (first|refine zG ?_ _|refine zM ?_|refine zH ?_ _));exact BK121.out) hb);have n3_:=zy.mk (zaM (g:=gb132) (o:= .cells #[.int .i64 t129,.int .i64 t130] 30 (0,0)) (by (with_reducible repeat (first|refine zG ?_ _|refine zM ?_|refine zH ?_ _));exact BK132.out) hb);have n4_:=zy.mk (zaF (by repeat (first|(with_reducible first|exact HB.out|apply zm|apply zh|apply zo|refine zB ?_ GE121.out|refine zB ?_ GE132.out)|exact HB.out)) hb);have n5_:=zy.mk (hbox);have n6_:=zy.mk ((by rw [hg];exact (zam (by repeat (first|(with_reducible first|exact HB.out|apply zm|apply zh|apply zo|refine zB ?_ GE121.out|refine zB ?_ GE132.out)|exact HB.out))):w.heap.size<=gb142));have n7_:=zy.mk ((by rw [hg];exact (zam (by repeat (first|(with_reducible first|exact HB.out|apply zm|apply zh|apply zo|refine zB ?_ GE121.out|refine zB ?_ GE132.out)|exact HB.out))):w.heap.size<=gb142));have n8_:=zy.mk ((by rw [hg];exact Nat.ne_of_lt (zea (g:=gb121) (o:= .cells #[.int .i64 a0_0,.int .i64 a0_1,.int .i64 a0_2] 66 (0,0)) (by (with_reducible repeat (first|refine zG ?_ _|refine zM ?_|refine zH ?_ _));exact BK121.out)):gb121≠gb142));have n9_:=zy.mk ((by rw [hg];exact Nat.ne_of_gt (zea (g:=gb121) (o:= .cells #[.int .i64 a0_0,.int .i64 a0_1,.int .i64 a0_2] 66 (0,0)) (by (with_reducible repeat (first|refine zG ?_ _|refine zM ?_|refine zH ?_ _));exact BK121.out)):gb142≠gb121));have n10_:=zy.mk ((by rw [hg];exact Nat.ne_of_lt (zea (g:=gb132) (o:= .cells #[.int .i64 t129,.int .i64 t130] 30 (0,0)) (by (with_reducible repeat (first|refine zG ?_ _|refine zM ?_|refine zH ?_ _));exact BK132.out)):gb132≠gb142));have n11_:=zy.mk ((by rw [hg];exact Nat.ne_of_gt (zea (g:=gb132) (o:= .cells #[.int .i64 t129,.int .i64 t130] 30 (0,0)) (by (with_reducible repeat (first|refine zG ?_ _|refine zM ?_|refine zH ?_ _));exact BK132.out)):gb142≠gb132));clear HO128;clear HO135;clear BK121;clear BK132;clear HB;have HO128:=n0_;have HO135:=n1_;have BK121:=n2_;have BK132:=n3_;have HB:=n4_;have BK142:=n5_;have GW142:=n6_;have GE142:=n7_;have NB121_142:=n8_;have NB142_121:=n9_;have NB132_142:=n10_;have NB142_132:=n11_;clear n0_ n1_ n2_ n3_ n4_ n5_ n6_ n7_ n8_ n9_ n10_ n11_;clear hb hbox hg;have hnb29:=NB142_121.out;have hnc29:=NB121_142.out;have hnb30:=NB142_132.out;have hnc30:=NB132_142.out;have hcz31_0:w28.cell? ⟨gb142,0,none⟩=some (.int .i64 0):=(zaB BK142.out 0).trans rfl;have hcz31_1:w28.cell? ⟨gb142,1,none⟩=some (.int .i64 0):=(zaB BK142.out 1).trans rfl;have hfz31_0:=zab BK142.out 0;have hfz31_1:=zab BK142.out 1))
  (try simp only [Act.put,List.setIfInBounds_toArray,List.set_cons_zero,List.set_cons_succ])
  go_cut [45] (fun v45 wc=>∃(kq:Nat) (x45_12:Bool),v45= .bool x45_12/\zy (zJ.j0 kq l1 t133 x45_12=some r)/\zy (kq<=k)/\zy (Kd.R k24 24 wc w.heap.size (fun _=>True) (.slice Ao26 t133.length co26) t133)/\zy (wc.heap[gb121]?=some (.cells #[.int .i64 a0_0,.int .i64 a0_1,.int .i64 a0_2] 66 (0,0)))/\zy (wc.heap[gb132]?=some (.cells #[.int .i64 t129,.int .i64 t130] 30 (0,0)))/\zy (wc.heap[gb142]?=some (.cells #[.int .i64 t139,.int .i64 t140] 30 (0,0)))/\zy (Below w.heap.size w wc))
  case first=>
   have H:=HC13.out
   clear HC13
   replace H:=Option.bind_eq_some_iff.mp H
   obtain ⟨t143,A320,H⟩:=H
   replace H:(if t143=true then (zJ.j0 k l1 t133 (t141 != t131)) else (zJ.j0 k l1 t133 true))=some r:=H
   have A32:=zy.mk A320
   clear A320
   by_cases c33:t143=true
   ·subst c33
    have H1:(zJ.j0 k l1 t133 (t141 != t131))=some r:=by rw [if_pos rfl] at H;exact H
    clear H
    have H:=H1
    clear H1
    have H':=zy.mk H
    clear H
    have hnb34:=NB142_121.out
    have hnc34:=NB121_142.out
    have hnb35:=NB142_132.out
    have hnc35:=NB132_142.out
    have hcz36_0:w28.cell? ⟨gb142,0,none⟩=some (.int .i64 0):=(zaB BK142.out 0).trans rfl
    have hcz36_1:w28.cell? ⟨gb142,1,none⟩=some (.int .i64 0):=(zaB BK142.out 1).trans rfl
    have hfz36_0:=zab BK142.out 0
    have hfz36_1:=zab BK142.out 1
    have hnb37:=NB132_121.out
    have hnc37:=NB121_132.out
    have hcz38_0:w28.cell? ⟨gb132,0,none⟩=some (.int .i64 t129):=(zaB BK132.out 0).trans rfl
    have hcz38_1:w28.cell? ⟨gb132,1,none⟩=some (.int .i64 t130):=(zaB BK132.out 1).trans rfl
    have hfz38_0:=zab BK132.out 0
    have hfz38_1:=zab BK132.out 1
    go_wp2_with (first|((with_reducible refine zcE (f:=51) rfl ?_);refine goesL_ (some 39) rfl rfl Tryz.func51 (by kernel_rfl) rfl #[.agg #[.int .i64 t139,.int .i64 t140],.agg #[.int .i64 t129,.int .i64 t130]] rfl (by (try simp only [List.map_toArray,List.map_cons,List.map_nil]);first|done|rfl|(simp only [List.length_drop,List.length_take];rfl)) ?_;(with_reducible refine (zbq.calls t139 t140 t129 t130 true _ A32.out).mono ?_);rintro e w39 ⟨rfl,hb⟩;refine ⟨_,rfl,?_⟩;have n0_:=zy.mk (Kd.zfM (by (with_reducible repeat (first|apply Kd.zdb|apply Kd.zda|apply Kd.ze6));exact (Kd.R_mono (Kd.R_far (p:=⟨gb142,1,none⟩) (Kd.R_far (p:=⟨gb142,0,none⟩) (Kd.R_types HO128.out BK142.out (by decide)) (fun _ hk=>hk.2) (.int .i64 t139)) (fun _ hk=>hk.2) (.int .i64 t140)) (fun _ h_=>h_.1))) hb);have n1_:=zy.mk (Kd.zfM (by (with_reducible repeat (first|apply Kd.zdb|apply Kd.zda|apply Kd.ze6));exact (Kd.R_mono (Kd.R_far (p:=⟨gb142,1,none⟩) (Kd.R_far (p:=⟨gb142,0,none⟩) (Kd.R_types HO135.out BK142.out (by decide)) (fun _ hk=>hk.2) (.int .i64 t139)) (fun _ hk=>hk.2) (.int .i64 t140)) (fun _ h_=>h_.1))) hb);have n2_:=zy.mk (zaM (g:=gb121) (o:= .cells #[.int .i64 a0_0,.int .i64 a0_1,.int .i64 a0_2] 66 (0,0)) (by (with_reducible repeat (first|refine zG ?_ _|refine zM ?_|refine zH ?_ _));refine blk_far ?_ NB121_142.out _;(with_reducible repeat (first|refine zG ?_ _|refine zM ?_|refine zH ?_ _));refine blk_far ?_ NB121_142.out _;(with_reducible repeat (first|refine zG ?_ _|refine zM ?_|refine zH ?_ _));exact BK121.out) hb);have n3_:=zy.mk (zaM (g:=gb132) (o:= .cells #[.int .i64 t129,.int .i64 t130] 30 (0,0)) (by (with_reducible repeat (first|refine zG ?_ _|refine zM ?_|refine zH ?_ _));refine blk_far ?_ NB132_142.out _;(with_reducible repeat (first|refine zG ?_ _|refine zM ?_|refine zH ?_ _));refine blk_far ?_ NB132_142.out _;(with_reducible repeat (first|refine zG ?_ _|refine zM ?_|refine zH ?_ _));exact BK132.out) hb);have n4_:=zy.mk (zaM (g:=gb142) (o:= .cells #[.int .i64 t139,.int .i64 t140] 30 (0,0)) (by (with_reducible repeat (first|refine zG ?_ _|refine zM ?_|refine zH ?_ _));refine blk_put (cs:=#[.int .i64 t139,.int .i64 0]) ?_ 1 _ rfl;(with_reducible repeat (first|refine zG ?_ _|refine zM ?_|refine zH ?_ _));refine blk_put (cs:=#[.int .i64 0,.int .i64 0]) ?_ 0 _ rfl;(with_reducible repeat (first|refine zG ?_ _|refine zM ?_|refine zH ?_ _));exact BK142.out) hb);have n5_:=zy.mk (zaF (by repeat (first|(with_reducible first|exact HB.out|apply zm|apply zh|apply zo|refine zB ?_ GE121.out|refine zB ?_ GE132.out|refine zB ?_ GE142.out)|exact HB.out)) hb);clear HO128;clear HO135;clear BK121;clear BK132;clear BK142;clear HB;have HO128:=n0_;have HO135:=n1_;have BK121:=n2_;have BK132:=n3_;have BK142:=n4_;have HB:=n5_;clear n0_ n1_ n2_ n3_ n4_ n5_;(try clear hb);(try clear hb2);(try clear hk);(try clear hi)))
    go_meet
    case rel=>exact ⟨_,((t141 != t131)),(by first|rfl|(simp;done)|(simp [*];done)),H',⟨by first|omega|exact Nat.le_refl _⟩,⟨by (with_reducible repeat (first|apply Kd.zdb|apply Kd.zda|apply Kd.ze6));exact Kd.R_mono HO135.out (fun _ hk=>trivial)⟩,⟨by (with_reducible repeat (first|refine zG ?_ _|refine zM ?_|refine zH ?_ _));exact BK121.out⟩,⟨by (with_reducible repeat (first|refine zG ?_ _|refine zM ?_|refine zH ?_ _));exact BK132.out⟩,⟨by (with_reducible repeat (first|refine zG ?_ _|refine zM ?_|refine zH ?_ _));exact BK142.out⟩,⟨by repeat (first|(with_reducible first|exact HB.out|apply zm|apply zh|apply zo|refine zB ?_ GE121.out|refine zB ?_ GE132.out|refine zB ?_ GE142.out)|exact HB.out)⟩⟩
   ·replace c33:=Bool.eq_false_iff.mpr c33
    subst c33
    have H1:(zJ.j0 k l1 t133 true)=some r:=by rw [if_neg (show ¬(false=true) by decide)] at H;exact H
    clear H
    have H:=H1
    clear H1
    have H':=zy.mk H
    clear H
    have hnb40:=NB142_121.out
    have hnc40:=NB121_142.out
    have hnb41:=NB142_132.out
    have hnc41:=NB132_142.out
    have hcz42_0:w28.cell? ⟨gb142,0,none⟩=some (.int .i64 0):=(zaB BK142.out 0).trans rfl
    have hcz42_1:w28.cell? ⟨gb142,1,none⟩=some (.int .i64 0):=(zaB BK142.out 1).trans rfl
    have hfz42_0:=zab BK142.out 0
    have hfz42_1:=zab BK142.out 1
    have hnb43:=NB132_121.out
    have hnc43:=NB121_132.out
    have hcz44_0:w28.cell? ⟨gb132,0,none⟩=some (.int .i64 t129):=(zaB BK132.out 0).trans rfl
    have hcz44_1:w28.cell? ⟨gb132,1,none⟩=some (.int .i64 t130):=(zaB BK132.out 1).trans rfl
    have hfz44_0:=zab BK132.out 0
    have hfz44_1:=zab BK132.out 1
    go_wp2_with (first|((with_reducible refine zcE (f:=51) rfl ?_);refine goesL_ (some 39) rfl rfl Tryz.func51 (by kernel_rfl) rfl #[.agg #[.int .i64 t139,.int .i64 t140],.agg #[.int .i64 t129,.int .i64 t130]] rfl (by (try simp only [List.map_toArray,List.map_cons,List.map_nil]);first|done|rfl|(simp only [List.length_drop,List.length_take];rfl)) ?_;(with_reducible refine (zbq.calls t139 t140 t129 t130 false _ A32.out).mono ?_);rintro e w45 ⟨rfl,hb⟩;refine ⟨_,rfl,?_⟩;have n0_:=zy.mk (Kd.zfM (by (with_reducible repeat (first|apply Kd.zdb|apply Kd.zda|apply Kd.ze6));exact (Kd.R_mono (Kd.R_far (p:=⟨gb142,1,none⟩) (Kd.R_far (p:=⟨gb142,0,none⟩) (Kd.R_types HO128.out BK142.out (by decide)) (fun _ hk=>hk.2) (.int .i64 t139)) (fun _ hk=>hk.2) (.int .i64 t140)) (fun _ h_=>h_.1))) hb);have n1_:=zy.mk (Kd.zfM (by (with_reducible repeat (first|apply Kd.zdb|apply Kd.zda|apply Kd.ze6));exact (Kd.R_mono (Kd.R_far (p:=⟨gb142,1,none⟩) (Kd.R_far (p:=⟨gb142,0,none⟩) (Kd.R_types HO135.out BK142.out (by decide)) (fun _ hk=>hk.2) (.int .i64 t139)) (fun _ hk=>hk.2) (.int .i64 t140)) (fun _ h_=>h_.1))) hb);have n2_:=zy.mk (zaM (g:=gb121) (o:= .cells #[.int .i64 a0_0,.int .i64 a0_1,.int .i64 a0_2] 66 (0,0)) (by (with_reducible repeat (first|refine zG ?_ _|refine zM ?_|refine zH ?_ _));refine blk_far ?_ NB121_142.out _;(with_reducible repeat (first|refine zG ?_ _|refine zM ?_|refine zH ?_ _));refine blk_far ?_ NB121_142.out _;(with_reducible repeat (first|refine zG ?_ _|refine zM ?_|refine zH ?_ _));exact BK121.out) hb);have n3_:=zy.mk (zaM (g:=gb132) (o:= .cells #[.int .i64 t129,.int .i64 t130] 30 (0,0)) (by (with_reducible repeat (first|refine zG ?_ _|refine zM ?_|refine zH ?_ _));refine blk_far ?_ NB132_142.out _;(with_reducible repeat (first|refine zG ?_ _|refine zM ?_|refine zH ?_ _));refine blk_far ?_ NB132_142.out _;(with_reducible repeat (first|refine zG ?_ _|refine zM ?_|refine zH ?_ _));exact BK132.out) hb);have n4_:=zy.mk (zaM (g:=gb142) (o:= .cells #[.int .i64 t139,.int .i64 t140] 30 (0,0)) (by (with_reducible repeat (first|refine zG ?_ _|refine zM ?_|refine zH ?_ _));refine blk_put (cs:=#[.int .i64 t139,.int .i64 0]) ?_ 1 _ rfl;(with_reducible repeat (first|refine zG ?_ _|refine zM ?_|refine zH ?_ _));refine blk_put (cs:=#[.int .i64 0,.int .i64 0]) ?_ 0 _ rfl;(with_reducible repeat (first|refine zG ?_ _|refine zM ?_|refine zH ?_ _));exact BK142.out) hb);have n5_:=zy.mk (zaF (by repeat (first|(with_reducible first|exact HB.out|apply zm|apply zh|apply zo|refine zB ?_ GE121.out|refine zB ?_ GE132.out|refine zB ?_ GE142.out)|exact HB.out)) hb);clear HO128;clear HO135;clear BK121;clear BK132;clear BK142;clear HB;have HO128:=n0_;have HO135:=n1_;have BK121:=n2_;have BK132:=n3_;have BK142:=n4_;have HB:=n5_;clear n0_ n1_ n2_ n3_ n4_ n5_;(try clear hb);(try clear hb2);(try clear hk);(try clear hi)))
    go_meet
    case rel=>exact ⟨_,(true),(by first|rfl|(simp;done)|(simp [*];done)),H',⟨by first|omega|exact Nat.le_refl _⟩,⟨by (with_reducible repeat (first|apply Kd.zdb|apply Kd.zda|apply Kd.ze6));exact Kd.R_mono HO135.out (fun _ hk=>trivial)⟩,⟨by (with_reducible repeat (first|refine zG ?_ _|refine zM ?_|refine zH ?_ _));exact BK121.out⟩,⟨by (with_reducible repeat (first|refine zG ?_ _|refine zM ?_|refine zH ?_ _));exact BK132.out⟩,⟨by (with_reducible repeat (first|refine zG ?_ _|refine zM ?_|refine zH ?_ _));exact BK142.out⟩,⟨by repeat (first|(with_reducible first|exact HB.out|apply zm|apply zh|apply zo|refine zB ?_ GE121.out|refine zB ?_ GE132.out|refine zB ?_ GE142.out)|exact HB.out)⟩⟩
  case rest=>
   clear HC13
   try clear c1
   try clear c2
   try clear p2
   try clear c3
   try clear c4
   try clear c5
   try clear c5b0
   try clear c6
   try clear c12
   try clear c21
   try clear c29
   try clear c30
   try clear c33
   try clear c34
   try clear c35
   try clear c37
   try clear c40
   try clear c41
   try clear c43
   try clear c45
   try clear hcz15_0
   try clear hcz15_1
   try clear hcz15_2
   try clear hcz22_0
   try clear hcz22_1
   try clear hcz24_0
   try clear hcz24_1
   try clear hcz24_2
   try clear hcz31_0
   try clear hcz31_1
   try clear hcz36_0
   try clear hcz36_1
   try clear hcz38_0
   try clear hcz38_1
   try clear hcz42_0
   try clear hcz42_1
   try clear hcz44_0
   try clear hcz44_1
   try clear hfz15_0
   try clear hfz15_1
   try clear hfz15_2
   try clear hfz22_0
   try clear hfz22_1
   try clear hfz24_0
   try clear hfz24_1
   try clear hfz24_2
   try clear hfz31_0
   try clear hfz31_1
   try clear hfz36_0
   try clear hfz36_1
   try clear hfz38_0
   try clear hfz38_1
   try clear hfz42_0
   try clear hfz42_1
   try clear hfz44_0
   try clear hfz44_1
   obtain ⟨kq,x45_12,rfl,HA,HJ12,HO_10,BK121,BK132,BK142,HB⟩:=hcut
   cases kq with
   | zero=>exact absurd HA.out (by simp [zJ.j0])
   | succ kj12=>
    have H:=HA.out
    clear HA
    simp only [zJ.j0] at H
    by_cases c46:x45_12=true
    ·subst c46
     have H1:(some false)=some r:=by rw [if_pos rfl] at H;exact H
     clear H
     have H:=H1
     clear H1
     obtain rfl:=Option.some.inj H
     go_wp2
     go_ret
     exact ⟨by first|rfl|(simp [zbf,zbe]<;>rfl)|(simp [*,zbf,zbe]<;>rfl),by repeat (first|(with_reducible first|exact HB.out|apply zm|apply zh|apply zo|refine zB ?_ GE121.out|refine zB ?_ GE132.out|refine zB ?_ GE142.out)|exact HB.out)⟩
    ·replace c46:=Bool.eq_false_iff.mpr c46
     subst c46
     have H1:((zV.f kj12 l1).bind fun t144=>((zat.f kj12 t133 t144).bind fun t147=>(if t147=true then (some true) else (some false))))=some r:=by rw [if_neg (show ¬(false=true) by decide)] at H;exact H
     clear H
     have H:=H1
     clear H1
     replace H:=Option.bind_eq_some_iff.mp H
     obtain ⟨t144,A470,H⟩:=H
     replace H:((zat.f kj12 t133 t144).bind fun t147=>(if t147=true then (some true) else (some false)))=some r:=H
     have A47:=zy.mk A470
     clear A470
     replace H:=Option.bind_eq_some_iff.mp H
     obtain ⟨t147,A480,H⟩:=H
     replace H:(if t147=true then (some true) else (some false))=some r:=H
     have A48:=zy.mk A480
     clear A480
     by_cases c49:t147=true
     ·subst c49
      have H1:(some true)=some r:=by rw [if_pos rfl] at H;exact H
      clear H
      have H:=H1
      clear H1
      obtain rfl:=Option.some.inj H
      go_wp2_with (first|((with_reducible refine zcE (f:=65) rfl ?_);refine goesL_ (some 48) rfl rfl Tryz.func65 (by kernel_rfl) rfl #[.slice A1 l1.length c1] rfl (by (try simp only [List.map_toArray,List.map_cons,List.map_nil]);first|done|rfl|(simp only [List.length_drop,List.length_take];rfl)) ?_;(with_reducible refine (zV.calls kj12 _ _ l1 t144 _ ?side1 ?side2 A47.out).mono ?_);(case side1=>repeat (first|exact (Kd.C_below HR1.out HB.out)|(with_reducible refine Kd.C_alloc ?_ _)|(with_reducible refine Kd.C_drewN ?_ _)|(with_reducible refine Kd.C_drew ?_)));(case side2=>exact HC1.out);rintro e w50 ⟨v145,rfl,ho0,hb⟩;refine ⟨_,rfl,?_⟩;have n0_:=zy.mk (Kd.R_elder' (by (with_reducible repeat (first|apply Kd.zdb|apply Kd.zda|apply Kd.ze6));exact HO_10.out) (Kd.R_base ho0) hb);have n1_:=zy.mk (Kd.R_lower (Kd.R_new' ho0 (Kd.R_lt (by (with_reducible repeat (first|apply Kd.zdb|apply Kd.zda|apply Kd.ze6));exact HO_10.out))) (zam (by repeat (first|(with_reducible first|exact HB.out|apply zm|apply zh|apply zo|refine zB ?_ GE121.out|refine zB ?_ GE132.out|refine zB ?_ GE142.out)|exact HB.out))));have n2_:=zy.mk (zaM (g:=gb121) (o:= .cells #[.int .i64 a0_0,.int .i64 a0_1,.int .i64 a0_2] 66 (0,0)) (by (with_reducible repeat (first|refine zG ?_ _|refine zM ?_|refine zH ?_ _));exact BK121.out) hb);have n3_:=zy.mk (zaM (g:=gb132) (o:= .cells #[.int .i64 t129,.int .i64 t130] 30 (0,0)) (by (with_reducible repeat (first|refine zG ?_ _|refine zM ?_|refine zH ?_ _));exact BK132.out) hb);have n4_:=zy.mk (zaM (g:=gb142) (o:= .cells #[.int .i64 t139,.int .i64 t140] 30 (0,0)) (by (with_reducible repeat (first|refine zG ?_ _|refine zM ?_|refine zH ?_ _));exact BK142.out) hb);have n5_:=zy.mk (zaF (by repeat (first|(with_reducible first|exact HB.out|apply zm|apply zh|apply zo|refine zB ?_ GE121.out|refine zB ?_ GE132.out|refine zB ?_ GE142.out)|exact HB.out)) hb);clear HO_10;clear BK121;clear BK132;clear BK142;clear HB;have HO_10:=n0_;have HO146:=n1_;have BK121:=n2_;have BK132:=n3_;have BK142:=n4_;have HB:=n5_;clear n0_ n1_ n2_ n3_ n4_ n5_;(try clear hb);(try clear hb2);(try clear hk);(try clear hi);(try clear ho0);obtain ⟨Ao51,co51,eo51⟩:=Kd.R_slice HO146.out;subst eo51)|((with_reducible refine zcE (f:=67) rfl ?_);refine goesL_ (some 49) rfl rfl Tryz.func67 (by kernel_rfl) rfl #[.slice Ao26 t133.length co26,.slice Ao51 t144.length co51] rfl (by (try simp only [List.map_toArray,List.map_cons,List.map_nil]);first|done|rfl|(simp only [List.length_drop,List.length_take];rfl)) ?_;(with_reducible refine (zat.calls kj12 _ _ t133 _ _ t144 true _ ?side1 ?side2 ?side3 ?side4 A48.out).mono ?_);(case side1=>repeat (first|exact (Kd.zfx HO_10.out).2.2|(with_reducible refine Kd.C_alloc ?_ _)|(with_reducible refine Kd.C_drewN ?_ _)|(with_reducible refine Kd.C_drew ?_)));(case side2=>exact (Kd.zfx HO_10.out).2.1);(case side3=>repeat (first|exact (Kd.zfx HO146.out).2.2|(with_reducible refine Kd.C_alloc ?_ _)|(with_reducible refine Kd.C_drewN ?_ _)|(with_reducible refine Kd.C_drew ?_)));(case side4=>exact (Kd.zfx HO146.out).2.1);rintro e w52 ⟨rfl,hb⟩;refine ⟨_,rfl,?_⟩;have n0_:=zy.mk (Kd.zfM (by (with_reducible repeat (first|apply Kd.zdb|apply Kd.zda|apply Kd.ze6));exact HO_10.out) hb);have n1_:=zy.mk (Kd.zfM (by (with_reducible repeat (first|apply Kd.zdb|apply Kd.zda|apply Kd.ze6));exact HO146.out) hb);have n2_:=zy.mk (zaM (g:=gb121) (o:= .cells #[.int .i64 a0_0,.int .i64 a0_1,.int .i64 a0_2] 66 (0,0)) (by (with_reducible repeat (first|refine zG ?_ _|refine zM ?_|refine zH ?_ _));exact BK121.out) hb);have n3_:=zy.mk (zaM (g:=gb132) (o:= .cells #[.int .i64 t129,.int .i64 t130] 30 (0,0)) (by (with_reducible repeat (first|refine zG ?_ _|refine zM ?_|refine zH ?_ _));exact BK132.out) hb);have n4_:=zy.mk (zaM (g:=gb142) (o:= .cells #[.int .i64 t139,.int .i64 t140] 30 (0,0)) (by (with_reducible repeat (first|refine zG ?_ _|refine zM ?_|refine zH ?_ _));exact BK142.out) hb);have n5_:=zy.mk (zaF (by repeat (first|(with_reducible first|exact HB.out|apply zm|apply zh|apply zo|refine zB ?_ GE121.out|refine zB ?_ GE132.out|refine zB ?_ GE142.out)|exact HB.out)) hb);clear HO_10;clear HO146;clear BK121;clear BK132;clear BK142;clear HB;have HO_10:=n0_;have HO146:=n1_;have BK121:=n2_;have BK132:=n3_;have BK142:=n4_;have HB:=n5_;clear n0_ n1_ n2_ n3_ n4_ n5_;(try clear hb);(try clear hb2);(try clear hk);(try clear hi)))
      go_ret
      exact ⟨by first|rfl|(simp [zbf,zbe]<;>rfl)|(simp [*,zbf,zbe]<;>rfl),by repeat (first|(with_reducible first|exact HB.out|apply zm|apply zh|apply zo|refine zB ?_ GE121.out|refine zB ?_ GE132.out|refine zB ?_ GE142.out)|exact HB.out)⟩
     ·replace c49:=Bool.eq_false_iff.mpr c49
      subst c49
      have H1:(some false)=some r:=by rw [if_neg (show ¬(false=true) by decide)] at H;exact H
      clear H
      have H:=H1
      clear H1
      obtain rfl:=Option.some.inj H
      go_wp2_with (first|((with_reducible refine zcE (f:=65) rfl ?_);refine goesL_ (some 48) rfl rfl Tryz.func65 (by kernel_rfl) rfl #[.slice A1 l1.length c1] rfl (by (try simp only [List.map_toArray,List.map_cons,List.map_nil]);first|done|rfl|(simp only [List.length_drop,List.length_take];rfl)) ?_;(with_reducible refine (zV.calls kj12 _ _ l1 t144 _ ?side1 ?side2 A47.out).mono ?_);(case side1=>repeat (first|exact (Kd.C_below HR1.out HB.out)|(with_reducible refine Kd.C_alloc ?_ _)|(with_reducible refine Kd.C_drewN ?_ _)|(with_reducible refine Kd.C_drew ?_)));(case side2=>exact HC1.out);rintro e w53 ⟨v145,rfl,ho0,hb⟩;refine ⟨_,rfl,?_⟩;have n0_:=zy.mk (Kd.R_elder' (by (with_reducible repeat (first|apply Kd.zdb|apply Kd.zda|apply Kd.ze6));exact HO_10.out) (Kd.R_base ho0) hb);have n1_:=zy.mk (Kd.R_lower (Kd.R_new' ho0 (Kd.R_lt (by (with_reducible repeat (first|apply Kd.zdb|apply Kd.zda|apply Kd.ze6));exact HO_10.out))) (zam (by repeat (first|(with_reducible first|exact HB.out|apply zm|apply zh|apply zo|refine zB ?_ GE121.out|refine zB ?_ GE132.out|refine zB ?_ GE142.out)|exact HB.out))));have n2_:=zy.mk (zaM (g:=gb121) (o:= .cells #[.int .i64 a0_0,.int .i64 a0_1,.int .i64 a0_2] 66 (0,0)) (by (with_reducible repeat (first|refine zG ?_ _|refine zM ?_|refine zH ?_ _));exact BK121.out) hb);have n3_:=zy.mk (zaM (g:=gb132) (o:= .cells #[.int .i64 t129,.int .i64 t130] 30 (0,0)) (by (with_reducible repeat (first|refine zG ?_ _|refine zM ?_|refine zH ?_ _));exact BK132.out) hb);have n4_:=zy.mk (zaM (g:=gb142) (o:= .cells #[.int .i64 t139,.int .i64 t140] 30 (0,0)) (by (with_reducible repeat (first|refine zG ?_ _|refine zM ?_|refine zH ?_ _));exact BK142.out) hb);have n5_:=zy.mk (zaF (by repeat (first|(with_reducible first|exact HB.out|apply zm|apply zh|apply zo|refine zB ?_ GE121.out|refine zB ?_ GE132.out|refine zB ?_ GE142.out)|exact HB.out)) hb);clear HO_10;clear BK121;clear BK132;clear BK142;clear HB;have HO_10:=n0_;have HO146:=n1_;have BK121:=n2_;have BK132:=n3_;have BK142:=n4_;have HB:=n5_;clear n0_ n1_ n2_ n3_ n4_ n5_;(try clear hb);(try clear hb2);(try clear hk);(try clear hi);(try clear ho0);obtain ⟨Ao54,co54,eo54⟩:=Kd.R_slice HO146.out;subst eo54)|((with_reducible refine zcE (f:=67) rfl ?_);refine goesL_ (some 49) rfl rfl Tryz.func67 (by kernel_rfl) rfl #[.slice Ao26 t133.length co26,.slice Ao54 t144.length co54] rfl (by (try simp only [List.map_toArray,List.map_cons,List.map_nil]);first|done|rfl|(simp only [List.length_drop,List.length_take];rfl)) ?_;(with_reducible refine (zat.calls kj12 _ _ t133 _ _ t144 false _ ?side1 ?side2 ?side3 ?side4 A48.out).mono ?_);(case side1=>repeat (first|exact (Kd.zfx HO_10.out).2.2|(with_reducible refine Kd.C_alloc ?_ _)|(with_reducible refine Kd.C_drewN ?_ _)|(with_reducible refine Kd.C_drew ?_)));(case side2=>exact (Kd.zfx HO_10.out).2.1);(case side3=>repeat (first|exact (Kd.zfx HO146.out).2.2|(with_reducible refine Kd.C_alloc ?_ _)|(with_reducible refine Kd.C_drewN ?_ _)|(with_reducible refine Kd.C_drew ?_)));(case side4=>exact (Kd.zfx HO146.out).2.1);rintro e w55 ⟨rfl,hb⟩;refine ⟨_,rfl,?_⟩;have n0_:=zy.mk (Kd.zfM (by (with_reducible repeat (first|apply Kd.zdb|apply Kd.zda|apply Kd.ze6));exact HO_10.out) hb);have n1_:=zy.mk (Kd.zfM (by (with_reducible repeat (first|apply Kd.zdb|apply Kd.zda|apply Kd.ze6));exact HO146.out) hb);have n2_:=zy.mk (zaM (g:=gb121) (o:= .cells #[.int .i64 a0_0,.int .i64 a0_1,.int .i64 a0_2] 66 (0,0)) (by (with_reducible repeat (first|refine zG ?_ _|refine zM ?_|refine zH ?_ _));exact BK121.out) hb);have n3_:=zy.mk (zaM (g:=gb132) (o:= .cells #[.int .i64 t129,.int .i64 t130] 30 (0,0)) (by (with_reducible repeat (first|refine zG ?_ _|refine zM ?_|refine zH ?_ _));exact BK132.out) hb);have n4_:=zy.mk (zaM (g:=gb142) (o:= .cells #[.int .i64 t139,.int .i64 t140] 30 (0,0)) (by (with_reducible repeat (first|refine zG ?_ _|refine zM ?_|refine zH ?_ _));exact BK142.out) hb);have n5_:=zy.mk (zaF (by repeat (first|(with_reducible first|exact HB.out|apply zm|apply zh|apply zo|refine zB ?_ GE121.out|refine zB ?_ GE132.out|refine zB ?_ GE142.out)|exact HB.out)) hb);clear HO_10;clear HO146;clear BK121;clear BK132;clear BK142;clear HB;have HO_10:=n0_;have HO146:=n1_;have BK121:=n2_;have BK132:=n3_;have BK142:=n4_;have HB:=n5_;clear n0_ n1_ n2_ n3_ n4_ n5_;(try clear hb);(try clear hb2);(try clear hk);(try clear hi)))
      go_ret
      exact ⟨by first|rfl|(simp [zbf,zbe]<;>rfl)|(simp [*,zbf,zbe]<;>rfl),by repeat (first|(with_reducible first|exact HB.out|apply zm|apply zh|apply zo|refine zB ?_ GE121.out|refine zB ?_ GE132.out|refine zB ?_ GE142.out)|exact HB.out)⟩
end Go.Proofs.YtkenfaengphiiaaGreat.PFnExactPathLength
