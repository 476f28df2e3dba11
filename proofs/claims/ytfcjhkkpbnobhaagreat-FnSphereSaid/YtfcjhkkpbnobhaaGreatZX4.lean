/- The law FnSphere gives true, whatever bytes come in. No conditions. (One of the texts of its proof, put together by a program of this session.) -/
import Derived.Test.YtfcjhkkpbnobhaaGreatZX0
import Derived.Test.YtfcjhkkpbnobhaaGreatZX2
import Derived.Test.YtfcjhkkpbnobhaaGreatZX3
set_option linter.unusedSimpArgs false
set_option linter.unusedVariables false
noncomputable section
namespace Go.Proofs.YtfcjhkkpbnobhaaGreat.PFnSphere
open Go.RowKit Go.Proofs.YtfcjhkkpbnobhaaGreatW.PrintWords Go.Proofs.YtfcjhkkpbnobhaaGreatW.PrintLast Go.Proofs.YtfcjhkkpbnobhaaGreatW.PrintMore
mutual
def zH.j0:Nat->Int->Int->Bool->Int->Int->Int->Int->Int->Int->Int->Int->Int->Int->Option (Bool)
 | 0,_,_,_,_,_,_,_,_,_,_,_,_,_=>none
 | k+1,x7,x9,x46,x200000,x200001,x201000,x201001,x202000,x202001,x206000,x206001,x210000,x210001=>if x46=true then ((zbO.f x200000 x200001 x201000 x201001).bind fun bt210=>(if x7=bt210.2.2 then (some (x9==bt210.2.2)) else (some false))) else ((zcZ.f x200000 x200001).bind fun bt214=>((zX.f bt214.1 bt214.2.1 x201000 x201001).bind fun bt218=>((zX.f x200000 x200001 x202000 x202001).bind fun bt222=>((zX.f x202000 x202001 x201000 x201001).bind fun bt226=>((zaI.f x206000 x206001 x210000 x210001).bind fun t230=>(if t230=true then (if bt218.2.2=0 then ((zcF.f x206000 x206001 bt218.1 bt218.2.1).bind fun bt231=>((zeo.f).bind fun bt233=>((zaI.f bt231.1 bt231.2 bt233.1 bt233.2).bind fun t235=>(zH.j1 k bt222.2.2 bt226.2.2 (!t235) x206000 x206001 bt222.1 bt222.2.1 bt226.1 bt226.2.1)))) else (zH.j1 k bt222.2.2 bt226.2.2 false x206000 x206001 bt222.1 bt222.2.1 bt226.1 bt226.2.1)) else (some false)))))))
def zH.j1:Nat->Int->Int->Bool->Int->Int->Int->Int->Int->Int->Option (Bool)
 | 0,_,_,_,_,_,_,_,_,_=>none
 | k+1,x17,x19,x97,x206000,x206001,x226000,x226001,x230000,x230001=>if x97=true then (some false) else (if x17=0 then (if x19=0 then ((zcF.f x226000 x226001 x230000 x230001).bind fun bt236=>((zfx.f bt236.1 bt236.2 x206000 x206001).bind fun t238=>(some (t238 != 1)))) else (some true)) else (some true))
end
def zH.f (k:Nat) (l0:List Int):Option (Bool):=if (l0.length:Int)>1048576 then (some true) else ((zax.f k l0).bind fun bt193=>((zX.f bt193.1 bt193.2.1 bt193.2.2.1 bt193.2.2.2.1).bind fun bt202=>((zX.f bt193.2.2.1 bt193.2.2.2.1 bt193.1 bt193.2.1).bind fun bt206=>(if bt202.2.2=0 then (zH.j0 k bt202.2.2 bt206.2.2 (bt206.2.2 != 0) bt193.1 bt193.2.1 bt193.2.2.1 bt193.2.2.2.1 bt193.2.2.2.2.1 bt193.2.2.2.2.2 bt202.1 bt202.2.1 bt206.1 bt206.2.1) else (zH.j0 k bt202.2.2 bt206.2.2 true bt193.1 bt193.2.1 bt193.2.2.1 bt193.2.2.2.1 bt193.2.2.2.2.1 bt193.2.2.2.2.2 bt202.1 bt202.2.1 bt206.1 bt206.2.1)))))
def zH.T17:Bool×List (List Nat×List Nat):=(true,[([],[]),([0],[0]),([1],[1]),([2],[2]),([3,2],[2,3]),([2,4],[2,4]),([5,2],[5]),([6],[6]),([6],[6]),([7,8,6,6],[6,7,8]),([6],[6]),([9,10,9,6],[6,9,10]),([11,6],[6,11]),([6,12],[6,12]),([13,11,0,1,2,3,4,5,6,7,8,9,10,11,12,13],[13])])
def zH.B17:List Nat:= [0,1,3,7,15,31,63,127,127,511,127,2047,4095,8191,16383]
theorem zH.tab17:rtab .any (opsOf Tryz.f5 17)=zH.T17:=by kernel_rfl
theorem zH.bits17:waitsOk zH.T17.2 zH.B17=true:=by kernel_rfl
set_option maxHeartbeats 8000000 in
set_option maxRecDepth 100000 in
theorem zH.calls (k:Nat) (A0:Option Addr) (c0:Nat) (l0:List Int) (r:Bool) (w:World) (hr0:Kd.C (Kd.int .u8) w A0 l0.length l0) (hc0:l0.length<=c0) (h:zH.f k l0=some r):
  Calls Tryz.prog 5 #[.slice A0 l0.length c0] w fun e w'=>e= .returned (.bool r)/\Below w.heap.size w w':=by
 have hu24:=Tryz.underlying24
 have hu30:=Tryz.underlying30
 have HR0:=zk.mk hr0
 have HC0:=zk.mk hc0
 clear hr0 hc0
 have HB:=zk.mk (Below.refl w.heap.size w)
 have H:(if (l0.length:Int)>1048576 then (some true) else ((zax.f k l0).bind fun bt193=>((zX.f bt193.1 bt193.2.1 bt193.2.2.1 bt193.2.2.2.1).bind fun bt202=>((zX.f bt193.2.2.1 bt193.2.2.2.1 bt193.1 bt193.2.1).bind fun bt206=>(if bt202.2.2=0 then (zH.j0 k bt202.2.2 bt206.2.2 (bt206.2.2 != 0) bt193.1 bt193.2.1 bt193.2.2.1 bt193.2.2.2.1 bt193.2.2.2.2.1 bt193.2.2.2.2.2 bt202.1 bt202.2.1 bt206.1 bt206.2.1) else (zH.j0 k bt202.2.2 bt206.2.2 true bt193.1 bt193.2.1 bt193.2.2.1 bt193.2.2.2.1 bt193.2.2.2.2.1 bt193.2.2.2.2.2 bt202.1 bt202.2.1 bt206.1 bt206.2.1))))))=some r:=h
 clear h
 by_cases c2:(l0.length:Int)>1048576
 ·rw [if_pos c2] at H
  have c2b0:decide (1048576<(l0.length:Int))=true:=decide_eq_true c2
  have c2b1:decide (1048576<l0.length)=true:=decide_eq_true (by omega)
  clear c2
  obtain rfl:=Option.some.inj H
  go_enter Tryz.func5,Tryz.ntmps5
  go_wp2
  go_ret
  exact ⟨by first|rfl|(simp [zal,zak]<;>rfl)|(simp [*,zal,zak]<;>rfl),by repeat (first|(with_reducible first|exact HB.out|apply zq|apply zm|apply zo)|exact HB.out)⟩
 ·rw [if_neg c2] at H
  have c2b0:decide (1048576<(l0.length:Int))=false:=decide_eq_false c2
  have c2b1:decide (1048576<l0.length)=false:=decide_eq_false (by omega)
  clear c2
  replace H:=Option.bind_eq_some_iff.mp H
  obtain ⟨⟨t193,t194,t195,t196,t197,t198⟩,A30,H⟩:=H
  replace H:((zX.f t193 t194 t195 t196).bind fun bt202=>((zX.f t195 t196 t193 t194).bind fun bt206=>(if bt202.2.2=0 then (zH.j0 k bt202.2.2 bt206.2.2 (bt206.2.2 != 0) t193 t194 t195 t196 t197 t198 bt202.1 bt202.2.1 bt206.1 bt206.2.1) else (zH.j0 k bt202.2.2 bt206.2.2 true t193 t194 t195 t196 t197 t198 bt202.1 bt202.2.1 bt206.1 bt206.2.1))))=some r:=H
  have A3:=zk.mk A30
  clear A30
  replace H:=Option.bind_eq_some_iff.mp H
  obtain ⟨⟨t202,t203,t204⟩,A40,H⟩:=H
  replace H:((zX.f t195 t196 t193 t194).bind fun bt206=>(if t204=0 then (zH.j0 k t204 bt206.2.2 (bt206.2.2 != 0) t193 t194 t195 t196 t197 t198 t202 t203 bt206.1 bt206.2.1) else (zH.j0 k t204 bt206.2.2 true t193 t194 t195 t196 t197 t198 t202 t203 bt206.1 bt206.2.1)))=some r:=H
  have A4:=zk.mk A40
  clear A40
  replace H:=Option.bind_eq_some_iff.mp H
  obtain ⟨⟨t206,t207,t208⟩,A50,H⟩:=H
  replace H:(if t204=0 then (zH.j0 k t204 t208 (t208 != 0) t193 t194 t195 t196 t197 t198 t202 t203 t206 t207) else (zH.j0 k t204 t208 true t193 t194 t195 t196 t197 t198 t202 t203 t206 t207))=some r:=H
  have A5:=zk.mk A50
  clear A50
  have HC6:=zk.mk H
  clear H
  go_enter Tryz.func5,Tryz.ntmps5
  go_upto_region 6 with (first|((with_reducible refine zai (f:=12) rfl ?_);refine zbB (some 25) rfl rfl Tryz.func12 (by kernel_rfl) rfl #[.slice A0 l0.length c0] rfl (by (try simp only [List.map_toArray,List.map_cons,List.map_nil]);first|done|rfl|(simp only [List.length_drop,List.length_take];rfl)) ?_;(with_reducible refine (zax.calls k _ _ l0 t193 t194 t195 t196 t197 t198 _ ?side1 ?side2 A3.out).mono ?_);(case side1=>repeat (first|exact HR0.out|(with_reducible refine Kd.C_alloc ?_ _)|(with_reducible refine Kd.C_drewN ?_ _)|(with_reducible refine Kd.C_drew ?_)));(case side2=>exact HC0.out);rintro e w7 ⟨rfl,hb⟩;refine ⟨_,rfl,?_⟩;have n0_:=zk.mk (zaq (by repeat (first|(with_reducible first|exact HB.out|apply zq|apply zm|apply zo)|exact HB.out)) hb);clear HB;have HB:=n0_;clear n0_;(try clear hb);(try clear hb2);(try clear hk);(try clear hi))|((with_reducible refine zbC (N:=3) rfl ?_);refine zbz ?hg (N:=3) ?hd (cs:=#[.int .i64 0,.int .i64 0]) (t:=24) ?hr ?_;(case hd=>rfl);(case hg=>rfl);(case hr=>first|(go_simp;done)|(go_simp;rfl));intro gb199 hg w8 hbox hb;have n0_:=zk.mk (zaq (by repeat (first|(with_reducible first|exact HB.out|apply zq|apply zm|apply zo)|exact HB.out)) hb);have n1_:=zk.mk (hbox);have n2_:=zk.mk ((by rw [hg];exact (zas (by repeat (first|(with_reducible first|exact HB.out|apply zq|apply zm|apply zo)|exact HB.out))):w.heap.size<=gb199));have n3_:=zk.mk ((by rw [hg];exact (zas (by repeat (first|(with_reducible first|exact HB.out|apply zq|apply zm|apply zo)|exact HB.out))):w.heap.size<=gb199));clear HB;have HB:=n0_;have BK199:=n1_;have GW199:=n2_;have GE199:=n3_;clear n0_ n1_ n2_ n3_;clear hb hbox hg)|((with_reducible refine zbC (N:=4) rfl ?_);refine zbz ?hg (N:=4) ?hd (cs:=#[.int .i64 0,.int .i64 0]) (t:=24) ?hr ?_;(case hd=>rfl);(case hg=>rfl);(case hr=>first|(go_simp;done)|(go_simp;rfl));intro gb200 hg w9 hbox hb;have n0_:=zk.mk (zt (g:=gb199) (o:= .cells #[.int .i64 0,.int .i64 0] 24 (0,0)) (by (with_reducible repeat (first|refine za ?_ _|refine zf ?_|refine ze ?_ _));exact BK199.out) hb);have n1_:=zk.mk (zaq (by repeat (first|(with_reducible first|exact HB.out|apply zq|apply zm|apply zo|refine zh ?_ GE199.out)|exact HB.out)) hb);have n2_:=zk.mk (hbox);have n3_:=zk.mk ((by rw [hg];exact (zas (by repeat (first|(with_reducible first|exact HB.out|apply zq|apply zm|apply zo|refine zh ?_ GE199.out)|exact HB.out))):w.heap.size<=gb200));have n4_:=zk.mk ((by rw [hg];exact (zas (by repeat (first|(with_reducible first|exact HB.out|apply zq|apply zm|apply zo|refine zh ?_ GE199.out)|exact HB.out))):w.heap.size<=gb200));have n5_:=zk.mk ((by rw [hg];exact Nat.ne_of_lt (zQ (g:=gb199) (o:= .cells #[.int .i64 0,.int .i64 0] 24 (0,0)) (by (with_reducible repeat (first|refine za ?_ _|refine zf ?_|refine ze ?_ _));exact BK199.out)):gb199≠gb200));have n6_:=zk.mk ((by rw [hg];exact Nat.ne_of_gt (zQ (g:=gb199) (o:= .cells #[.int .i64 0,.int .i64 0] 24 (0,0)) (by (with_reducible repeat (first|refine za ?_ _|refine zf ?_|refine ze ?_ _));exact BK199.out)):gb200≠gb199));clear BK199;clear HB;have BK199:=n0_;have HB:=n1_;have BK200:=n2_;have GW200:=n3_;have GE200:=n4_;have NB199_200:=n5_;have NB200_199:=n6_;clear n0_ n1_ n2_ n3_ n4_ n5_ n6_;clear hb hbox hg)|((with_reducible refine zbC (N:=5) rfl ?_);refine zbz ?hg (N:=5) ?hd (cs:=#[.int .i64 0,.int .i64 0]) (t:=24) ?hr ?_;(case hd=>rfl);(case hg=>rfl);(case hr=>first|(go_simp;done)|(go_simp;rfl));intro gb201 hg w10 hbox hb;have n0_:=zk.mk (zt (g:=gb199) (o:= .cells #[.int .i64 0,.int .i64 0] 24 (0,0)) (by (with_reducible repeat (first|refine za ?_ _|refine zf ?_|refine ze ?_ _));exact BK199.out) hb);have n1_:=zk.mk (zt (g:=gb200) (o:= .cells #[.int .i64 0,.int .i64 0] 24 (0,0)) (by (with_reducible repeat (first|refine za ?_ _|refine zf ?_|refine ze ?_ _));exact BK200.out) hb);have n2_:=zk.mk (zaq (by repeat (first|(with_reducible first|exact HB.out|apply zq|apply zm|apply zo|refine zh ?_ GE199.out|refine zh ?_ GE200.out)|exact HB.out)) hb);have n3_:=zk.mk (hbox);have n4_:=zk.mk ((by rw [hg];exact (zas (by repeat (first|(with_reducible first|exact HB.out|apply zq|apply zm|apply zo|refine zh ?_ GE199.out|refine zh ?_ GE200.out)|exact HB.out))):w.heap.size<=gb201));have n5_:=zk.mk ((by rw [hg];exact (zas (by repeat (first|(with_reducible first|exact HB.out|apply zq|apply zm|apply zo|refine zh ?_ GE199.out|refine zh ?_ GE200.out)|exact HB.out))):w.heap.size<=gb201));have n6_:=zk.mk ((by rw [hg];exact Nat.ne_of_lt (zQ (g:=gb199) (o:= .cells #[.int .i64 0,.int .i64 0] 24 (0,0)) (by (with_reducible repeat (first|refine za ?_ _|refine zf ?_|refine ze ?_ _));exact BK199.out)):gb199≠gb201));have n7_:=zk.mk ((by rw [hg];exact Nat.ne_of_gt (zQ (g:=gb199) (o:= .cells #[.int .i64 0,.int .i64 0] 24 (0,0)) (by (with_reducible repeat (first|refine za ?_ _|refine zf ?_|refine ze ?_ _));exact BK199.out)):gb201≠gb199));have n8_:=zk.mk ((by rw [hg];exact Nat.ne_of_lt (zQ (g:=gb200) (o:= .cells #[.int .i64 0,.int .i64 0] 24 (0,0)) (by (with_reducible repeat (first|refine za ?_ _|refine zf ?_|refine ze ?_ _));exact BK200.out)):gb200≠gb201));have n9_:=zk.mk ((by rw [hg];exact Nat.ne_of_gt (zQ (g:=gb200) (o:= .cells #[.int .i64 0,.int .i64 0] 24 (0,0)) (by (with_reducible repeat (first|refine za ?_ _|refine zf ?_|refine ze ?_ _));exact BK200.out)):gb201≠gb200));clear BK199;clear BK200;clear HB;have BK199:=n0_;have BK200:=n1_;have HB:=n2_;have BK201:=n3_;have GW201:=n4_;have GE201:=n5_;have NB199_201:=n6_;have NB201_199:=n7_;have NB200_201:=n8_;have NB201_200:=n9_;clear n0_ n1_ n2_ n3_ n4_ n5_ n6_ n7_ n8_ n9_;clear hb hbox hg;have hnb11:=NB199_200.out;have hnc11:=NB200_199.out;have hnb12:=NB199_201.out;have hnc12:=NB201_199.out;have hcz13_0:w10.cell? ⟨gb199,0,none⟩=some (.int .i64 0):=(zy BK199.out 0).trans rfl;have hcz13_1:w10.cell? ⟨gb199,1,none⟩=some (.int .i64 0):=(zy BK199.out 1).trans rfl;have hfz13_0:=zu BK199.out 0;have hfz13_1:=zu BK199.out 1;have hnb14:=NB200_201.out;have hnc14:=NB201_200.out;have hcz15_0:w10.cell? ⟨gb200,0,none⟩=some (.int .i64 0):=(zy BK200.out 0).trans rfl;have hcz15_1:w10.cell? ⟨gb200,1,none⟩=some (.int .i64 0):=(zy BK200.out 1).trans rfl;have hfz15_0:=zu BK200.out 0;have hfz15_1:=zu BK200.out 1;have hcz16_0:w10.cell? ⟨gb201,0,none⟩=some (.int .i64 0):=(zy BK201.out 0).trans rfl;have hcz16_1:w10.cell? ⟨gb201,1,none⟩=some (.int .i64 0):=(zy BK201.out 1).trans rfl;have hfz16_0:=zu BK201.out 0;have hfz16_1:=zu BK201.out 1)|((with_reducible refine zai (f:=31) rfl ?_);refine zbB (some 32) rfl rfl Tryz.func31 (by kernel_rfl) rfl #[.agg #[.int .i64 t193,.int .i64 t194],.agg #[.int .i64 t195,.int .i64 t196]] rfl (by (try simp only [List.map_toArray,List.map_cons,List.map_nil]);first|done|rfl|(simp only [List.length_drop,List.length_take];rfl)) ?_;(with_reducible refine (zX.calls t193 t194 t195 t196 t202 t203 t204 _ A4.out).mono ?_);rintro e w17 ⟨rfl,hb⟩;refine ⟨_,rfl,?_⟩;have n0_:=zk.mk (zt (g:=gb199) (o:= .cells #[.int .i64 t193,.int .i64 t194] 24 (0,0)) (by (with_reducible repeat (first|refine za ?_ _|refine zf ?_|refine ze ?_ _));refine zw ?_ NB199_201.out _;(with_reducible repeat (first|refine za ?_ _|refine zf ?_|refine ze ?_ _));refine zw ?_ NB199_201.out _;(with_reducible repeat (first|refine za ?_ _|refine zf ?_|refine ze ?_ _));refine zw ?_ NB199_200.out _;(with_reducible repeat (first|refine za ?_ _|refine zf ?_|refine ze ?_ _));refine zw ?_ NB199_200.out _;(with_reducible repeat (first|refine za ?_ _|refine zf ?_|refine ze ?_ _));refine zaw (cs:=#[.int .i64 t193,.int .i64 0]) ?_ 1 _ rfl;(with_reducible repeat (first|refine za ?_ _|refine zf ?_|refine ze ?_ _));refine zaw (cs:=#[.int .i64 0,.int .i64 0]) ?_ 0 _ rfl;(with_reducible repeat (first|refine za ?_ _|refine zf ?_|refine ze ?_ _));exact BK199.out) hb);have n1_:=zk.mk (zt (g:=gb200) (o:= .cells #[.int .i64 t195,.int .i64 t196] 24 (0,0)) (by (with_reducible repeat (first|refine za ?_ _|refine zf ?_|refine ze ?_ _));refine zw ?_ NB200_201.out _;(with_reducible repeat (first|refine za ?_ _|refine zf ?_|refine ze ?_ _));refine zw ?_ NB200_201.out _;(with_reducible repeat (first|refine za ?_ _|refine zf ?_|refine ze ?_ _));refine zaw (cs:=#[.int .i64 t195,.int .i64 0]) ?_ 1 _ rfl;(with_reducible repeat (first|refine za ?_ _|refine zf ?_|refine ze ?_ _));refine zaw (cs:=#[.int .i64 0,.int .i64 0]) ?_ 0 _ rfl;(with_reducible repeat (first|refine za ?_ _|refine zf ?_|refine ze ?_ _));refine zw ?_ NB200_199.out _;(with_reducible repeat (first|refine za ?_ _|refine zf ?_|refine ze ?_ _));refine zw ?_ NB200_199.out _;(with_reducible repeat (first|refine za ?_ _|refine zf ?_|refine ze ?_ _));exact BK200.out) hb);have n2_:=zk.mk (zt (g:=gb201) (o:= .cells #[.int .i64 t197,.int .i64 t198] 24 (0,0)) (by (with_reducible repeat (first|refine za ?_ _|refine zf ?_|refine ze ?_ _));refine zaw (cs:=#[.int .i64 t197,.int .i64 0]) ?_ 1 _ rfl;(with_reducible repeat (first|refine za ?_ _|refine zf ?_|refine ze ?_ _));refine zaw (cs:=#[.int .i64 0,.int .i64 0]) ?_ 0 _ rfl;(with_reducible repeat (first|refine za ?_ _|refine zf ?_|refine ze ?_ _));refine zw ?_ NB201_200.out _;(with_reducible repeat (first|refine za ?_ _|refine zf ?_|refine ze ?_ _));refine zw ?_ NB201_200.out _;(with_reducible repeat (first|refine za ?_ _|refine zf ?_|refine ze ?_ _));refine zw ?_ NB201_199.out _;(with_reducible repeat (first|refine za ?_ _|refine zf ?_|refine ze ?_ _));refine zw ?_ NB201_199.out _;(with_reducible repeat (first|refine za ?_ _|refine zf ?_|refine ze ?_ _));exact BK201.out) hb);have n3_:=zk.mk (zaq (by repeat (first|(with_reducible first|exact HB.out|apply zq|apply zm|apply zo|refine zh ?_ GE199.out|refine zh ?_ GE200.out|refine zh ?_ GE201.out)|exact HB.out)) hb);clear BK199;clear BK200;clear BK201;clear HB;have BK199:=n0_;have BK200:=n1_;have BK201:=n2_;have HB:=n3_;clear n0_ n1_ n2_ n3_;(try clear hb);(try clear hb2);(try clear hk);(try clear hi))|((with_reducible refine zbC (N:=6) rfl ?_);refine zbz ?hg (N:=6) ?hd (cs:=#[.int .i64 0,.int .i64 0]) (t:=30) ?hr ?_;(case hd=>rfl);(case hg=>rfl);(case hr=>first|(go_simp;done)|(go_simp;rfl));intro gb205 hg w18 hbox hb;have n0_:=zk.mk (zt (g:=gb199) (o:= .cells #[.int .i64 t193,.int .i64 t194] 24 (0,0)) (by (with_reducible repeat (first|refine za ?_ _|refine zf ?_|refine ze ?_ _));exact BK199.out) hb);have n1_:=zk.mk (zt (g:=gb200) (o:= .cells #[.int .i64 t195,.int .i64 t196] 24 (0,0)) (by (with_reducible repeat (first|refine za ?_ _|refine zf ?_|refine ze ?_ _));exact BK200.out) hb);have n2_:=zk.mk (zt (g:=gb201) (o:= .cells #[.int .i64 t197,.int .i64 t198] 24 (0,0)) (by (with_reducible repeat (first|refine za ?_ _|refine zf ?_|refine ze ?_ _));exact BK201.out) hb);have n3_:=zk.mk (zaq (by repeat (first|(with_reducible first|exact HB.out|apply zq|apply zm|apply zo|refine zh ?_ GE199.out|refine zh ?_ GE200.out|refine zh ?_ GE201.out)|exact HB.out)) hb);have n4_:=zk.mk (hbox);have n5_:=zk.mk ((by rw [hg];exact (zas (by repeat (first|(with_reducible first|exact HB.out|apply zq|apply zm|apply zo|refine zh ?_ GE199.out|refine zh ?_ GE200.out|refine zh ?_ GE201.out)|exact HB.out))):w.heap.size<=gb205));have n6_:=zk.mk ((by rw [hg];exact (zas (by repeat (first|(with_reducible first|exact HB.out|apply zq|apply zm|apply zo|refine zh ?_ GE199.out|refine zh ?_ GE200.out|refine zh ?_ GE201.out)|exact HB.out))):w.heap.size<=gb205));have n7_:=zk.mk ((by rw [hg];exact Nat.ne_of_lt (zQ (g:=gb199) (o:= .cells #[.int .i64 t193,.int .i64 t194] 24 (0,0)) (by (with_reducible repeat (first|refine za ?_ _|refine zf ?_|refine ze ?_ _));exact BK199.out)):gb199≠gb205));have n8_:=zk.mk ((by rw [hg];exact Nat.ne_of_gt (zQ (g:=gb199) (o:= .cells #[.int .i64 t193,.int .i64 t194] 24 (0,0)) (by (with_reducible repeat (first|refine za ?_ _|refine zf ?_|refine ze ?_ _));exact BK199.out)):gb205≠gb199));have n9_:=zk.mk ((by rw [hg];exact Nat.ne_of_lt (zQ (g:=gb200) (o:= .cells #[.int .i64 t195,.int .i64 t196] 24 (0,0)) (by (with_reducible repeat (first|refine za ?_ _|refine zf ?_|refine ze ?_ _));exact BK200.out)):gb200≠gb205));have n10_:=zk.mk ((by rw [hg];exact Nat.ne_of_gt (zQ (g:=gb200) (o:= .cells #[.int .i64 t195,.int .i64 t196] 24 (0,0)) (by (with_reducible repeat (first|refine za ?_ _|refine zf ?_|refine ze ?_ _));exact BK200.out)):gb205≠gb200));have n11_:=zk.mk ((by rw [hg];exact Nat.ne_of_lt (zQ (g:=gb201) (o:= .cells #[.int .i64 t197,.int .i64 t198] 24 (0,0)) (by (with_reducible repeat (first|refine za ?_ _|refine zf ?_|refine ze ?_ _));exact BK201.out)):gb201≠gb205));have n12_:=zk.mk ((by rw [hg];exact Nat.ne_of_gt (zQ (g:=gb201) (o:= .cells #[.int .i64 t197,.int .i64 t198] 24 (0,0)) (by (with_reducible repeat (first|refine za ?_ _|refine zf ?_|refine ze ?_ _));exact BK201.out)):gb205≠gb201));clear BK199;clear BK200;clear BK201;clear HB;have BK199:=n0_;have BK200:=n1_;have BK201:=n2_;have HB:=n3_;have BK205:=n4_;have GW205:=n5_;have GE205:=n6_;have NB199_205:=n7_;have NB205_199:=n8_;have NB200_205:=n9_;have NB205_200:=n10_;have NB201_205:=n11_;have NB205_201:=n12_;clear n0_ n1_ n2_ n3_ n4_ n5_ n6_ n7_ n8_ n9_ n10_ n11_ n12_;clear hb hbox hg;have hnb19:=NB205_199.out;have hnc19:=NB199_205.out;have hnb20:=NB205_200.out;have hnc20:=NB200_205.out;have hnb21:=NB205_201.out;have hnc21:=NB201_205.out;have hcz22_0:w18.cell? ⟨gb205,0,none⟩=some (.int .i64 0):=(zy BK205.out 0).trans rfl;have hcz22_1:w18.cell? ⟨gb205,1,none⟩=some (.int .i64 0):=(zy BK205.out 1).trans rfl;have hfz22_0:=zu BK205.out 0;have hfz22_1:=zu BK205.out 1;have hcz23_0:w18.cell? ⟨gb200,0,none⟩=some (.int .i64 t195):=(zy BK200.out 0).trans rfl;have hcz23_1:w18.cell? ⟨gb200,1,none⟩=some (.int .i64 t196):=(zy BK200.out 1).trans rfl;have hfz23_0:=zu BK200.out 0;have hfz23_1:=zu BK200.out 1;have hcz24_0:w18.cell? ⟨gb199,0,none⟩=some (.int .i64 t193):=(zy BK199.out 0).trans rfl;have hcz24_1:w18.cell? ⟨gb199,1,none⟩=some (.int .i64 t194):=(zy BK199.out 1).trans rfl;have hfz24_0:=zu BK199.out 0;have hfz24_1:=zu BK199.out 1)|((with_reducible refine zai (f:=31) rfl ?_);refine zbB (some 38) rfl rfl Tryz.func31 (by kernel_rfl) rfl #[.agg #[.int .i64 t195,.int .i64 t196],.agg #[.int .i64 t193,.int .i64 t194]] rfl (by (try simp only [List.map_toArray,List.map_cons,List.map_nil]);first|done|rfl|(simp only [List.length_drop,List.length_take];rfl)) ?_;(with_reducible refine (zX.calls t195 t196 t193 t194 t206 t207 t208 _ A5.out).mono ?_);rintro e w25 ⟨rfl,hb⟩;refine ⟨_,rfl,?_⟩;have n0_:=zk.mk (zt (g:=gb199) (o:= .cells #[.int .i64 t193,.int .i64 t194] 24 (0,0)) (by (with_reducible repeat (first|refine za ?_ _|refine zf ?_|refine ze ?_ _));refine zw ?_ NB199_205.out _;(with_reducible repeat (first|refine za ?_ _|refine zf ?_|refine ze ?_ _));refine zw ?_ NB199_205.out _;(with_reducible repeat (first|refine za ?_ _|refine zf ?_|refine ze ?_ _));exact BK199.out) hb);have n1_:=zk.mk (zt (g:=gb200) (o:= .cells #[.int .i64 t195,.int .i64 t196] 24 (0,0)) (by (with_reducible repeat (first|refine za ?_ _|refine zf ?_|refine ze ?_ _));refine zw ?_ NB200_205.out _;(with_reducible repeat (first|refine za ?_ _|refine zf ?_|refine ze ?_ _));refine zw ?_ NB200_205.out _;(with_reducible repeat (first|refine za ?_ _|refine zf ?_|refine ze ?_ _));exact BK200.out) hb);have n2_:=zk.mk (zt (g:=gb201) (o:= .cells #[.int .i64 t197,.int .i64 t198] 24 (0,0)) (by (with_reducible repeat (first|refine za ?_ _|refine zf ?_|refine ze ?_ _));refine zw ?_ NB201_205.out _;(with_reducible repeat (first|refine za ?_ _|refine zf ?_|refine ze ?_ _));refine zw ?_ NB201_205.out _;(with_reducible repeat (first|refine za ?_ _|refine zf ?_|refine ze ?_ _));exact BK201.out) hb);have n3_:=zk.mk (zt (g:=gb205) (o:= .cells #[.int .i64 t202,.int .i64 t203] 30 (0,0)) (by (with_reducible repeat (first|refine za ?_ _|refine zf ?_|refine ze ?_ _));refine zaw (cs:=#[.int .i64 t202,.int .i64 0]) ?_ 1 _ rfl;(with_reducible repeat (first|refine za ?_ _|refine zf ?_|refine ze ?_ _));refine zaw (cs:=#[.int .i64 0,.int .i64 0]) ?_ 0 _ rfl;(with_reducible repeat (first|refine za ?_ _|refine zf ?_|refine ze ?_ _));exact BK205.out) hb);have n4_:=zk.mk (zaq (by repeat (first|(with_reducible first|exact HB.out|apply zq|apply zm|apply zo|refine zh ?_ GE199.out|refine zh ?_ GE200.out|refine zh ?_ GE201.out|refine zh ?_ GE205.out)|exact HB.out)) hb);clear BK199;clear BK200;clear BK201;clear BK205;clear HB;have BK199:=n0_;have BK200:=n1_;have BK201:=n2_;have BK205:=n3_;have HB:=n4_;clear n0_ n1_ n2_ n3_ n4_;(try clear hb);(try clear hb2);(try clear hk);(try clear hi))|((with_reducible refine zbC (N:=8) rfl ?_);refine zbz ?hg (N:=8) ?hd (cs:=#[.int .i64 0,.int .i64 0]) (t:=30) ?hr ?_;(case hd=>rfl);(case hg=>rfl);(case hr=>first|(go_simp;done)|(go_simp;rfl));intro gb209 hg w26 hbox hb;have n0_:=zk.mk (zt (g:=gb199) (o:= .cells #[.int .i64 t193,.int .i64 t194] 24 (0,0)) (by (with_reducible repeat (first|refine za ?_ _|refine zf ?_|refine ze ?_ _));exact BK199.out) hb);have n1_:=zk.mk (zt (g:=gb200) (o:= .cells #[.int .i64 t195,.int .i64 t196] 24 (0,0)) (by (with_reducible repeat (first|refine za ?_ _|refine zf ?_|refine ze ?_ _));exact BK200.out) hb);have n2_:=zk.mk (zt (g:=gb201) (o:= .cells #[.int .i64 t197,.int .i64 t198] 24 (0,0)) (by (with_reducible repeat (first|refine za ?_ _|refine zf ?_|refine ze ?_ _));exact BK201.out) hb);have n3_:=zk.mk (zt (g:=gb205) (o:= .cells #[.int .i64 t202,.int .i64 t203] 30 (0,0)) (by (with_reducible repeat (first|refine za ?_ _|refine zf ?_|refine ze ?_ _));exact BK205.out) hb);have n4_:=zk.mk (zaq (by repeat (first|(with_reducible first|exact HB.out|apply zq|apply zm|apply zo|refine zh ?_ GE199.out|refine zh ?_ GE200.out|refine zh ?_ GE201.out|refine zh ?_ GE205.out)|exact HB.out)) hb);have n5_:=zk.mk (hbox);have n6_:=zk.mk ((by rw [hg];exact (zas (by repeat (first|(with_reducible first|exact HB.out|apply zq|apply zm|apply zo|refine zh ?_ GE199.out|refine zh ?_ GE200.out|refine zh ?_ GE201.out|refine zh ?_ GE205.out)|exact HB.out))):w.heap.size<=gb209));have n7_:=zk.mk ((by rw [hg];exact (zas (by repeat (first|(with_reducible first|exact HB.out|apply zq|apply zm|apply zo|refine zh ?_ GE199.out|refine zh ?_ GE200.out|refine zh ?_ GE201.out|refine zh ?_ GE205.out)|exact HB.out))):w.heap.size<=gb209));have n8_:=zk.mk ((by rw [hg];exact Nat.ne_of_lt (zQ (g:=gb199) (o:= .cells #[.int .i64 t193,.int .i64 t194] 24 (0,0)) (by (with_reducible repeat (first|refine za ?_ _|refine zf ?_|refine ze ?_ _));exact BK199.out)):gb199≠gb209));have n9_:=zk.mk ((by rw [hg];exact Nat.ne_of_gt (zQ (g:=gb199) (o:= .cells #[.int .i64 t193,.int .i64 t194] 24 (0,0)) (by (with_reducible repeat (first|refine za ?_ _|refine zf ?_|refine ze ?_ _));exact BK199.out)):gb209≠gb199));have n10_:=zk.mk ((by rw [hg];exact Nat.ne_of_lt (zQ (g:=gb200) (o:= .cells #[.int .i64 t195,.int .i64 t196] 24 (0,0)) (by (with_reducible repeat (first|refine za ?_ _|refine zf ?_|refine ze ?_ _));exact BK200.out)):gb200≠gb209));have n11_:=zk.mk ((by rw [hg];exact Nat.ne_of_gt (zQ (g:=gb200) (o:= .cells #[.int .i64 t195,.int .i64 t196] 24 (0,0)) (by (with_reducible repeat (first|refine za ?_ _|refine zf ?_|refine ze ?_ _));exact BK200.out)):gb209≠gb200));have n12_:=zk.mk ((by rw [hg];exact Nat.ne_of_lt (zQ (g:=gb201) (o:= .cells #[.int .i64 t197,.int .i64 t198] 24 (0,0)) (by (with_reducible repeat (first|refine za ?_ _|refine zf ?_|refine ze ?_ _));exact BK201.out)):gb201≠gb209));have n13_:=zk.mk ((by rw [hg];exact Nat.ne_of_gt (zQ (g:=gb201) (o:= .cells #[.int .i64 t197,.int .i64 t198] 24 (0,0)) (by (with_reducible repeat (first|refine za ?_ _|refine zf ?_|refine ze ?_ _));exact BK201.out)):gb209≠gb201));have n14_:=zk.mk ((by rw [hg];exact Nat.ne_of_lt (zQ (g:=gb205) (o:= .cells #[.int .i64 t202,.int .i64 t203] 30 (0,0)) (by (with_reducible repeat (first|refine za ?_ _|refine zf ?_|refine ze ?_ _));exact BK205.out)):gb205≠gb209));have n15_:=zk.mk ((by rw [hg];exact Nat.ne_of_gt (zQ (g:=gb205) (o:= .cells #[.int .i64 t202,.int .i64 t203] 30 (0,0)) (by (with_reducible repeat (first|refine za ?_ _|refine zf ?_|refine ze ?_ _));exact BK205.out)):gb209≠gb205));clear BK199;clear BK200;clear BK201;clear BK205;clear HB;have BK199:=n0_;have BK200:=n1_;have BK201:=n2_;have BK205:=n3_;have HB:=n4_;have BK209:=n5_;have GW209:=n6_;have GE209:=n7_;have NB199_209:=n8_;have NB209_199:=n9_;have NB200_209:=n10_;have NB209_200:=n11_;have NB201_209:=n12_;have NB209_201:=n13_;have NB205_209:=n14_;have NB209_205:=n15_;clear n0_ n1_ n2_ n3_ n4_ n5_ n6_ n7_ n8_ n9_ n10_ n11_ n12_ n13_ n14_ n15_;clear hb hbox hg;have hnb27:=NB209_199.out;have hnc27:=NB199_209.out;have hnb28:=NB209_200.out;have hnc28:=NB200_209.out;have hnb29:=NB209_201.out;have hnc29:=NB201_209.out;have hnb30:=NB209_205.out;have hnc30:=NB205_209.out;have hcz31_0:w26.cell? ⟨gb209,0,none⟩=some (.int .i64 0):=(zy BK209.out 0).trans rfl;have hcz31_1:w26.cell? ⟨gb209,1,none⟩=some (.int .i64 0):=(zy BK209.out 1).trans rfl;have hfz31_0:=zu BK209.out 0;have hfz31_1:=zu BK209.out 1))
  (try simp only [Act.put,List.setIfInBounds_toArray,List.set_cons_zero,List.set_cons_succ])
  go_cut [46] (fun v46 wc=>∃(kq:Nat) (x46_5:Bool),v46= .bool x46_5/\zk (zH.j0 kq t204 t208 x46_5 t193 t194 t195 t196 t197 t198 t202 t203 t206 t207=some r)/\zk (kq<=k)/\zk (wc.heap[gb199]?=some (.cells #[.int .i64 t193,.int .i64 t194] 24 (0,0)))/\zk (wc.heap[gb200]?=some (.cells #[.int .i64 t195,.int .i64 t196] 24 (0,0)))/\zk (wc.heap[gb201]?=some (.cells #[.int .i64 t197,.int .i64 t198] 24 (0,0)))/\zk (wc.heap[gb205]?=some (.cells #[.int .i64 t202,.int .i64 t203] 30 (0,0)))/\zk (wc.heap[gb209]?=some (.cells #[.int .i64 t206,.int .i64 t207] 30 (0,0)))/\zk (Below w.heap.size w wc))
  case first=>
   have H:=HC6.out
   clear HC6
   by_cases c32:t204=0
   ·rw [if_pos c32] at H
    have c32b0:(t204==0)=true:=beq_iff_eq.mpr c32
    have c32b1:(t204 != 0)=false:=bne_eq_false_iff_eq.mpr c32
    clear c32
    (first|rw [c32b0]|(simp only [zbM,zbN];rw [c32b0])|skip)
    have H':=zk.mk H
    clear H
    go_wp2
    go_meet
    case rel=>exact ⟨_,((t208 != 0)),(by first|rfl|(simp;done)|(simp [*];done)),H',⟨by first|omega|exact Nat.le_refl _⟩,⟨by (with_reducible repeat (first|refine za ?_ _|refine zf ?_|refine ze ?_ _));refine zw ?_ NB199_209.out _;(with_reducible repeat (first|refine za ?_ _|refine zf ?_|refine ze ?_ _));refine zw ?_ NB199_209.out _;(with_reducible repeat (first|refine za ?_ _|refine zf ?_|refine ze ?_ _));exact BK199.out⟩,⟨by (with_reducible repeat (first|refine za ?_ _|refine zf ?_|refine ze ?_ _));refine zw ?_ NB200_209.out _;(with_reducible repeat (first|refine za ?_ _|refine zf ?_|refine ze ?_ _));refine zw ?_ NB200_209.out _;(with_reducible repeat (first|refine za ?_ _|refine zf ?_|refine ze ?_ _));exact BK200.out⟩,⟨by (with_reducible repeat (first|refine za ?_ _|refine zf ?_|refine ze ?_ _));refine zw ?_ NB201_209.out _;(with_reducible repeat (first|refine za ?_ _|refine zf ?_|refine ze ?_ _));refine zw ?_ NB201_209.out _;(with_reducible repeat (first|refine za ?_ _|refine zf ?_|refine ze ?_ _));exact BK201.out⟩,⟨by (with_reducible repeat (first|refine za ?_ _|refine zf ?_|refine ze ?_ _));refine zw ?_ NB205_209.out _;(with_reducible repeat (first|refine za ?_ _|refine zf ?_|refine ze ?_ _));refine zw ?_ NB205_209.out _;(with_reducible repeat (first|refine za ?_ _|refine zf ?_|refine ze ?_ _));exact BK205.out⟩,⟨by (with_reducible repeat (first|refine za ?_ _|refine zf ?_|refine ze ?_ _));refine zaw (cs:=#[.int .i64 t206,.int .i64 0]) ?_ 1 _ rfl;(with_reducible repeat (first|refine za ?_ _|refine zf ?_|refine ze ?_ _));refine zaw (cs:=#[.int .i64 0,.int .i64 0]) ?_ 0 _ rfl;(with_reducible repeat (first|refine za ?_ _|refine zf ?_|refine ze ?_ _));exact BK209.out⟩,⟨by repeat (first|(with_reducible first|exact HB.out|apply zq|apply zm|apply zo|refine zh ?_ GE199.out|refine zh ?_ GE200.out|refine zh ?_ GE201.out|refine zh ?_ GE205.out|refine zh ?_ GE209.out)|exact HB.out)⟩⟩
   ·rw [if_neg c32] at H
    have c32b0:(t204==0)=false:=beq_eq_false_iff_ne.mpr c32
    have c32b1:(t204 != 0)=true:=bne_iff_ne.mpr c32
    (first|rw [c32b0]|(simp only [zbM,zbN];rw [c32b0])|skip)
    have H':=zk.mk H
    clear H
    go_wp2
    go_meet
    case rel=>exact ⟨_,(true),(by first|rfl|(simp;done)|(simp [*];done)),H',⟨by first|omega|exact Nat.le_refl _⟩,⟨by (with_reducible repeat (first|refine za ?_ _|refine zf ?_|refine ze ?_ _));refine zw ?_ NB199_209.out _;(with_reducible repeat (first|refine za ?_ _|refine zf ?_|refine ze ?_ _));refine zw ?_ NB199_209.out _;(with_reducible repeat (first|refine za ?_ _|refine zf ?_|refine ze ?_ _));exact BK199.out⟩,⟨by (with_reducible repeat (first|refine za ?_ _|refine zf ?_|refine ze ?_ _));refine zw ?_ NB200_209.out _;(with_reducible repeat (first|refine za ?_ _|refine zf ?_|refine ze ?_ _));refine zw ?_ NB200_209.out _;(with_reducible repeat (first|refine za ?_ _|refine zf ?_|refine ze ?_ _));exact BK200.out⟩,⟨by (with_reducible repeat (first|refine za ?_ _|refine zf ?_|refine ze ?_ _));refine zw ?_ NB201_209.out _;(with_reducible repeat (first|refine za ?_ _|refine zf ?_|refine ze ?_ _));refine zw ?_ NB201_209.out _;(with_reducible repeat (first|refine za ?_ _|refine zf ?_|refine ze ?_ _));exact BK201.out⟩,⟨by (with_reducible repeat (first|refine za ?_ _|refine zf ?_|refine ze ?_ _));refine zw ?_ NB205_209.out _;(with_reducible repeat (first|refine za ?_ _|refine zf ?_|refine ze ?_ _));refine zw ?_ NB205_209.out _;(with_reducible repeat (first|refine za ?_ _|refine zf ?_|refine ze ?_ _));exact BK205.out⟩,⟨by (with_reducible repeat (first|refine za ?_ _|refine zf ?_|refine ze ?_ _));refine zaw (cs:=#[.int .i64 t206,.int .i64 0]) ?_ 1 _ rfl;(with_reducible repeat (first|refine za ?_ _|refine zf ?_|refine ze ?_ _));refine zaw (cs:=#[.int .i64 0,.int .i64 0]) ?_ 0 _ rfl;(with_reducible repeat (first|refine za ?_ _|refine zf ?_|refine ze ?_ _));exact BK209.out⟩,⟨by repeat (first|(with_reducible first|exact HB.out|apply zq|apply zm|apply zo|refine zh ?_ GE199.out|refine zh ?_ GE200.out|refine zh ?_ GE201.out|refine zh ?_ GE205.out|refine zh ?_ GE209.out)|exact HB.out)⟩⟩
  case rest=>
   clear HC6
   try clear c1
   try clear c2
   try clear c2b0
   try clear c2b1
   try clear p2
   try clear c3
   try clear c5
   try clear c11
   try clear c12
   try clear c14
   try clear c19
   try clear c20
   try clear c21
   try clear c27
   try clear c28
   try clear c29
   try clear c30
   try clear c31
   try clear c32
   try clear c32b0
   try clear c32b1
   try clear hcz13_0
   try clear hcz13_1
   try clear hcz15_0
   try clear hcz15_1
   try clear hcz16_0
   try clear hcz16_1
   try clear hcz22_0
   try clear hcz22_1
   try clear hcz23_0
   try clear hcz23_1
   try clear hcz24_0
   try clear hcz24_1
   try clear hcz31_0
   try clear hcz31_1
   try clear hfz13_0
   try clear hfz13_1
   try clear hfz15_0
   try clear hfz15_1
   try clear hfz16_0
   try clear hfz16_1
   try clear hfz22_0
   try clear hfz22_1
   try clear hfz23_0
   try clear hfz23_1
   try clear hfz24_0
   try clear hfz24_1
   try clear hfz31_0
   try clear hfz31_1
   obtain ⟨kq,x46_5,rfl,HA,HJ5,BK199,BK200,BK201,BK205,BK209,HB⟩:=hcut
   cases kq with
   | zero=>exact absurd HA.out (by simp [zH.j0])
   | succ kj5=>
    have H:=HA.out
    clear HA
    simp only [zH.j0] at H
    by_cases c33:x46_5=true
    ·subst c33
     have H1:((zbO.f t193 t194 t195 t196).bind fun bt210=>(if t204=bt210.2.2 then (some (t208==bt210.2.2)) else (some false)))=some r:=by rw [if_pos rfl] at H;exact H
     clear H
     have H:=H1
     clear H1
     replace H:=Option.bind_eq_some_iff.mp H
     obtain ⟨⟨t210,t211,t212⟩,A340,H⟩:=H
     replace H:(if t204=t212 then (some (t208==t212)) else (some false))=some r:=H
     have A34:=zk.mk A340
     clear A340
     by_cases c35:t204=t212
     ·rw [if_pos c35] at H
      have c35b0:(t204==t212)=true:=beq_iff_eq.mpr c35
      have c35b1:(t204 != t212)=false:=bne_eq_false_iff_eq.mpr c35
      clear c35
      obtain rfl:=Option.some.inj H
      have hnb36:=NB199_200.out
      have hnc36:=NB200_199.out
      have hnb37:=NB199_201.out
      have hnc37:=NB201_199.out
      have hnb38:=NB199_205.out
      have hnc38:=NB205_199.out
      have hnb39:=NB199_209.out
      have hnc39:=NB209_199.out
      have hcz40_0:wc.cell? ⟨gb199,0,none⟩=some (.int .i64 t193):=(zy BK199.out 0).trans rfl
      have hcz40_1:wc.cell? ⟨gb199,1,none⟩=some (.int .i64 t194):=(zy BK199.out 1).trans rfl
      have hfz40_0:=zu BK199.out 0
      have hfz40_1:=zu BK199.out 1
      have hnb41:=NB200_201.out
      have hnc41:=NB201_200.out
      have hnb42:=NB200_205.out
      have hnc42:=NB205_200.out
      have hnb43:=NB200_209.out
      have hnc43:=NB209_200.out
      have hcz44_0:wc.cell? ⟨gb200,0,none⟩=some (.int .i64 t195):=(zy BK200.out 0).trans rfl
      have hcz44_1:wc.cell? ⟨gb200,1,none⟩=some (.int .i64 t196):=(zy BK200.out 1).trans rfl
      have hfz44_0:=zu BK200.out 0
      have hfz44_1:=zu BK200.out 1
      go_wp2_with (first|((with_reducible refine zai (f:=32) rfl ?_);refine zbB (some 50) rfl rfl Tryz.func32 (by kernel_rfl) rfl #[.agg #[.int .i64 t193,.int .i64 t194],.agg #[.int .i64 t195,.int .i64 t196]] rfl (by (try simp only [List.map_toArray,List.map_cons,List.map_nil]);first|done|rfl|(simp only [List.length_drop,List.length_take];rfl)) ?_;(with_reducible refine (zbO.calls t193 t194 t195 t196 t210 t211 t212 _ A34.out).mono ?_);rintro e w45 ⟨rfl,hb⟩;refine ⟨_,rfl,?_⟩;have n0_:=zk.mk (zt (g:=gb199) (o:= .cells #[.int .i64 t193,.int .i64 t194] 24 (0,0)) (by (with_reducible repeat (first|refine za ?_ _|refine zf ?_|refine ze ?_ _));exact BK199.out) hb);have n1_:=zk.mk (zt (g:=gb200) (o:= .cells #[.int .i64 t195,.int .i64 t196] 24 (0,0)) (by (with_reducible repeat (first|refine za ?_ _|refine zf ?_|refine ze ?_ _));exact BK200.out) hb);have n2_:=zk.mk (zt (g:=gb201) (o:= .cells #[.int .i64 t197,.int .i64 t198] 24 (0,0)) (by (with_reducible repeat (first|refine za ?_ _|refine zf ?_|refine ze ?_ _));exact BK201.out) hb);have n3_:=zk.mk (zt (g:=gb205) (o:= .cells #[.int .i64 t202,.int .i64 t203] 30 (0,0)) (by (with_reducible repeat (first|refine za ?_ _|refine zf ?_|refine ze ?_ _));exact BK205.out) hb);have n4_:=zk.mk (zt (g:=gb209) (o:= .cells #[.int .i64 t206,.int .i64 t207] 30 (0,0)) (by (with_reducible repeat (first|refine za ?_ _|refine zf ?_|refine ze ?_ _));exact BK209.out) hb);have n5_:=zk.mk (zaq (by repeat (first|(with_reducible first|exact HB.out|apply zq|apply zm|apply zo|refine zh ?_ GE199.out|refine zh ?_ GE200.out|refine zh ?_ GE201.out|refine zh ?_ GE205.out|refine zh ?_ GE209.out)|exact HB.out)) hb);clear BK199;clear BK200;clear BK201;clear BK205;clear BK209;clear HB;have BK199:=n0_;have BK200:=n1_;have BK201:=n2_;have BK205:=n3_;have BK209:=n4_;have HB:=n5_;clear n0_ n1_ n2_ n3_ n4_ n5_;(try clear hb);(try clear hb2);(try clear hk);(try clear hi))|((with_reducible refine zbC (N:=10) rfl ?_);refine zbz ?hg (N:=10) ?hd (cs:=#[.int .i64 0,.int .i64 0]) (t:=30) ?hr ?_;(case hd=>rfl);(case hg=>rfl);(case hr=>first|(go_simp;done)|(go_simp;rfl));intro gb213 hg w46 hbox hb;have n0_:=zk.mk (zt (g:=gb199) (o:= .cells #[.int .i64 t193,.int .i64 t194] 24 (0,0)) (by (with_reducible repeat (first|refine za ?_ _|refine zf ?_|refine ze ?_ _));exact BK199.out) hb);have n1_:=zk.mk (zt (g:=gb200) (o:= .cells #[.int .i64 t195,.int .i64 t196] 24 (0,0)) (by (with_reducible repeat (first|refine za ?_ _|refine zf ?_|refine ze ?_ _));exact BK200.out) hb);have n2_:=zk.mk (zt (g:=gb201) (o:= .cells #[.int .i64 t197,.int .i64 t198] 24 (0,0)) (by (with_reducible repeat (first|refine za ?_ _|refine zf ?_|refine ze ?_ _));exact BK201.out) hb);have n3_:=zk.mk (zt (g:=gb205) (o:= .cells #[.int .i64 t202,.int .i64 t203] 30 (0,0)) (by (with_reducible repeat (first|refine za ?_ _|refine zf ?_|refine ze ?_ _));exact BK205.out) hb);have n4_:=zk.mk (zt (g:=gb209) (o:= .cells #[.int .i64 t206,.int .i64 t207] 30 (0,0)) (by (with_reducible repeat (first|refine za ?_ _|refine zf ?_|refine ze ?_ _));exact BK209.out) hb);have n5_:=zk.mk (zaq (by repeat (first|(with_reducible first|exact HB.out|apply zq|apply zm|apply zo|refine zh ?_ GE199.out|refine zh ?_ GE200.out|refine zh ?_ GE201.out|refine zh ?_ GE205.out|refine zh ?_ GE209.out)|exact HB.out)) hb);have n6_:=zk.mk (hbox);have n7_:=zk.mk ((by rw [hg];exact (zas (by repeat (first|(with_reducible first|exact HB.out|apply zq|apply zm|apply zo|refine zh ?_ GE199.out|refine zh ?_ GE200.out|refine zh ?_ GE201.out|refine zh ?_ GE205.out|refine zh ?_ GE209.out)|exact HB.out))):w.heap.size<=gb213));have n8_:=zk.mk ((by rw [hg];exact (zas (by repeat (first|(with_reducible first|exact HB.out|apply zq|apply zm|apply zo|refine zh ?_ GE199.out|refine zh ?_ GE200.out|refine zh ?_ GE201.out|refine zh ?_ GE205.out|refine zh ?_ GE209.out)|exact HB.out))):w.heap.size<=gb213));have n9_:=zk.mk ((by rw [hg];exact Nat.ne_of_lt (zQ (g:=gb199) (o:= .cells #[.int .i64 t193,.int .i64 t194] 24 (0,0)) (by (with_reducible repeat (first|refine za ?_ _|refine zf ?_|refine ze ?_ _));exact BK199.out)):gb199≠gb213));have n10_:=zk.mk ((by rw [hg];exact Nat.ne_of_gt (zQ (g:=gb199) (o:= .cells #[.int .i64 t193,.int .i64 t194] 24 (0,0)) (by (with_reducible repeat (first|refine za ?_ _|refine zf ?_|refine ze ?_ _));exact BK199.out)):gb213≠gb199));have n11_:=zk.mk ((by rw [hg];exact Nat.ne_of_lt (zQ (g:=gb200) (o:= .cells #[.int .i64 t195,.int .i64 t196] 24 (0,0)) (by (with_reducible repeat (first|refine za ?_ _|refine zf ?_|refine ze ?_ _));exact BK200.out)):gb200≠gb213));have n12_:=zk.mk ((by rw [hg];exact Nat.ne_of_gt (zQ (g:=gb200) (o:= .cells #[.int .i64 t195,.int .i64 t196] 24 (0,0)) (by (with_reducible repeat (first|refine za ?_ _|refine zf ?_|refine ze ?_ _));exact BK200.out)):gb213≠gb200));have n13_:=zk.mk ((by rw [hg];exact Nat.ne_of_lt (zQ (g:=gb201) (o:= .cells #[.int .i64 t197,.int .i64 t198] 24 (0,0)) (by (with_reducible repeat (first|refine za ?_ _|refine zf ?_|refine ze ?_ _));exact BK201.out)):gb201≠gb213));have n14_:=zk.mk ((by rw [hg];exact Nat.ne_of_gt (zQ (g:=gb201) (o:= .cells #[.int .i64 t197,.int .i64 t198] 24 (0,0)) (by (with_reducible repeat (first|refine za ?_ _|refine zf ?_|refine ze ?_ _));exact BK201.out)):gb213≠gb201));have n15_:=zk.mk ((by rw [hg];exact Nat.ne_of_lt (zQ (g:=gb205) (o:= .cells #[.int .i64 t202,.int .i64 t203] 30 (0,0)) (by (with_reducible repeat (first|refine za ?_ _|refine zf ?_|refine ze ?_ _));exact BK205.out)):gb205≠gb213));have n16_:=zk.mk ((by rw [hg];exact Nat.ne_of_gt (zQ (g:=gb205) (o:= .cells #[.int .i64 t202,.int .i64 t203] 30 (0,0)) (by (with_reducible repeat (first|refine za ?_ _|refine zf ?_|refine ze ?_ _));exact BK205.out)):gb213≠gb205));have n17_:=zk.mk ((by rw [hg];exact Nat.ne_of_lt (zQ (g:=gb209) (o:= .cells #[.int .i64 t206,.int .i64 t207] 30 (0,0)) (by (with_reducible repeat (first|refine za ?_ _|refine zf ?_|refine ze ?_ _));exact BK209.out)):gb209≠gb213));have n18_:=zk.mk ((by rw [hg];exact Nat.ne_of_gt (zQ (g:=gb209) (o:= .cells #[.int .i64 t206,.int .i64 t207] 30 (0,0)) (by (with_reducible repeat (first|refine za ?_ _|refine zf ?_|refine ze ?_ _));exact BK209.out)):gb213≠gb209));clear BK199;clear BK200;clear BK201;clear BK205;clear BK209;clear HB;have BK199:=n0_;have BK200:=n1_;have BK201:=n2_;have BK205:=n3_;have BK209:=n4_;have HB:=n5_;have BK213:=n6_;have GW213:=n7_;have GE213:=n8_;have NB199_213:=n9_;have NB213_199:=n10_;have NB200_213:=n11_;have NB213_200:=n12_;have NB201_213:=n13_;have NB213_201:=n14_;have NB205_213:=n15_;have NB213_205:=n16_;have NB209_213:=n17_;have NB213_209:=n18_;clear n0_ n1_ n2_ n3_ n4_ n5_ n6_ n7_ n8_ n9_ n10_ n11_ n12_ n13_ n14_ n15_ n16_ n17_ n18_;clear hb hbox hg;have hnb47:=NB213_199.out;have hnc47:=NB199_213.out;have hnb48:=NB213_200.out;have hnc48:=NB200_213.out;have hnb49:=NB213_201.out;have hnc49:=NB201_213.out;have hnb50:=NB213_205.out;have hnc50:=NB205_213.out;have hnb51:=NB213_209.out;have hnc51:=NB209_213.out;have hcz52_0:w46.cell? ⟨gb213,0,none⟩=some (.int .i64 0):=(zy BK213.out 0).trans rfl;have hcz52_1:w46.cell? ⟨gb213,1,none⟩=some (.int .i64 0):=(zy BK213.out 1).trans rfl;have hfz52_0:=zu BK213.out 0;have hfz52_1:=zu BK213.out 1))
      go_ret
      exact ⟨by first|rfl|(simp [zal,zak]<;>rfl)|(simp [*,zal,zak]<;>rfl),by repeat (first|(with_reducible first|exact HB.out|apply zq|apply zm|apply zo|refine zh ?_ GE199.out|refine zh ?_ GE200.out|refine zh ?_ GE201.out|refine zh ?_ GE205.out|refine zh ?_ GE209.out|refine zh ?_ GE213.out)|exact HB.out)⟩
     ·rw [if_neg c35] at H
      have c35b0:(t204==t212)=false:=beq_eq_false_iff_ne.mpr c35
      have c35b1:(t204 != t212)=true:=bne_iff_ne.mpr c35
      obtain rfl:=Option.some.inj H
      have hnb53:=NB199_200.out
      have hnc53:=NB200_199.out
      have hnb54:=NB199_201.out
      have hnc54:=NB201_199.out
      have hnb55:=NB199_205.out
      have hnc55:=NB205_199.out
      have hnb56:=NB199_209.out
      have hnc56:=NB209_199.out
      have hcz57_0:wc.cell? ⟨gb199,0,none⟩=some (.int .i64 t193):=(zy BK199.out 0).trans rfl
      have hcz57_1:wc.cell? ⟨gb199,1,none⟩=some (.int .i64 t194):=(zy BK199.out 1).trans rfl
      have hfz57_0:=zu BK199.out 0
      have hfz57_1:=zu BK199.out 1
      have hnb58:=NB200_201.out
      have hnc58:=NB201_200.out
      have hnb59:=NB200_205.out
      have hnc59:=NB205_200.out
      have hnb60:=NB200_209.out
      have hnc60:=NB209_200.out
      have hcz61_0:wc.cell? ⟨gb200,0,none⟩=some (.int .i64 t195):=(zy BK200.out 0).trans rfl
      have hcz61_1:wc.cell? ⟨gb200,1,none⟩=some (.int .i64 t196):=(zy BK200.out 1).trans rfl
      have hfz61_0:=zu BK200.out 0
      have hfz61_1:=zu BK200.out 1
      go_wp2_with (first|((with_reducible refine zai (f:=32) rfl ?_);refine zbB (some 50) rfl rfl Tryz.func32 (by kernel_rfl) rfl #[.agg #[.int .i64 t193,.int .i64 t194],.agg #[.int .i64 t195,.int .i64 t196]] rfl (by (try simp only [List.map_toArray,List.map_cons,List.map_nil]);first|done|rfl|(simp only [List.length_drop,List.length_take];rfl)) ?_;(with_reducible refine (zbO.calls t193 t194 t195 t196 t210 t211 t212 _ A34.out).mono ?_);rintro e w62 ⟨rfl,hb⟩;refine ⟨_,rfl,?_⟩;have n0_:=zk.mk (zt (g:=gb199) (o:= .cells #[.int .i64 t193,.int .i64 t194] 24 (0,0)) (by (with_reducible repeat (first|refine za ?_ _|refine zf ?_|refine ze ?_ _));exact BK199.out) hb);have n1_:=zk.mk (zt (g:=gb200) (o:= .cells #[.int .i64 t195,.int .i64 t196] 24 (0,0)) (by (with_reducible repeat (first|refine za ?_ _|refine zf ?_|refine ze ?_ _));exact BK200.out) hb);have n2_:=zk.mk (zt (g:=gb201) (o:= .cells #[.int .i64 t197,.int .i64 t198] 24 (0,0)) (by (with_reducible repeat (first|refine za ?_ _|refine zf ?_|refine ze ?_ _));exact BK201.out) hb);have n3_:=zk.mk (zt (g:=gb205) (o:= .cells #[.int .i64 t202,.int .i64 t203] 30 (0,0)) (by (with_reducible repeat (first|refine za ?_ _|refine zf ?_|refine ze ?_ _));exact BK205.out) hb);have n4_:=zk.mk (zt (g:=gb209) (o:= .cells #[.int .i64 t206,.int .i64 t207] 30 (0,0)) (by (with_reducible repeat (first|refine za ?_ _|refine zf ?_|refine ze ?_ _));exact BK209.out) hb);have n5_:=zk.mk (zaq (by repeat (first|(with_reducible first|exact HB.out|apply zq|apply zm|apply zo|refine zh ?_ GE199.out|refine zh ?_ GE200.out|refine zh ?_ GE201.out|refine zh ?_ GE205.out|refine zh ?_ GE209.out)|exact HB.out)) hb);clear BK199;clear BK200;clear BK201;clear BK205;clear BK209;clear HB;have BK199:=n0_;have BK200:=n1_;have BK201:=n2_;have BK205:=n3_;have BK209:=n4_;have HB:=n5_;clear n0_ n1_ n2_ n3_ n4_ n5_;(try clear hb);(try clear hb2);(try clear hk);(try clear hi))|((with_reducible refine zbC (N:=10) rfl ?_);refine zbz ?hg (N:=10) ?hd (cs:=#[.int .i64 0,.int .i64 0]) (t:=30) ?hr ?_;(case hd=>rfl);(case hg=>rfl);(case hr=>first|(go_simp;done)|(go_simp;rfl));intro gb213 hg w63 hbox hb;have n0_:=zk.mk (zt (g:=gb199) (o:= .cells #[.int .i64 t193,.int .i64 t194] 24 (0,0)) (by (with_reducible repeat (first|refine za ?_ _|refine zf ?_|refine ze ?_ _));exact BK199.out) hb);have n1_:=zk.mk (zt (g:=gb200) (o:= .cells #[.int .i64 t195,.int .i64 t196] 24 (0,0)) (by (with_reducible repeat (first|refine za ?_ _|refine zf ?_|refine ze ?_ _));exact BK200.out) hb);have n2_:=zk.mk (zt (g:=gb201) (o:= .cells #[.int .i64 t197,.int .i64 t198] 24 (0,0)) (by (with_reducible repeat (first|refine za ?_ _|refine zf ?_|refine ze ?_ _));exact BK201.out) hb);have n3_:=zk.mk (zt (g:=gb205) (o:= .cells #[.int .i64 t202,.int .i64 t203] 30 (0,0)) (by (with_reducible repeat (first|refine za ?_ _|refine zf ?_|refine ze ?_ _));exact BK205.out) hb);have n4_:=zk.mk (zt (g:=gb209) (o:= .cells #[.int .i64 t206,.int .i64 t207] 30 (0,0)) (by (with_reducible repeat (first|refine za ?_ _|refine zf ?_|refine ze ?_ _));exact BK209.out) hb);have n5_:=zk.mk (zaq (by repeat (first|(with_reducible first|exact HB.out|apply zq|apply zm|apply zo|refine zh ?_ GE199.out|refine zh ?_ GE200.out|refine zh ?_ GE201.out|refine zh ?_ GE205.out|refine zh ?_ GE209.out)|exact HB.out)) hb);have n6_:=zk.mk (hbox);have n7_:=zk.mk ((by rw [hg];exact (zas (by repeat (first|(with_reducible first|exact HB.out|apply zq|apply zm|apply zo|refine zh ?_ GE199.out|refine zh ?_ GE200.out|refine zh ?_ GE201.out|refine zh ?_ GE205.out|refine zh ?_ GE209.out)|exact HB.out))):w.heap.size<=gb213));have n8_:=zk.mk ((by rw [hg];exact (zas (by repeat (first|(with_reducible first|exact HB.out|apply zq|apply zm|apply zo|refine zh ?_ GE199.out|refine zh ?_ GE200.out|refine zh ?_ GE201.out|refine zh ?_ GE205.out|refine zh ?_ GE209.out)|exact HB.out))):w.heap.size<=gb213));have n9_:=zk.mk ((by rw [hg];exact Nat.ne_of_lt (zQ (g:=gb199) (o:= .cells #[.int .i64 t193,.int .i64 t194] 24 (0,0)) (by (with_reducible repeat (first|refine za ?_ _|refine zf ?_|refine ze ?_ _));exact BK199.out)):gb199≠gb213));have n10_:=zk.mk ((by rw [hg];exact Nat.ne_of_gt (zQ (g:=gb199) (o:= .cells #[.int .i64 t193,.int .i64 t194] 24 (0,0)) (by (with_reducible repeat (first|refine za ?_ _|refine zf ?_|refine ze ?_ _));exact BK199.out)):gb213≠gb199));have n11_:=zk.mk ((by rw [hg];exact Nat.ne_of_lt (zQ (g:=gb200) (o:= .cells #[.int .i64 t195,.int .i64 t196] 24 (0,0)) (by (with_reducible repeat (first|refine za ?_ _|refine zf ?_|refine ze ?_ _));exact BK200.out)):gb200≠gb213));have n12_:=zk.mk ((by rw [hg];exact Nat.ne_of_gt (zQ (g:=gb200) (o:= .cells #[.int .i64 t195,.int .i64 t196] 24 (0,0)) (by (with_reducible repeat (first|refine za ?_ _|refine zf ?_|refine ze ?_ _));exact BK200.out)):gb213≠gb200));have n13_:=zk.mk ((by rw [hg];exact Nat.ne_of_lt (zQ (g:=gb201) (o:= .cells #[.int .i64 t197,.int .i64 t198] 24 (0,0)) (by (with_reducible repeat (first|refine za ?_ _|refine zf ?_|refine ze ?_ _));exact BK201.out)):gb201≠gb213));have n14_:=zk.mk ((by rw [hg];exact Nat.ne_of_gt (zQ (g:=gb201) (o:= .cells #[.int .i64 t197,.int .i64 t198] 24 (0,0)) (by (with_reducible repeat (first|refine za ?_ _|refine zf ?_|refine ze ?_ _));exact BK201.out)):gb213≠gb201));have n15_:=zk.mk ((by rw [hg];exact Nat.ne_of_lt (zQ (g:=gb205) (o:= .cells #[.int .i64 t202,.int .i64 t203] 30 (0,0)) (by (with_reducible repeat (first|refine za ?_ _|refine zf ?_|refine ze ?_ _));exact BK205.out)):gb205≠gb213));have n16_:=zk.mk ((by rw [hg];exact Nat.ne_of_gt (zQ (g:=gb205) (o:= .cells #[.int .i64 t202,.int .i64 t203] 30 (0,0)) (by (with_reducible repeat (first|refine za ?_ _|refine zf ?_|refine ze ?_ _));exact BK205.out)):gb213≠gb205));have n17_:=zk.mk ((by rw [hg];exact Nat.ne_of_lt (zQ (g:=gb209) (o:= .cells #[.int .i64 t206,.int .i64 t207] 30 (0,0)) (by (with_reducible repeat (first|refine za ?_ _|refine zf ?_|refine ze ?_ _));exact BK209.out)):gb209≠gb213));have n18_:=zk.mk ((by rw [hg];exact Nat.ne_of_gt (zQ (g:=gb209) (o:= .cells #[.int .i64 t206,.int .i64 t207] 30 (0,0)) (by (with_reducible repeat (first|refine za ?_ _|refine zf ?_|refine ze ?_ _));exact BK209.out)):gb213≠gb209));clear BK199;clear BK200;clear BK201;clear BK205;clear BK209;clear HB;have BK199:=n0_;have BK200:=n1_;have BK201:=n2_;have BK205:=n3_;have BK209:=n4_;have HB:=n5_;have BK213:=n6_;have GW213:=n7_;have GE213:=n8_;have NB199_213:=n9_;have NB213_199:=n10_;have NB200_213:=n11_;have NB213_200:=n12_;have NB201_213:=n13_;have NB213_201:=n14_;have NB205_213:=n15_;have NB213_205:=n16_;have NB209_213:=n17_;have NB213_209:=n18_;clear n0_ n1_ n2_ n3_ n4_ n5_ n6_ n7_ n8_ n9_ n10_ n11_ n12_ n13_ n14_ n15_ n16_ n17_ n18_;clear hb hbox hg;have hnb64:=NB213_199.out;have hnc64:=NB199_213.out;have hnb65:=NB213_200.out;have hnc65:=NB200_213.out;have hnb66:=NB213_201.out;have hnc66:=NB201_213.out;have hnb67:=NB213_205.out;have hnc67:=NB205_213.out;have hnb68:=NB213_209.out;have hnc68:=NB209_213.out;have hcz69_0:w63.cell? ⟨gb213,0,none⟩=some (.int .i64 0):=(zy BK213.out 0).trans rfl;have hcz69_1:w63.cell? ⟨gb213,1,none⟩=some (.int .i64 0):=(zy BK213.out 1).trans rfl;have hfz69_0:=zu BK213.out 0;have hfz69_1:=zu BK213.out 1))
      go_ret
      exact ⟨by first|rfl|(simp [zal,zak]<;>rfl)|(simp [*,zal,zak]<;>rfl),by repeat (first|(with_reducible first|exact HB.out|apply zq|apply zm|apply zo|refine zh ?_ GE199.out|refine zh ?_ GE200.out|refine zh ?_ GE201.out|refine zh ?_ GE205.out|refine zh ?_ GE209.out|refine zh ?_ GE213.out)|exact HB.out)⟩
    ·replace c33:=Bool.eq_false_iff.mpr c33
     subst c33
     have H1:((zcZ.f t193 t194).bind fun bt214=>((zX.f bt214.1 bt214.2.1 t195 t196).bind fun bt218=>((zX.f t193 t194 t197 t198).bind fun bt222=>((zX.f t197 t198 t195 t196).bind fun bt226=>((zaI.f t202 t203 t206 t207).bind fun t230=>(if t230=true then (if bt218.2.2=0 then ((zcF.f t202 t203 bt218.1 bt218.2.1).bind fun bt231=>((zeo.f).bind fun bt233=>((zaI.f bt231.1 bt231.2 bt233.1 bt233.2).bind fun t235=>(zH.j1 kj5 bt222.2.2 bt226.2.2 (!t235) t202 t203 bt222.1 bt222.2.1 bt226.1 bt226.2.1)))) else (zH.j1 kj5 bt222.2.2 bt226.2.2 false t202 t203 bt222.1 bt222.2.1 bt226.1 bt226.2.1)) else (some false)))))))=some r:=by rw [if_neg (show ¬(false=true) by decide)] at H;exact H
     clear H
     have H:=H1
     clear H1
     replace H:=Option.bind_eq_some_iff.mp H
     obtain ⟨⟨t214,t215,t216⟩,A700,H⟩:=H
     replace H:((zX.f t214 t215 t195 t196).bind fun bt218=>((zX.f t193 t194 t197 t198).bind fun bt222=>((zX.f t197 t198 t195 t196).bind fun bt226=>((zaI.f t202 t203 t206 t207).bind fun t230=>(if t230=true then (if bt218.2.2=0 then ((zcF.f t202 t203 bt218.1 bt218.2.1).bind fun bt231=>((zeo.f).bind fun bt233=>((zaI.f bt231.1 bt231.2 bt233.1 bt233.2).bind fun t235=>(zH.j1 kj5 bt222.2.2 bt226.2.2 (!t235) t202 t203 bt222.1 bt222.2.1 bt226.1 bt226.2.1)))) else (zH.j1 kj5 bt222.2.2 bt226.2.2 false t202 t203 bt222.1 bt222.2.1 bt226.1 bt226.2.1)) else (some false))))))=some r:=H
     have A70:=zk.mk A700
     clear A700
     replace H:=Option.bind_eq_some_iff.mp H
     obtain ⟨⟨t218,t219,t220⟩,A710,H⟩:=H
     replace H:((zX.f t193 t194 t197 t198).bind fun bt222=>((zX.f t197 t198 t195 t196).bind fun bt226=>((zaI.f t202 t203 t206 t207).bind fun t230=>(if t230=true then (if t220=0 then ((zcF.f t202 t203 t218 t219).bind fun bt231=>((zeo.f).bind fun bt233=>((zaI.f bt231.1 bt231.2 bt233.1 bt233.2).bind fun t235=>(zH.j1 kj5 bt222.2.2 bt226.2.2 (!t235) t202 t203 bt222.1 bt222.2.1 bt226.1 bt226.2.1)))) else (zH.j1 kj5 bt222.2.2 bt226.2.2 false t202 t203 bt222.1 bt222.2.1 bt226.1 bt226.2.1)) else (some false)))))=some r:=H
     have A71:=zk.mk A710
     clear A710
     replace H:=Option.bind_eq_some_iff.mp H
     obtain ⟨⟨t222,t223,t224⟩,A720,H⟩:=H
     replace H:((zX.f t197 t198 t195 t196).bind fun bt226=>((zaI.f t202 t203 t206 t207).bind fun t230=>(if t230=true then (if t220=0 then ((zcF.f t202 t203 t218 t219).bind fun bt231=>((zeo.f).bind fun bt233=>((zaI.f bt231.1 bt231.2 bt233.1 bt233.2).bind fun t235=>(zH.j1 kj5 t224 bt226.2.2 (!t235) t202 t203 t222 t223 bt226.1 bt226.2.1)))) else (zH.j1 kj5 t224 bt226.2.2 false t202 t203 t222 t223 bt226.1 bt226.2.1)) else (some false))))=some r:=H
     have A72:=zk.mk A720
     clear A720
     replace H:=Option.bind_eq_some_iff.mp H
     obtain ⟨⟨t226,t227,t228⟩,A730,H⟩:=H
     replace H:((zaI.f t202 t203 t206 t207).bind fun t230=>(if t230=true then (if t220=0 then ((zcF.f t202 t203 t218 t219).bind fun bt231=>((zeo.f).bind fun bt233=>((zaI.f bt231.1 bt231.2 bt233.1 bt233.2).bind fun t235=>(zH.j1 kj5 t224 t228 (!t235) t202 t203 t222 t223 t226 t227)))) else (zH.j1 kj5 t224 t228 false t202 t203 t222 t223 t226 t227)) else (some false)))=some r:=H
     have A73:=zk.mk A730
     clear A730
     replace H:=Option.bind_eq_some_iff.mp H
     obtain ⟨t230,A740,H⟩:=H
     replace H:(if t230=true then (if t220=0 then ((zcF.f t202 t203 t218 t219).bind fun bt231=>((zeo.f).bind fun bt233=>((zaI.f bt231.1 bt231.2 bt233.1 bt233.2).bind fun t235=>(zH.j1 kj5 t224 t228 (!t235) t202 t203 t222 t223 t226 t227)))) else (zH.j1 kj5 t224 t228 false t202 t203 t222 t223 t226 t227)) else (some false))=some r:=H
     have A74:=zk.mk A740
     clear A740
     by_cases c75:t230=true
     ·subst c75
      have H1:(if t220=0 then ((zcF.f t202 t203 t218 t219).bind fun bt231=>((zeo.f).bind fun bt233=>((zaI.f bt231.1 bt231.2 bt233.1 bt233.2).bind fun t235=>(zH.j1 kj5 t224 t228 (!t235) t202 t203 t222 t223 t226 t227)))) else (zH.j1 kj5 t224 t228 false t202 t203 t222 t223 t226 t227))=some r:=by rw [if_pos rfl] at H;exact H
      clear H
      have H:=H1
      clear H1
      have HC76:=zk.mk H
      clear H
      have hnb77:=NB199_200.out
      have hnc77:=NB200_199.out
      have hnb78:=NB199_201.out
      have hnc78:=NB201_199.out
      have hnb79:=NB199_205.out
      have hnc79:=NB205_199.out
      have hnb80:=NB199_209.out
      have hnc80:=NB209_199.out
      have hcz81_0:wc.cell? ⟨gb199,0,none⟩=some (.int .i64 t193):=(zy BK199.out 0).trans rfl
      have hcz81_1:wc.cell? ⟨gb199,1,none⟩=some (.int .i64 t194):=(zy BK199.out 1).trans rfl
      have hfz81_0:=zu BK199.out 0
      have hfz81_1:=zu BK199.out 1
      go_upto_region 15 with (first|((with_reducible refine zai (f:=33) rfl ?_);refine zbB (some 63) rfl rfl Tryz.func33 (by kernel_rfl) rfl #[.agg #[.int .i64 t193,.int .i64 t194]] rfl (by (try simp only [List.map_toArray,List.map_cons,List.map_nil]);first|done|rfl|(simp only [List.length_drop,List.length_take];rfl)) ?_;(with_reducible refine (zcZ.calls t193 t194 t214 t215 t216 _ A70.out).mono ?_);rintro e w82 ⟨rfl,hb⟩;refine ⟨_,rfl,?_⟩;have n0_:=zk.mk (zt (g:=gb199) (o:= .cells #[.int .i64 t193,.int .i64 t194] 24 (0,0)) (by (with_reducible repeat (first|refine za ?_ _|refine zf ?_|refine ze ?_ _));exact BK199.out) hb);have n1_:=zk.mk (zt (g:=gb200) (o:= .cells #[.int .i64 t195,.int .i64 t196] 24 (0,0)) (by (with_reducible repeat (first|refine za ?_ _|refine zf ?_|refine ze ?_ _));exact BK200.out) hb);have n2_:=zk.mk (zt (g:=gb201) (o:= .cells #[.int .i64 t197,.int .i64 t198] 24 (0,0)) (by (with_reducible repeat (first|refine za ?_ _|refine zf ?_|refine ze ?_ _));exact BK201.out) hb);have n3_:=zk.mk (zt (g:=gb205) (o:= .cells #[.int .i64 t202,.int .i64 t203] 30 (0,0)) (by (with_reducible repeat (first|refine za ?_ _|refine zf ?_|refine ze ?_ _));exact BK205.out) hb);have n4_:=zk.mk (zt (g:=gb209) (o:= .cells #[.int .i64 t206,.int .i64 t207] 30 (0,0)) (by (with_reducible repeat (first|refine za ?_ _|refine zf ?_|refine ze ?_ _));exact BK209.out) hb);have n5_:=zk.mk (zaq (by repeat (first|(with_reducible first|exact HB.out|apply zq|apply zm|apply zo|refine zh ?_ GE199.out|refine zh ?_ GE200.out|refine zh ?_ GE201.out|refine zh ?_ GE205.out|refine zh ?_ GE209.out)|exact HB.out)) hb);clear BK199;clear BK200;clear BK201;clear BK205;clear BK209;clear HB;have BK199:=n0_;have BK200:=n1_;have BK201:=n2_;have BK205:=n3_;have BK209:=n4_;have HB:=n5_;clear n0_ n1_ n2_ n3_ n4_ n5_;(try clear hb);(try clear hb2);(try clear hk);(try clear hi))|((with_reducible refine zbC (N:=12) rfl ?_);refine zbz ?hg (N:=12) ?hd (cs:=#[.int .i64 0,.int .i64 0]) (t:=24) ?hr ?_;(case hd=>rfl);(case hg=>rfl);(case hr=>first|(go_simp;done)|(go_simp;rfl));intro gb217 hg w83 hbox hb;have n0_:=zk.mk (zt (g:=gb199) (o:= .cells #[.int .i64 t193,.int .i64 t194] 24 (0,0)) (by (with_reducible repeat (first|refine za ?_ _|refine zf ?_|refine ze ?_ _));exact BK199.out) hb);have n1_:=zk.mk (zt (g:=gb200) (o:= .cells #[.int .i64 t195,.int .i64 t196] 24 (0,0)) (by (with_reducible repeat (first|refine za ?_ _|refine zf ?_|refine ze ?_ _));exact BK200.out) hb);have n2_:=zk.mk (zt (g:=gb201) (o:= .cells #[.int .i64 t197,.int .i64 t198] 24 (0,0)) (by (with_reducible repeat (first|refine za ?_ _|refine zf ?_|refine ze ?_ _));exact BK201.out) hb);have n3_:=zk.mk (zt (g:=gb205) (o:= .cells #[.int .i64 t202,.int .i64 t203] 30 (0,0)) (by (with_reducible repeat (first|refine za ?_ _|refine zf ?_|refine ze ?_ _));exact BK205.out) hb);have n4_:=zk.mk (zt (g:=gb209) (o:= .cells #[.int .i64 t206,.int .i64 t207] 30 (0,0)) (by (with_reducible repeat (first|refine za ?_ _|refine zf ?_|refine ze ?_ _));exact BK209.out) hb);have n5_:=zk.mk (zaq (by repeat (first|(with_reducible first|exact HB.out|apply zq|apply zm|apply zo|refine zh ?_ GE199.out|refine zh ?_ GE200.out|refine zh ?_ GE201.out|refine zh ?_ GE205.out|refine zh ?_ GE209.out)|exact HB.out)) hb);have n6_:=zk.mk (hbox);have n7_:=zk.mk ((by rw [hg];exact (zas (by repeat (first|(with_reducible first|exact HB.out|apply zq|apply zm|apply zo|refine zh ?_ GE199.out|refine zh ?_ GE200.out|refine zh ?_ GE201.out|refine zh ?_ GE205.out|refine zh ?_ GE209.out)|exact HB.out))):w.heap.size<=gb217));have n8_:=zk.mk ((by rw [hg];exact (zas (by repeat (first|(with_reducible first|exact HB.out|apply zq|apply zm|apply zo|refine zh ?_ GE199.out|refine zh ?_ GE200.out|refine zh ?_ GE201.out|refine zh ?_ GE205.out|refine zh ?_ GE209.out)|exact HB.out))):w.heap.size<=gb217));have n9_:=zk.mk ((by rw [hg];exact Nat.ne_of_lt (zQ (g:=gb199) (o:= .cells #[.int .i64 t193,.int .i64 t194] 24 (0,0)) (by (with_reducible repeat (first|refine za ?_ _|refine zf ?_|refine ze ?_ _));exact BK199.out)):gb199≠gb217));have n10_:=zk.mk ((by rw [hg];exact Nat.ne_of_gt (zQ (g:=gb199) (o:= .cells #[.int .i64 t193,.int .i64 t194] 24 (0,0)) (by (with_reducible repeat (first|refine za ?_ _|refine zf ?_|refine ze ?_ _));exact BK199.out)):gb217≠gb199));have n11_:=zk.mk ((by rw [hg];exact Nat.ne_of_lt (zQ (g:=gb200) (o:= .cells #[.int .i64 t195,.int .i64 t196] 24 (0,0)) (by (with_reducible repeat (first|refine za ?_ _|refine zf ?_|refine ze ?_ _));exact BK200.out)):gb200≠gb217));have n12_:=zk.mk ((by rw [hg];exact Nat.ne_of_gt (zQ (g:=gb200) (o:= .cells #[.int .i64 t195,.int .i64 t196] 24 (0,0)) (by (with_reducible repeat (first|refine za ?_ _|refine zf ?_|refine ze ?_ _));exact BK200.out)):gb217≠gb200));have n13_:=zk.mk ((by rw [hg];exact Nat.ne_of_lt (zQ (g:=gb201) (o:= .cells #[.int .i64 t197,.int .i64 t198] 24 (0,0)) (by (with_reducible repeat (first|refine za ?_ _|refine zf ?_|refine ze ?_ _));exact BK201.out)):gb201≠gb217));have n14_:=zk.mk ((by rw [hg];exact Nat.ne_of_gt (zQ (g:=gb201) (o:= .cells #[.int .i64 t197,.int .i64 t198] 24 (0,0)) (by (with_reducible repeat (first|refine za ?_ _|refine zf ?_|refine ze ?_ _));exact BK201.out)):gb217≠gb201));have n15_:=zk.mk ((by rw [hg];exact Nat.ne_of_lt (zQ (g:=gb205) (o:= .cells #[.int .i64 t202,.int .i64 t203] 30 (0,0)) (by (with_reducible repeat (first|refine za ?_ _|refine zf ?_|refine ze ?_ _));exact BK205.out)):gb205≠gb217));have n16_:=zk.mk ((by rw [hg];exact Nat.ne_of_gt (zQ (g:=gb205) (o:= .cells #[.int .i64 t202,.int .i64 t203] 30 (0,0)) (by (with_reducible repeat (first|refine za ?_ _|refine zf ?_|refine ze ?_ _));exact BK205.out)):gb217≠gb205));have n17_:=zk.mk ((by rw [hg];exact Nat.ne_of_lt (zQ (g:=gb209) (o:= .cells #[.int .i64 t206,.int .i64 t207] 30 (0,0)) (by (with_reducible repeat (first|refine za ?_ _|refine zf ?_|refine ze ?_ _));exact BK209.out)):gb209≠gb217));have n18_:=zk.mk ((by rw [hg];exact Nat.ne_of_gt (zQ (g:=gb209) (o:= .cells #[.int .i64 t206,.int .i64 t207] 30 (0,0)) (by (with_reducible repeat (first|refine za ?_ _|refine zf ?_|refine ze ?_ _));exact BK209.out)):gb217≠gb209));clear BK199;clear BK200;clear BK201;clear BK205;clear BK209;clear HB;have BK199:=n0_;have BK200:=n1_;have BK201:=n2_;have BK205:=n3_;have BK209:=n4_;have HB:=n5_;have BK217:=n6_;have GW217:=n7_;have GE217:=n8_;have NB199_217:=n9_;have NB217_199:=n10_;have NB200_217:=n11_;have NB217_200:=n12_;have NB201_217:=n13_;have NB217_201:=n14_;have NB205_217:=n15_;have NB217_205:=n16_;have NB209_217:=n17_;have NB217_209:=n18_;clear n0_ n1_ n2_ n3_ n4_ n5_ n6_ n7_ n8_ n9_ n10_ n11_ n12_ n13_ n14_ n15_ n16_ n17_ n18_;clear hb hbox hg;have hnb84:=NB217_199.out;have hnc84:=NB199_217.out;have hnb85:=NB217_200.out;have hnc85:=NB200_217.out;have hnb86:=NB217_201.out;have hnc86:=NB201_217.out;have hnb87:=NB217_205.out;have hnc87:=NB205_217.out;have hnb88:=NB217_209.out;have hnc88:=NB209_217.out;have hcz89_0:w83.cell? ⟨gb217,0,none⟩=some (.int .i64 0):=(zy BK217.out 0).trans rfl;have hcz89_1:w83.cell? ⟨gb217,1,none⟩=some (.int .i64 0):=(zy BK217.out 1).trans rfl;have hfz89_0:=zu BK217.out 0;have hfz89_1:=zu BK217.out 1;have hnb90:=NB200_201.out;have hnc90:=NB201_200.out;have hnb91:=NB200_205.out;have hnc91:=NB205_200.out;have hnb92:=NB200_209.out;have hnc92:=NB209_200.out;have hcz93_0:w83.cell? ⟨gb200,0,none⟩=some (.int .i64 t195):=(zy BK200.out 0).trans rfl;have hcz93_1:w83.cell? ⟨gb200,1,none⟩=some (.int .i64 t196):=(zy BK200.out 1).trans rfl;have hfz93_0:=zu BK200.out 0;have hfz93_1:=zu BK200.out 1)|((with_reducible refine zai (f:=31) rfl ?_);refine zbB (some 69) rfl rfl Tryz.func31 (by kernel_rfl) rfl #[.agg #[.int .i64 t214,.int .i64 t215],.agg #[.int .i64 t195,.int .i64 t196]] rfl (by (try simp only [List.map_toArray,List.map_cons,List.map_nil]);first|done|rfl|(simp only [List.length_drop,List.length_take];rfl)) ?_;(with_reducible refine (zX.calls t214 t215 t195 t196 t218 t219 t220 _ A71.out).mono ?_);rintro e w94 ⟨rfl,hb⟩;refine ⟨_,rfl,?_⟩;have n0_:=zk.mk (zt (g:=gb199) (o:= .cells #[.int .i64 t193,.int .i64 t194] 24 (0,0)) (by (with_reducible repeat (first|refine za ?_ _|refine zf ?_|refine ze ?_ _));refine zw ?_ NB199_217.out _;(with_reducible repeat (first|refine za ?_ _|refine zf ?_|refine ze ?_ _));refine zw ?_ NB199_217.out _;(with_reducible repeat (first|refine za ?_ _|refine zf ?_|refine ze ?_ _));exact BK199.out) hb);have n1_:=zk.mk (zt (g:=gb200) (o:= .cells #[.int .i64 t195,.int .i64 t196] 24 (0,0)) (by (with_reducible repeat (first|refine za ?_ _|refine zf ?_|refine ze ?_ _));refine zw ?_ NB200_217.out _;(with_reducible repeat (first|refine za ?_ _|refine zf ?_|refine ze ?_ _));refine zw ?_ NB200_217.out _;(with_reducible repeat (first|refine za ?_ _|refine zf ?_|refine ze ?_ _));exact BK200.out) hb);have n2_:=zk.mk (zt (g:=gb201) (o:= .cells #[.int .i64 t197,.int .i64 t198] 24 (0,0)) (by (with_reducible repeat (first|refine za ?_ _|refine zf ?_|refine ze ?_ _));refine zw ?_ NB201_217.out _;(with_reducible repeat (first|refine za ?_ _|refine zf ?_|refine ze ?_ _));refine zw ?_ NB201_217.out _;(with_reducible repeat (first|refine za ?_ _|refine zf ?_|refine ze ?_ _));exact BK201.out) hb);have n3_:=zk.mk (zt (g:=gb205) (o:= .cells #[.int .i64 t202,.int .i64 t203] 30 (0,0)) (by (with_reducible repeat (first|refine za ?_ _|refine zf ?_|refine ze ?_ _));refine zw ?_ NB205_217.out _;(with_reducible repeat (first|refine za ?_ _|refine zf ?_|refine ze ?_ _));refine zw ?_ NB205_217.out _;(with_reducible repeat (first|refine za ?_ _|refine zf ?_|refine ze ?_ _));exact BK205.out) hb);have n4_:=zk.mk (zt (g:=gb209) (o:= .cells #[.int .i64 t206,.int .i64 t207] 30 (0,0)) (by (with_reducible repeat (first|refine za ?_ _|refine zf ?_|refine ze ?_ _));refine zw ?_ NB209_217.out _;(with_reducible repeat (first|refine za ?_ _|refine zf ?_|refine ze ?_ _));refine zw ?_ NB209_217.out _;(with_reducible repeat (first|refine za ?_ _|refine zf ?_|refine ze ?_ _));exact BK209.out) hb);have n5_:=zk.mk (zt (g:=gb217) (o:= .cells #[.int .i64 t214,.int .i64 t215] 24 (0,0)) (by (with_reducible repeat (first|refine za ?_ _|refine zf ?_|refine ze ?_ _));refine zaw (cs:=#[.int .i64 t214,.int .i64 0]) ?_ 1 _ rfl;(with_reducible repeat (first|refine za ?_ _|refine zf ?_|refine ze ?_ _));refine zaw (cs:=#[.int .i64 0,.int .i64 0]) ?_ 0 _ rfl;(with_reducible repeat (first|refine za ?_ _|refine zf ?_|refine ze ?_ _));exact BK217.out) hb);have n6_:=zk.mk (zaq (by repeat (first|(with_reducible first|exact HB.out|apply zq|apply zm|apply zo|refine zh ?_ GE199.out|refine zh ?_ GE200.out|refine zh ?_ GE201.out|refine zh ?_ GE205.out|refine zh ?_ GE209.out|refine zh ?_ GE217.out)|exact HB.out)) hb);clear BK199;clear BK200;clear BK201;clear BK205;clear BK209;clear BK217;clear HB;have BK199:=n0_;have BK200:=n1_;have BK201:=n2_;have BK205:=n3_;have BK209:=n4_;have BK217:=n5_;have HB:=n6_;clear n0_ n1_ n2_ n3_ n4_ n5_ n6_;(try clear hb);(try clear hb2);(try clear hk);(try clear hi))|((with_reducible refine zbC (N:=14) rfl ?_);refine zbz ?hg (N:=14) ?hd (cs:=#[.int .i64 0,.int .i64 0]) (t:=30) ?hr ?_;(case hd=>rfl);(case hg=>rfl);(case hr=>first|(go_simp;done)|(go_simp;rfl));intro gb221 hg w95 hbox hb;have n0_:=zk.mk (zt (g:=gb199) (o:= .cells #[.int .i64 t193,.int .i64 t194] 24 (0,0)) (by (with_reducible repeat (first|refine za ?_ _|refine zf ?_|refine ze ?_ _));exact BK199.out) hb);have n1_:=zk.mk (zt (g:=gb200) (o:= .cells #[.int .i64 t195,.int .i64 t196] 24 (0,0)) (by (with_reducible repeat (first|refine za ?_ _|refine zf ?_|refine ze ?_ _));exact BK200.out) hb);have n2_:=zk.mk (zt (g:=gb201) (o:= .cells #[.int .i64 t197,.int .i64 t198] 24 (0,0)) (by (with_reducible repeat (first|refine za ?_ _|refine zf ?_|refine ze ?_ _));exact BK201.out) hb);have n3_:=zk.mk (zt (g:=gb205) (o:= .cells #[.int .i64 t202,.int .i64 t203] 30 (0,0)) (by (with_reducible repeat (first|refine za ?_ _|refine zf ?_|refine ze ?_ _));exact BK205.out) hb);have n4_:=zk.mk (zt (g:=gb209) (o:= .cells #[.int .i64 t206,.int .i64 t207] 30 (0,0)) (by (with_reducible repeat (first|refine za ?_ _|refine zf ?_|refine ze ?_ _));exact BK209.out) hb);have n5_:=zk.mk (zt (g:=gb217) (o:= .cells #[.int .i64 t214,.int .i64 t215] 24 (0,0)) (by (with_reducible repeat (first|refine za ?_ _|refine zf ?_|refine ze ?_ _));exact BK217.out) hb);have n6_:=zk.mk (zaq (by repeat (first|(with_reducible first|exact HB.out|apply zq|apply zm|apply zo|refine zh ?_ GE199.out|refine zh ?_ GE200.out|refine zh ?_ GE201.out|refine zh ?_ GE205.out|refine zh ?_ GE209.out|refine zh ?_ GE217.out)|exact HB.out)) hb);have n7_:=zk.mk (hbox);have n8_:=zk.mk ((by rw [hg];exact (zas (by repeat (first|(with_reducible first|exact HB.out|apply zq|apply zm|apply zo|refine zh ?_ GE199.out|refine zh ?_ GE200.out|refine zh ?_ GE201.out|refine zh ?_ GE205.out|refine zh ?_ GE209.out|refine zh ?_ GE217.out)|exact HB.out))):w.heap.size<=gb221));have n9_:=zk.mk ((by rw [hg];exact (zas (by repeat (first|(with_reducible first|exact HB.out|apply zq|apply zm|apply zo|refine zh ?_ GE199.out|refine zh ?_ GE200.out|refine zh ?_ GE201.out|refine zh ?_ GE205.out|refine zh ?_ GE209.out|refine zh ?_ GE217.out)|exact HB.out))):w.heap.size<=gb221));have n10_:=zk.mk ((by rw [hg];exact Nat.ne_of_lt (zQ (g:=gb199) (o:= .cells #[.int .i64 t193,.int .i64 t194] 24 (0,0)) (by (with_reducible repeat (first|refine za ?_ _|refine zf ?_|refine ze ?_ _));exact BK199.out)):gb199≠gb221));have n11_:=zk.mk ((by rw [hg];exact Nat.ne_of_gt (zQ (g:=gb199) (o:= .cells #[.int .i64 t193,.int .i64 t194] 24 (0,0)) (by (with_reducible repeat (first|refine za ?_ _|refine zf ?_|refine ze ?_ _));exact BK199.out)):gb221≠gb199));have n12_:=zk.mk ((by rw [hg];exact Nat.ne_of_lt (zQ (g:=gb200) (o:= .cells #[.int .i64 t195,.int .i64 t196] 24 (0,0)) (by (with_reducible repeat (first|refine za ?_ _|refine zf ?_|refine ze ?_ _));exact BK200.out)):gb200≠gb221));have n13_:=zk.mk ((by rw [hg];exact Nat.ne_of_gt (zQ (g:=gb200) (o:= .cells #[.int .i64 t195,.int .i64 t196] 24 (0,0)) (by (with_reducible repeat (first|refine za ?_ _|refine zf ?_|refine ze ?_ _));exact BK200.out)):gb221≠gb200));have n14_:=zk.mk ((by rw [hg];exact Nat.ne_of_lt (zQ (g:=gb201) (o:= .cells #[.int .i64 t197,.int .i64 t198] 24 (0,0)) (by (with_reducible repeat (first|refine za ?_ _|refine zf ?_|refine ze ?_ _));exact BK201.out)):gb201≠gb221));have n15_:=zk.mk ((by rw [hg];exact Nat.ne_of_gt (zQ (g:=gb201) (o:= .cells #[.int .i64 t197,.int .i64 t198] 24 (0,0)) (by (with_reducible repeat (first|refine za ?_ _|refine zf ?_|refine ze ?_ _));exact BK201.out)):gb221≠gb201));have n16_:=zk.mk ((by rw [hg];exact Nat.ne_of_lt (zQ (g:=gb205) (o:= .cells #[.int .i64 t202,.int .i64 t203] 30 (0,0)) (by (with_reducible repeat (first|refine za ?_ _|refine zf ?_|refine ze ?_ _));exact BK205.out)):gb205≠gb221));have n17_:=zk.mk ((by rw [hg];exact Nat.ne_of_gt (zQ (g:=gb205) (o:= .cells #[.int .i64 t202,.int .i64 t203] 30 (0,0)) (by (with_reducible repeat (first|refine za ?_ _|refine zf ?_|refine ze ?_ _));exact BK205.out)):gb221≠gb205));have n18_:=zk.mk ((by rw [hg];exact Nat.ne_of_lt (zQ (g:=gb209) (o:= .cells #[.int .i64 t206,.int .i64 t207] 30 (0,0)) (by (with_reducible repeat (first|refine za ?_ _|refine zf ?_|refine ze ?_ _));exact BK209.out)):gb209≠gb221));have n19_:=zk.mk ((by rw [hg];exact Nat.ne_of_gt (zQ (g:=gb209) (o:= .cells #[.int .i64 t206,.int .i64 t207] 30 (0,0)) (by (with_reducible repeat (first|refine za ?_ _|refine zf ?_|refine ze ?_ _));exact BK209.out)):gb221≠gb209));have n20_:=zk.mk ((by rw [hg];exact Nat.ne_of_lt (zQ (g:=gb217) (o:= .cells #[.int .i64 t214,.int .i64 t215] 24 (0,0)) (by (with_reducible repeat (first|refine za ?_ _|refine zf ?_|refine ze ?_ _));exact BK217.out)):gb217≠gb221));have n21_:=zk.mk ((by rw [hg];exact Nat.ne_of_gt (zQ (g:=gb217) (o:= .cells #[.int .i64 t214,.int .i64 t215] 24 (0,0)) (by (with_reducible repeat (first|refine za ?_ _|refine zf ?_|refine ze ?_ _));exact BK217.out)):gb221≠gb217));clear BK199;clear BK200;clear BK201;clear BK205;clear BK209;clear BK217;clear HB;have BK199:=n0_;have BK200:=n1_;have BK201:=n2_;have BK205:=n3_;have BK209:=n4_;have BK217:=n5_;have HB:=n6_;have BK221:=n7_;have GW221:=n8_;have GE221:=n9_;have NB199_221:=n10_;have NB221_199:=n11_;have NB200_221:=n12_;have NB221_200:=n13_;have NB201_221:=n14_;have NB221_201:=n15_;have NB205_221:=n16_;have NB221_205:=n17_;have NB209_221:=n18_;have NB221_209:=n19_;have NB217_221:=n20_;have NB221_217:=n21_;clear n0_ n1_ n2_ n3_ n4_ n5_ n6_ n7_ n8_ n9_ n10_ n11_ n12_ n13_ n14_ n15_ n16_ n17_ n18_ n19_ n20_ n21_;clear hb hbox hg;have hnb96:=NB221_199.out;have hnc96:=NB199_221.out;have hnb97:=NB221_200.out;have hnc97:=NB200_221.out;have hnb98:=NB221_201.out;have hnc98:=NB201_221.out;have hnb99:=NB221_205.out;have hnc99:=NB205_221.out;have hnb100:=NB221_209.out;have hnc100:=NB209_221.out;have hnb101:=NB221_217.out;have hnc101:=NB217_221.out;have hcz102_0:w95.cell? ⟨gb221,0,none⟩=some (.int .i64 0):=(zy BK221.out 0).trans rfl;have hcz102_1:w95.cell? ⟨gb221,1,none⟩=some (.int .i64 0):=(zy BK221.out 1).trans rfl;have hfz102_0:=zu BK221.out 0;have hfz102_1:=zu BK221.out 1;have hcz103_0:w95.cell? ⟨gb199,0,none⟩=some (.int .i64 t193):=(zy BK199.out 0).trans rfl;have hcz103_1:w95.cell? ⟨gb199,1,none⟩=some (.int .i64 t194):=(zy BK199.out 1).trans rfl;have hfz103_0:=zu BK199.out 0;have hfz103_1:=zu BK199.out 1;have hnb104:=NB201_205.out;have hnc104:=NB205_201.out;have hnb105:=NB201_209.out;have hnc105:=NB209_201.out;have hcz106_0:w95.cell? ⟨gb201,0,none⟩=some (.int .i64 t197):=(zy BK201.out 0).trans rfl;have hcz106_1:w95.cell? ⟨gb201,1,none⟩=some (.int .i64 t198):=(zy BK201.out 1).trans rfl;have hfz106_0:=zu BK201.out 0;have hfz106_1:=zu BK201.out 1)|((with_reducible refine zai (f:=31) rfl ?_);refine zbB (some 75) rfl rfl Tryz.func31 (by kernel_rfl) rfl #[.agg #[.int .i64 t193,.int .i64 t194],.agg #[.int .i64 t197,.int .i64 t198]] rfl (by (try simp only [List.map_toArray,List.map_cons,List.map_nil]);first|done|rfl|(simp only [List.length_drop,List.length_take];rfl)) ?_;(with_reducible refine (zX.calls t193 t194 t197 t198 t222 t223 t224 _ A72.out).mono ?_);rintro e w107 ⟨rfl,hb⟩;refine ⟨_,rfl,?_⟩;have n0_:=zk.mk (zt (g:=gb199) (o:= .cells #[.int .i64 t193,.int .i64 t194] 24 (0,0)) (by (with_reducible repeat (first|refine za ?_ _|refine zf ?_|refine ze ?_ _));refine zw ?_ NB199_221.out _;(with_reducible repeat (first|refine za ?_ _|refine zf ?_|refine ze ?_ _));refine zw ?_ NB199_221.out _;(with_reducible repeat (first|refine za ?_ _|refine zf ?_|refine ze ?_ _));exact BK199.out) hb);have n1_:=zk.mk (zt (g:=gb200) (o:= .cells #[.int .i64 t195,.int .i64 t196] 24 (0,0)) (by (with_reducible repeat (first|refine za ?_ _|refine zf ?_|refine ze ?_ _));refine zw ?_ NB200_221.out _;(with_reducible repeat (first|refine za ?_ _|refine zf ?_|refine ze ?_ _));refine zw ?_ NB200_221.out _;(with_reducible repeat (first|refine za ?_ _|refine zf ?_|refine ze ?_ _));exact BK200.out) hb);have n2_:=zk.mk (zt (g:=gb201) (o:= .cells #[.int .i64 t197,.int .i64 t198] 24 (0,0)) (by (with_reducible repeat (first|refine za ?_ _|refine zf ?_|refine ze ?_ _));refine zw ?_ NB201_221.out _;(with_reducible repeat (first|refine za ?_ _|refine zf ?_|refine ze ?_ _));refine zw ?_ NB201_221.out _;(with_reducible repeat (first|refine za ?_ _|refine zf ?_|refine ze ?_ _));exact BK201.out) hb);have n3_:=zk.mk (zt (g:=gb205) (o:= .cells #[.int .i64 t202,.int .i64 t203] 30 (0,0)) (by (with_reducible repeat (first|refine za ?_ _|refine zf ?_|refine ze ?_ _));refine zw ?_ NB205_221.out _;(with_reducible repeat (first|refine za ?_ _|refine zf ?_|refine ze ?_ _));refine zw ?_ NB205_221.out _;(with_reducible repeat (first|refine za ?_ _|refine zf ?_|refine ze ?_ _));exact BK205.out) hb);have n4_:=zk.mk (zt (g:=gb209) (o:= .cells #[.int .i64 t206,.int .i64 t207] 30 (0,0)) (by (with_reducible repeat (first|refine za ?_ _|refine zf ?_|refine ze ?_ _));refine zw ?_ NB209_221.out _;(with_reducible repeat (first|refine za ?_ _|refine zf ?_|refine ze ?_ _));refine zw ?_ NB209_221.out _;(with_reducible repeat (first|refine za ?_ _|refine zf ?_|refine ze ?_ _));exact BK209.out) hb);have n5_:=zk.mk (zt (g:=gb217) (o:= .cells #[.int .i64 t214,.int .i64 t215] 24 (0,0)) (by (with_reducible repeat (first|refine za ?_ _|refine zf ?_|refine ze ?_ _));refine zw ?_ NB217_221.out _;(with_reducible repeat (first|refine za ?_ _|refine zf ?_|refine ze ?_ _));refine zw ?_ NB217_221.out _;(with_reducible repeat (first|refine za ?_ _|refine zf ?_|refine ze ?_ _));exact BK217.out) hb);have n6_:=zk.mk (zt (g:=gb221) (o:= .cells #[.int .i64 t218,.int .i64 t219] 30 (0,0)) (by (with_reducible repeat (first|refine za ?_ _|refine zf ?_|refine ze ?_ _));refine zaw (cs:=#[.int .i64 t218,.int .i64 0]) ?_ 1 _ rfl;(with_reducible repeat (first|refine za ?_ _|refine zf ?_|refine ze ?_ _));refine zaw (cs:=#[.int .i64 0,.int .i64 0]) ?_ 0 _ rfl;(with_reducible repeat (first|refine za ?_ _|refine zf ?_|refine ze ?_ _));exact BK221.out) hb);have n7_:=zk.mk (zaq (by repeat (first|(with_reducible first|exact HB.out|apply zq|apply zm|apply zo|refine zh ?_ GE199.out|refine zh ?_ GE200.out|refine zh ?_ GE201.out|refine zh ?_ GE205.out|refine zh ?_ GE209.out|refine zh ?_ GE217.out|refine zh ?_ GE221.out)|exact HB.out)) hb);clear BK199;clear BK200;clear BK201;clear BK205;clear BK209;clear BK217;clear BK221;clear HB;have BK199:=n0_;have BK200:=n1_;have BK201:=n2_;have BK205:=n3_;have BK209:=n4_;have BK217:=n5_;have BK221:=n6_;have HB:=n7_;clear n0_ n1_ n2_ n3_ n4_ n5_ n6_ n7_;(try clear hb);(try clear hb2);(try clear hk);(try clear hi))|((with_reducible refine zbC (N:=16) rfl ?_);refine zbz ?hg (N:=16) ?hd (cs:=#[.int .i64 0,.int .i64 0]) (t:=30) ?hr ?_;(case hd=>rfl);(case hg=>rfl);(case hr=>first|(go_simp;done)|(go_simp;rfl));intro gb225 hg w108 hbox hb;have n0_:=zk.mk (zt (g:=gb199) (o:= .cells #[.int .i64 t193,.int .i64 t194] 24 (0,0)) (by (with_reducible repeat (first|refine za ?_ _|refine zf ?_|refine ze ?_ _));exact BK199.out) hb);have n1_:=zk.mk (zt (g:=gb200) (o:= .cells #[.int .i64 t195,.int .i64 t196] 24 (0,0)) (by (with_reducible repeat (first|refine za ?_ _|refine zf ?_|refine ze ?_ _));exact BK200.out) hb);have n2_:=zk.mk (zt (g:=gb201) (o:= .cells #[.int .i64 t197,.int .i64 t198] 24 (0,0)) (by (with_reducible repeat (first|refine za ?_ _|refine zf ?_|refine ze ?_ _));exact BK201.out) hb);have n3_:=zk.mk (zt (g:=gb205) (o:= .cells #[.int .i64 t202,.int .i64 t203] 30 (0,0)) (by (with_reducible repeat (first|refine za ?_ _|refine zf ?_|refine ze ?_ _));exact BK205.out) hb);have n4_:=zk.mk (zt (g:=gb209) (o:= .cells #[.int .i64 t206,.int .i64 t207] 30 (0,0)) (by (with_reducible repeat (first|refine za ?_ _|refine zf ?_|refine ze ?_ _));exact BK209.out) hb);have n5_:=zk.mk (zt (g:=gb217) (o:= .cells #[.int .i64 t214,.int .i64 t215] 24 (0,0)) (by (with_reducible repeat (first|refine za ?_ _|refine zf ?_|refine ze ?_ _));exact BK217.out) hb);have n6_:=zk.mk (zt (g:=gb221) (o:= .cells #[.int .i64 t218,.int .i64 t219] 30 (0,0)) (by (with_reducible repeat (first|refine za ?_ _|refine zf ?_|refine ze ?_ _));exact BK221.out) hb);have n7_:=zk.mk (zaq (by repeat (first|(with_reducible first|exact HB.out|apply zq|apply zm|apply zo|refine zh ?_ GE199.out|refine zh ?_ GE200.out|refine zh ?_ GE201.out|refine zh ?_ GE205.out|refine zh ?_ GE209.out|refine zh ?_ GE217.out|refine zh ?_ GE221.out)|exact HB.out)) hb);have n8_:=zk.mk (hbox);have n9_:=zk.mk ((by rw [hg];exact (zas (by repeat (first|(with_reducible first|exact HB.out|apply zq|apply zm|apply zo|refine zh ?_ GE199.out|refine zh ?_ GE200.out|refine zh ?_ GE201.out|refine zh ?_ GE205.out|refine zh ?_ GE209.out|refine zh ?_ GE217.out|refine zh ?_ GE221.out)|exact HB.out))):w.heap.size<=gb225));have n10_:=zk.mk ((by rw [hg];exact (zas (by repeat (first|(with_reducible first|exact HB.out|apply zq|apply zm|apply zo|refine zh ?_ GE199.out|refine zh ?_ GE200.out|refine zh ?_ GE201.out|refine zh ?_ GE205.out|refine zh ?_ GE209.out|refine zh ?_ GE217.out|refine zh ?_ GE221.out)|exact HB.out))):w.heap.size<=gb225));have n11_:=zk.mk ((by rw [hg];exact Nat.ne_of_lt (zQ (g:=gb199) (o:= .cells #[.int .i64 t193,.int .i64 t194] 24 (0,0)) (by (with_reducible repeat (first|refine za ?_ _|refine zf ?_|refine ze ?_ _));exact BK199.out)):gb199≠gb225));have n12_:=zk.mk ((by rw [hg];exact Nat.ne_of_gt (zQ (g:=gb199) (o:= .cells #[.int .i64 t193,.int .i64 t194] 24 (0,0)) (by (with_reducible repeat (first|refine za ?_ _|refine zf ?_|refine ze ?_ _));exact BK199.out)):gb225≠gb199));have n13_:=zk.mk ((by rw [hg];exact Nat.ne_of_lt (zQ (g:=gb200) (o:= .cells #[.int .i64 t195,.int .i64 t196] 24 (0,0)) (by (with_reducible repeat (first|refine za ?_ _|refine zf ?_|refine ze ?_ _));exact BK200.out)):gb200≠gb225));have n14_:=zk.mk ((by rw [hg];exact Nat.ne_of_gt (zQ (g:=gb200) (o:= .cells #[.int .i64 t195,.int .i64 t196] 24 (0,0)) (by (with_reducible repeat (first|refine za ?_ _|refine zf ?_|refine ze ?_ _));exact BK200.out)):gb225≠gb200));have n15_:=zk.mk ((by rw [hg];exact Nat.ne_of_lt (zQ (g:=gb201) (o:= .cells #[.int .i64 t197,.int .i64 t198] 24 (0,0)) (by (with_reducible repeat (first|refine za ?_ _|refine zf ?_|refine ze ?_ _));exact BK201.out)):gb201≠gb225));have n16_:=zk.mk ((by rw [hg];exact Nat.ne_of_gt (zQ (g:=gb201) (o:= .cells #[.int .i64 t197,.int .i64 t198] 24 (0,0)) (by (with_reducible repeat (first|refine za ?_ _|refine zf ?_|refine ze ?_ _));exact BK201.out)):gb225≠gb201));have n17_:=zk.mk ((by rw [hg];exact Nat.ne_of_lt (zQ (g:=gb205) (o:= .cells #[.int .i64 t202,.int .i64 t203] 30 (0,0)) (by (with_reducible repeat (first|refine za ?_ _|refine zf ?_|refine ze ?_ _));exact BK205.out)):gb205≠gb225));have n18_:=zk.mk ((by rw [hg];exact Nat.ne_of_gt (zQ (g:=gb205) (o:= .cells #[.int .i64 t202,.int .i64 t203] 30 (0,0)) (by (with_reducible repeat (first|refine za ?_ _|refine zf ?_|refine ze ?_ _));exact BK205.out)):gb225≠gb205));have n19_:=zk.mk ((by rw [hg];exact Nat.ne_of_lt (zQ (g:=gb209) (o:= .cells #[.int .i64 t206,.int .i64 t207] 30 (0,0)) (by (with_reducible repeat (first|refine za ?_ _|refine zf ?_|refine ze ?_ _));exact BK209.out)):gb209≠gb225));have n20_:=zk.mk ((by rw [hg];exact Nat.ne_of_gt (zQ (g:=gb209) (o:= .cells #[.int .i64 t206,.int .i64 t207] 30 (0,0)) (by (with_reducible repeat (first|refine za ?_ _|refine zf ?_|refine ze ?_ _));exact BK209.out)):gb225≠gb209));have n21_:=zk.mk ((by rw [hg];exact Nat.ne_of_lt (zQ (g:=gb217) (o:= .cells #[.int .i64 t214,.int .i64 t215] 24 (0,0)) (by (with_reducible repeat (first|refine za ?_ _|refine zf ?_|refine ze ?_ _));exact BK217.out)):gb217≠gb225));have n22_:=zk.mk ((by rw [hg];exact Nat.ne_of_gt (zQ (g:=gb217) (o:= .cells #[.int .i64 t214,.int .i64 t215] 24 (0,0)) (by (with_reducible repeat (first|refine za ?_ _|refine zf ?_|refine ze ?_ _));exact BK217.out)):gb225≠gb217));have n23_:=zk.mk ((by rw [hg];exact Nat.ne_of_lt (zQ (g:=gb221) (o:= .cells #[.int .i64 t218,.int .i64 t219] 30 (0,0)) (by (with_reducible repeat (first|refine za ?_ _|refine zf ?_|refine ze ?_ _));exact BK221.out)):gb221≠gb225));have n24_:=zk.mk ((by rw [hg];exact Nat.ne_of_gt (zQ (g:=gb221) (o:= .cells #[.int .i64 t218,.int .i64 t219] 30 (0,0)) (by (with_reducible repeat (first|refine za ?_ _|refine zf ?_|refine ze ?_ _));exact BK221.out)):gb225≠gb221));clear BK199;clear BK200;clear BK201;clear BK205;clear BK209;clear BK217;clear BK221;clear HB;have BK199:=n0_;have BK200:=n1_;have BK201:=n2_;have BK205:=n3_;have BK209:=n4_;have BK217:=n5_;have BK221:=n6_;have HB:=n7_;have BK225:=n8_;have GW225:=n9_;have GE225:=n10_;have NB199_225:=n11_;have NB225_199:=n12_;have NB200_225:=n13_;have NB225_200:=n14_;have NB201_225:=n15_;have NB225_201:=n16_;have NB205_225:=n17_;have NB225_205:=n18_;have NB209_225:=n19_;have NB225_209:=n20_;have NB217_225:=n21_;have NB225_217:=n22_;have NB221_225:=n23_;have NB225_221:=n24_;clear n0_ n1_ n2_ n3_ n4_ n5_ n6_ n7_ n8_ n9_ n10_ n11_ n12_ n13_ n14_ n15_ n16_ n17_ n18_ n19_ n20_ n21_ n22_ n23_ n24_;clear hb hbox hg;have hnb109:=NB225_199.out;have hnc109:=NB199_225.out;have hnb110:=NB225_200.out;have hnc110:=NB200_225.out;have hnb111:=NB225_201.out;have hnc111:=NB201_225.out;have hnb112:=NB225_205.out;have hnc112:=NB205_225.out;have hnb113:=NB225_209.out;have hnc113:=NB209_225.out;have hnb114:=NB225_217.out;have hnc114:=NB217_225.out;have hnb115:=NB225_221.out;have hnc115:=NB221_225.out;have hcz116_0:w108.cell? ⟨gb225,0,none⟩=some (.int .i64 0):=(zy BK225.out 0).trans rfl;have hcz116_1:w108.cell? ⟨gb225,1,none⟩=some (.int .i64 0):=(zy BK225.out 1).trans rfl;have hfz116_0:=zu BK225.out 0;have hfz116_1:=zu BK225.out 1;have hcz117_0:w108.cell? ⟨gb201,0,none⟩=some (.int .i64 t197):=(zy BK201.out 0).trans rfl;have hcz117_1:w108.cell? ⟨gb201,1,none⟩=some (.int .i64 t198):=(zy BK201.out 1).trans rfl;have hfz117_0:=zu BK201.out 0;have hfz117_1:=zu BK201.out 1;have hcz118_0:w108.cell? ⟨gb200,0,none⟩=some (.int .i64 t195):=(zy BK200.out 0).trans rfl;have hcz118_1:w108.cell? ⟨gb200,1,none⟩=some (.int .i64 t196):=(zy BK200.out 1).trans rfl;have hfz118_0:=zu BK200.out 0;have hfz118_1:=zu BK200.out 1)|((with_reducible refine zai (f:=31) rfl ?_);refine zbB (some 81) rfl rfl Tryz.func31 (by kernel_rfl) rfl #[.agg #[.int .i64 t197,.int .i64 t198],.agg #[.int .i64 t195,.int .i64 t196]] rfl (by (try simp only [List.map_toArray,List.map_cons,List.map_nil]);first|done|rfl|(simp only [List.length_drop,List.length_take];rfl)) ?_;(with_reducible refine (zX.calls t197 t198 t195 t196 t226 t227 t228 _ A73.out).mono ?_);rintro e w119 ⟨rfl,hb⟩;refine ⟨_,rfl,?_⟩;have n0_:=zk.mk (zt (g:=gb199) (o:= .cells #[.int .i64 t193,.int .i64 t194] 24 (0,0)) (by (with_reducible repeat (first|refine za ?_ _|refine zf ?_|refine ze ?_ _));refine zw ?_ NB199_225.out _;(with_reducible repeat (first|refine za ?_ _|refine zf ?_|refine ze ?_ _));refine zw ?_ NB199_225.out _;(with_reducible repeat (first|refine za ?_ _|refine zf ?_|refine ze ?_ _));exact BK199.out) hb);have n1_:=zk.mk (zt (g:=gb200) (o:= .cells #[.int .i64 t195,.int .i64 t196] 24 (0,0)) (by (with_reducible repeat (first|refine za ?_ _|refine zf ?_|refine ze ?_ _));refine zw ?_ NB200_225.out _;(with_reducible repeat (first|refine za ?_ _|refine zf ?_|refine ze ?_ _));refine zw ?_ NB200_225.out _;(with_reducible repeat (first|refine za ?_ _|refine zf ?_|refine ze ?_ _));exact BK200.out) hb);have n2_:=zk.mk (zt (g:=gb201) (o:= .cells #[.int .i64 t197,.int .i64 t198] 24 (0,0)) (by (with_reducible repeat (first|refine za ?_ _|refine zf ?_|refine ze ?_ _));refine zw ?_ NB201_225.out _;(with_reducible repeat (first|refine za ?_ _|refine zf ?_|refine ze ?_ _));refine zw ?_ NB201_225.out _;(with_reducible repeat (first|refine za ?_ _|refine zf ?_|refine ze ?_ _));exact BK201.out) hb);have n3_:=zk.mk (zt (g:=gb205) (o:= .cells #[.int .i64 t202,.int .i64 t203] 30 (0,0)) (by (with_reducible repeat (first|refine za ?_ _|refine zf ?_|refine ze ?_ _));refine zw ?_ NB205_225.out _;(with_reducible repeat (first|refine za ?_ _|refine zf ?_|refine ze ?_ _));refine zw ?_ NB205_225.out _;(with_reducible repeat (first|refine za ?_ _|refine zf ?_|refine ze ?_ _));exact BK205.out) hb);have n4_:=zk.mk (zt (g:=gb209) (o:= .cells #[.int .i64 t206,.int .i64 t207] 30 (0,0)) (by (with_reducible repeat (first|refine za ?_ _|refine zf ?_|refine ze ?_ _));refine zw ?_ NB209_225.out _;(with_reducible repeat (first|refine za ?_ _|refine zf ?_|refine ze ?_ _));refine zw ?_ NB209_225.out _;(with_reducible repeat (first|refine za ?_ _|refine zf ?_|refine ze ?_ _));exact BK209.out) hb);have n5_:=zk.mk (zt (g:=gb217) (o:= .cells #[.int .i64 t214,.int .i64 t215] 24 (0,0)) (by (with_reducible repeat (first|refine za ?_ _|refine zf ?_|refine ze ?_ _));refine zw ?_ NB217_225.out _;(with_reducible repeat (first|refine za ?_ _|refine zf ?_|refine ze ?_ _));refine zw ?_ NB217_225.out _;(with_reducible repeat (first|refine za ?_ _|refine zf ?_|refine ze ?_ _));exact BK217.out) hb);have n6_:=zk.mk (zt (g:=gb221) (o:= .cells #[.int .i64 t218,.int .i64 t219] 30 (0,0)) (by (with_reducible repeat (first|refine za ?_ _|refine zf ?_|refine ze ?_ _));refine zw ?_ NB221_225.out _;(with_reducible repeat (first|refine za ?_ _|refine zf ?_|refine ze ?_ _));refine zw ?_ NB221_225.out _;(with_reducible repeat (first|refine za ?_ _|refine zf ?_|refine ze ?_ _));exact BK221.out) hb);have n7_:=zk.mk (zt (g:=gb225) (o:= .cells #[.int .i64 t222,.int .i64 t223] 30 (0,0)) (by (with_reducible repeat (first|refine za ?_ _|refine zf ?_|refine ze ?_ _));refine zaw (cs:=#[.int .i64 t222,.int .i64 0]) ?_ 1 _ rfl;(with_reducible repeat (first|refine za ?_ _|refine zf ?_|refine ze ?_ _));refine zaw (cs:=#[.int .i64 0,.int .i64 0]) ?_ 0 _ rfl;(with_reducible repeat (first|refine za ?_ _|refine zf ?_|refine ze ?_ _));exact BK225.out) hb);have n8_:=zk.mk (zaq (by repeat (first|(with_reducible first|exact HB.out|apply zq|apply zm|apply zo|refine zh ?_ GE199.out|refine zh ?_ GE200.out|refine zh ?_ GE201.out|refine zh ?_ GE205.out|refine zh ?_ GE209.out|refine zh ?_ GE217.out|refine zh ?_ GE221.out|refine zh ?_ GE225.out)|exact HB.out)) hb);clear BK199;clear BK200;clear BK201;clear BK205;clear BK209;clear BK217;clear BK221;clear BK225;clear HB;have BK199:=n0_;have BK200:=n1_;have BK201:=n2_;have BK205:=n3_;have BK209:=n4_;have BK217:=n5_;have BK221:=n6_;have BK225:=n7_;have HB:=n8_;clear n0_ n1_ n2_ n3_ n4_ n5_ n6_ n7_ n8_;(try clear hb);(try clear hb2);(try clear hk);(try clear hi))|((with_reducible refine zbC (N:=18) rfl ?_);refine zbz ?hg (N:=18) ?hd (cs:=#[.int .i64 0,.int .i64 0]) (t:=30) ?hr ?_;(case hd=>rfl);(case hg=>rfl);(case hr=>first|(go_simp;done)|(go_simp;rfl));intro gb229 hg w120 hbox hb;have n0_:=zk.mk (zt (g:=gb199) (o:= .cells #[.int .i64 t193,.int .i64 t194] 24 (0,0)) (by (with_reducible repeat (first|refine za ?_ _|refine zf ?_|refine ze ?_ _));exact BK199.out) hb);have n1_:=zk.mk (zt (g:=gb200) (o:= .cells #[.int .i64 t195,.int .i64 t196] 24 (0,0)) (by (with_reducible repeat (first|refine za ?_ _|refine zf ?_|refine ze ?_ _));exact BK200.out) hb);have n2_:=zk.mk (zt (g:=gb201) (o:= .cells #[.int .i64 t197,.int .i64 t198] 24 (0,0)) (by (with_reducible repeat (first|refine za ?_ _|refine zf ?_|refine ze ?_ _));exact BK201.out) hb);have n3_:=zk.mk (zt (g:=gb205) (o:= .cells #[.int .i64 t202,.int .i64 t203] 30 (0,0)) (by (with_reducible repeat (first|refine za ?_ _|refine zf ?_|refine ze ?_ _));exact BK205.out) hb);have n4_:=zk.mk (zt (g:=gb209) (o:= .cells #[.int .i64 t206,.int .i64 t207] 30 (0,0)) (by (with_reducible repeat (first|refine za ?_ _|refine zf ?_|refine ze ?_ _));exact BK209.out) hb);have n5_:=zk.mk (zt (g:=gb217) (o:= .cells #[.int .i64 t214,.int .i64 t215] 24 (0,0)) (by (with_reducible repeat (first|refine za ?_ _|refine zf ?_|refine ze ?_ _));exact BK217.out) hb);have n6_:=zk.mk (zt (g:=gb221) (o:= .cells #[.int .i64 t218,.int .i64 t219] 30 (0,0)) (by (with_reducible repeat (first|refine za ?_ _|refine zf ?_|refine ze ?_ _));exact BK221.out) hb);have n7_:=zk.mk (zt (g:=gb225) (o:= .cells #[.int .i64 t222,.int .i64 t223] 30 (0,0)) (by (with_reducible repeat (first|refine za ?_ _|refine zf ?_|refine ze ?_ _));exact BK225.out) hb);have n8_:=zk.mk (zaq (by repeat (first|(with_reducible first|exact HB.out|apply zq|apply zm|apply zo|refine zh ?_ GE199.out|refine zh ?_ GE200.out|refine zh ?_ GE201.out|refine zh ?_ GE205.out|refine zh ?_ GE209.out|refine zh ?_ GE217.out|refine zh ?_ GE221.out|refine zh ?_ GE225.out)|exact HB.out)) hb);have n9_:=zk.mk (hbox);have n10_:=zk.mk ((by rw [hg];exact (zas (by repeat (first|(with_reducible first|exact HB.out|apply zq|apply zm|apply zo|refine zh ?_ GE199.out|refine zh ?_ GE200.out|refine zh ?_ GE201.out|refine zh ?_ GE205.out|refine zh ?_ GE209.out|refine zh ?_ GE217.out|refine zh ?_ GE221.out|refine zh ?_ GE225.out)|exact HB.out))):w.heap.size<=gb229));have n11_:=zk.mk ((by rw [hg];exact (zas (by repeat (first|(with_reducible first|exact HB.out|apply zq|apply zm|apply zo|refine zh ?_ GE199.out|refine zh ?_ GE200.out|refine zh ?_ GE201.out|refine zh ?_ GE205.out|refine zh ?_ GE209.out|refine zh ?_ GE217.out|refine zh ?_ GE221.out|refine zh ?_ GE225.out)|exact HB.out))):w.heap.size<=gb229));have n12_:=zk.mk ((by rw [hg];exact Nat.ne_of_lt (zQ (g:=gb199) (o:= .cells #[.int .i64 t193,.int .i64 t194] 24 (0,0)) (by (with_reducible repeat (first|refine za ?_ _|refine zf ?_|refine ze ?_ _));exact BK199.out)):gb199≠gb229));have n13_:=zk.mk ((by rw [hg];exact Nat.ne_of_gt (zQ (g:=gb199) (o:= .cells #[.int .i64 t193,.int .i64 t194] 24 (0,0)) (by (with_reducible repeat (first|refine za ?_ _|refine zf ?_|refine ze ?_ _));exact BK199.out)):gb229≠gb199));have n14_:=zk.mk ((by rw [hg];exact Nat.ne_of_lt (zQ (g:=gb200) (o:= .cells #[.int .i64 t195,.int .i64 t196] 24 (0,0)) (by (with_reducible repeat (first|refine za ?_ _|refine zf ?_|refine ze ?_ _));exact BK200.out)):gb200≠gb229));have n15_:=zk.mk ((by rw [hg];exact Nat.ne_of_gt (zQ (g:=gb200) (o:= .cells #[.int .i64 t195,.int .i64 t196] 24 (0,0)) (by (with_reducible repeat (first|refine za ?_ _|refine zf ?_|refine ze ?_ _));exact BK200.out)):gb229≠gb200));have n16_:=zk.mk ((by rw [hg];exact Nat.ne_of_lt (zQ (g:=gb201) (o:= .cells #[.int .i64 t197,.int .i64 t198] 24 (0,0)) (by (with_reducible repeat (first|refine za ?_ _|refine zf ?_|refine ze ?_ _));exact BK201.out)):gb201≠gb229));have n17_:=zk.mk ((by rw [hg];exact Nat.ne_of_gt (zQ (g:=gb201) (o:= .cells #[.int .i64 t197,.int .i64 t198] 24 (0,0)) (by (with_reducible repeat (first|refine za ?_ _|refine zf ?_|refine ze ?_ _));exact BK201.out)):gb229≠gb201));have n18_:=zk.mk ((by rw [hg];exact Nat.ne_of_lt (zQ (g:=gb205) (o:= .cells #[.int .i64 t202,.int .i64 t203] 30 (0,0)) (by (with_reducible repeat (first|refine za ?_ _|refine zf ?_|refine ze ?_ _));exact BK205.out)):gb205≠gb229));have n19_:=zk.mk ((by rw [hg];exact Nat.ne_of_gt (zQ (g:=gb205) (o:= .cells #[.int .i64 t202,.int .i64 t203] 30 (0,0)) (by (with_reducible repeat (first|refine za ?_ _|refine zf ?_|refine ze ?_ _));exact BK205.out)):gb229≠gb205));have n20_:=zk.mk ((by rw [hg];exact Nat.ne_of_lt (zQ (g:=gb209) (o:= .cells #[.int .i64 t206,.int .i64 t207] 30 (0,0)) (by (with_reducible repeat (first|refine za ?_ _|refine zf ?_|refine ze ?_ _));exact BK209.out)):gb209≠gb229));have n21_:=zk.mk ((by rw [hg];exact Nat.ne_of_gt (zQ (g:=gb209) (o:= .cells #[.int .i64 t206,.int .i64 t207] 30 (0,0)) (by (with_reducible repeat (first|refine za ?_ _|refine zf ?_|refine ze ?_ _));exact BK209.out)):gb229≠gb209));have n22_:=zk.mk ((by rw [hg];exact Nat.ne_of_lt (zQ (g:=gb217) (o:= .cells #[.int .i64 t214,.int .i64 t215] 24 (0,0)) (by (with_reducible repeat (first|refine za ?_ _|refine zf ?_|refine ze ?_ _));exact BK217.out)):gb217≠gb229));have n23_:=zk.mk ((by rw [hg];exact Nat.ne_of_gt (zQ (g:=gb217) (o:= .cells #[.int .i64 t214,.int .i64 t215] 24 (0,0)) (by (with_reducible repeat (first|refine za ?_ _|refine zf ?_|refine ze ?_ _));exact BK217.out)):gb229≠gb217));have n24_:=zk.mk ((by rw [hg];exact Nat.ne_of_lt (zQ (g:=gb221) (o:= .cells #[.int .i64 t218,.int .i64 t219] 30 (0,0)) (by (with_reducible repeat (first|refine za ?_ _|refine zf ?_|refine ze ?_ _));exact BK221.out)):gb221≠gb229));have n25_:=zk.mk ((by rw [hg];exact Nat.ne_of_gt (zQ (g:=gb221) (o:= .cells #[.int .i64 t218,.int .i64 t219] 30 (0,0)) (by (with_reducible repeat (first|refine za ?_ _|refine zf ?_|refine ze ?_ _));exact BK221.out)):gb229≠gb221));have n26_:=zk.mk ((by rw [hg];exact Nat.ne_of_lt (zQ (g:=gb225) (o:= .cells #[.int .i64 t222,.int .i64 t223] 30 (0,0)) (by (with_reducible repeat (first|refine za ?_ _|refine zf ?_|refine ze ?_ _));exact BK225.out)):gb225≠gb229));have n27_:=zk.mk ((by rw [hg];exact Nat.ne_of_gt (zQ (g:=gb225) (o:= .cells #[.int .i64 t222,.int .i64 t223] 30 (0,0)) (by (with_reducible repeat (first|refine za ?_ _|refine zf ?_|refine ze ?_ _));exact BK225.out)):gb229≠gb225));clear BK199;clear BK200;clear BK201;clear BK205;clear BK209;clear BK217;clear BK221;clear BK225;clear HB;have BK199:=n0_;have BK200:=n1_;have BK201:=n2_;have BK205:=n3_;have BK209:=n4_;have BK217:=n5_;have BK221:=n6_;have BK225:=n7_;have HB:=n8_;have BK229:=n9_;have GW229:=n10_;have GE229:=n11_;have NB199_229:=n12_;have NB229_199:=n13_;have NB200_229:=n14_;have NB229_200:=n15_;have NB201_229:=n16_;have NB229_201:=n17_;have NB205_229:=n18_;have NB229_205:=n19_;have NB209_229:=n20_;have NB229_209:=n21_;have NB217_229:=n22_;have NB229_217:=n23_;have NB221_229:=n24_;have NB229_221:=n25_;have NB225_229:=n26_;have NB229_225:=n27_;clear n0_ n1_ n2_ n3_ n4_ n5_ n6_ n7_ n8_ n9_ n10_ n11_ n12_ n13_ n14_ n15_ n16_ n17_ n18_ n19_ n20_ n21_ n22_ n23_ n24_ n25_ n26_ n27_;clear hb hbox hg;have hnb121:=NB229_199.out;have hnc121:=NB199_229.out;have hnb122:=NB229_200.out;have hnc122:=NB200_229.out;have hnb123:=NB229_201.out;have hnc123:=NB201_229.out;have hnb124:=NB229_205.out;have hnc124:=NB205_229.out;have hnb125:=NB229_209.out;have hnc125:=NB209_229.out;have hnb126:=NB229_217.out;have hnc126:=NB217_229.out;have hnb127:=NB229_221.out;have hnc127:=NB221_229.out;have hnb128:=NB229_225.out;have hnc128:=NB225_229.out;have hcz129_0:w120.cell? ⟨gb229,0,none⟩=some (.int .i64 0):=(zy BK229.out 0).trans rfl;have hcz129_1:w120.cell? ⟨gb229,1,none⟩=some (.int .i64 0):=(zy BK229.out 1).trans rfl;have hfz129_0:=zu BK229.out 0;have hfz129_1:=zu BK229.out 1;have hnb130:=NB205_209.out;have hnc130:=NB209_205.out;have hcz131_0:w120.cell? ⟨gb205,0,none⟩=some (.int .i64 t202):=(zy BK205.out 0).trans rfl;have hcz131_1:w120.cell? ⟨gb205,1,none⟩=some (.int .i64 t203):=(zy BK205.out 1).trans rfl;have hfz131_0:=zu BK205.out 0;have hfz131_1:=zu BK205.out 1;have hcz132_0:w120.cell? ⟨gb209,0,none⟩=some (.int .i64 t206):=(zy BK209.out 0).trans rfl;have hcz132_1:w120.cell? ⟨gb209,1,none⟩=some (.int .i64 t207):=(zy BK209.out 1).trans rfl;have hfz132_0:=zu BK209.out 0;have hfz132_1:=zu BK209.out 1)|((with_reducible refine zai (f:=29) rfl ?_);refine zbB (some 86) rfl rfl Tryz.func29 (by kernel_rfl) rfl #[.agg #[.int .i64 t202,.int .i64 t203],.agg #[.int .i64 t206,.int .i64 t207]] rfl (by (try simp only [List.map_toArray,List.map_cons,List.map_nil]);first|done|rfl|(simp only [List.length_drop,List.length_take];rfl)) ?_;(with_reducible refine (zaI.calls t202 t203 t206 t207 true _ A74.out).mono ?_);rintro e w133 ⟨rfl,hb⟩;refine ⟨_,rfl,?_⟩;have n0_:=zk.mk (zt (g:=gb199) (o:= .cells #[.int .i64 t193,.int .i64 t194] 24 (0,0)) (by (with_reducible repeat (first|refine za ?_ _|refine zf ?_|refine ze ?_ _));refine zw ?_ NB199_229.out _;(with_reducible repeat (first|refine za ?_ _|refine zf ?_|refine ze ?_ _));refine zw ?_ NB199_229.out _;(with_reducible repeat (first|refine za ?_ _|refine zf ?_|refine ze ?_ _));exact BK199.out) hb);have n1_:=zk.mk (zt (g:=gb200) (o:= .cells #[.int .i64 t195,.int .i64 t196] 24 (0,0)) (by (with_reducible repeat (first|refine za ?_ _|refine zf ?_|refine ze ?_ _));refine zw ?_ NB200_229.out _;(with_reducible repeat (first|refine za ?_ _|refine zf ?_|refine ze ?_ _));refine zw ?_ NB200_229.out _;(with_reducible repeat (first|refine za ?_ _|refine zf ?_|refine ze ?_ _));exact BK200.out) hb);have n2_:=zk.mk (zt (g:=gb201) (o:= .cells #[.int .i64 t197,.int .i64 t198] 24 (0,0)) (by (with_reducible repeat (first|refine za ?_ _|refine zf ?_|refine ze ?_ _));refine zw ?_ NB201_229.out _;(with_reducible repeat (first|refine za ?_ _|refine zf ?_|refine ze ?_ _));refine zw ?_ NB201_229.out _;(with_reducible repeat (first|refine za ?_ _|refine zf ?_|refine ze ?_ _));exact BK201.out) hb);have n3_:=zk.mk (zt (g:=gb205) (o:= .cells #[.int .i64 t202,.int .i64 t203] 30 (0,0)) (by (with_reducible repeat (first|refine za ?_ _|refine zf ?_|refine ze ?_ _));refine zw ?_ NB205_229.out _;(with_reducible repeat (first|refine za ?_ _|refine zf ?_|refine ze ?_ _));refine zw ?_ NB205_229.out _;(with_reducible repeat (first|refine za ?_ _|refine zf ?_|refine ze ?_ _));exact BK205.out) hb);have n4_:=zk.mk (zt (g:=gb209) (o:= .cells #[.int .i64 t206,.int .i64 t207] 30 (0,0)) (by (with_reducible repeat (first|refine za ?_ _|refine zf ?_|refine ze ?_ _));refine zw ?_ NB209_229.out _;(with_reducible repeat (first|refine za ?_ _|refine zf ?_|refine ze ?_ _));refine zw ?_ NB209_229.out _;(with_reducible repeat (first|refine za ?_ _|refine zf ?_|refine ze ?_ _));exact BK209.out) hb);have n5_:=zk.mk (zt (g:=gb217) (o:= .cells #[.int .i64 t214,.int .i64 t215] 24 (0,0)) (by (with_reducible repeat (first|refine za ?_ _|refine zf ?_|refine ze ?_ _));refine zw ?_ NB217_229.out _;(with_reducible repeat (first|refine za ?_ _|refine zf ?_|refine ze ?_ _));refine zw ?_ NB217_229.out _;(with_reducible repeat (first|refine za ?_ _|refine zf ?_|refine ze ?_ _));exact BK217.out) hb);have n6_:=zk.mk (zt (g:=gb221) (o:= .cells #[.int .i64 t218,.int .i64 t219] 30 (0,0)) (by (with_reducible repeat (first|refine za ?_ _|refine zf ?_|refine ze ?_ _));refine zw ?_ NB221_229.out _;(with_reducible repeat (first|refine za ?_ _|refine zf ?_|refine ze ?_ _));refine zw ?_ NB221_229.out _;(with_reducible repeat (first|refine za ?_ _|refine zf ?_|refine ze ?_ _));exact BK221.out) hb);have n7_:=zk.mk (zt (g:=gb225) (o:= .cells #[.int .i64 t222,.int .i64 t223] 30 (0,0)) (by (with_reducible repeat (first|refine za ?_ _|refine zf ?_|refine ze ?_ _));refine zw ?_ NB225_229.out _;(with_reducible repeat (first|refine za ?_ _|refine zf ?_|refine ze ?_ _));refine zw ?_ NB225_229.out _;(with_reducible repeat (first|refine za ?_ _|refine zf ?_|refine ze ?_ _));exact BK225.out) hb);have n8_:=zk.mk (zt (g:=gb229) (o:= .cells #[.int .i64 t226,.int .i64 t227] 30 (0,0)) (by (with_reducible repeat (first|refine za ?_ _|refine zf ?_|refine ze ?_ _));refine zaw (cs:=#[.int .i64 t226,.int .i64 0]) ?_ 1 _ rfl;(with_reducible repeat (first|refine za ?_ _|refine zf ?_|refine ze ?_ _));refine zaw (cs:=#[.int .i64 0,.int .i64 0]) ?_ 0 _ rfl;(with_reducible repeat (first|refine za ?_ _|refine zf ?_|refine ze ?_ _));exact BK229.out) hb);have n9_:=zk.mk (zaq (by repeat (first|(with_reducible first|exact HB.out|apply zq|apply zm|apply zo|refine zh ?_ GE199.out|refine zh ?_ GE200.out|refine zh ?_ GE201.out|refine zh ?_ GE205.out|refine zh ?_ GE209.out|refine zh ?_ GE217.out|refine zh ?_ GE221.out|refine zh ?_ GE225.out|refine zh ?_ GE229.out)|exact HB.out)) hb);clear BK199;clear BK200;clear BK201;clear BK205;clear BK209;clear BK217;clear BK221;clear BK225;clear BK229;clear HB;have BK199:=n0_;have BK200:=n1_;have BK201:=n2_;have BK205:=n3_;have BK209:=n4_;have BK217:=n5_;have BK221:=n6_;have BK225:=n7_;have BK229:=n8_;have HB:=n9_;clear n0_ n1_ n2_ n3_ n4_ n5_ n6_ n7_ n8_ n9_;(try clear hb);(try clear hb2);(try clear hk);(try clear hi)))
      (try simp only [Act.put,List.setIfInBounds_toArray,List.set_cons_zero,List.set_cons_succ])
      go_cut [97] (fun v97 wc=>∃(kq:Nat) (x97_75:Bool),v97= .bool x97_75/\zk (zH.j1 kq t224 t228 x97_75 t202 t203 t222 t223 t226 t227=some r)/\zk (kq<=kj5)/\zk (wc.heap[gb199]?=some (.cells #[.int .i64 t193,.int .i64 t194] 24 (0,0)))/\zk (wc.heap[gb200]?=some (.cells #[.int .i64 t195,.int .i64 t196] 24 (0,0)))/\zk (wc.heap[gb201]?=some (.cells #[.int .i64 t197,.int .i64 t198] 24 (0,0)))/\zk (wc.heap[gb205]?=some (.cells #[.int .i64 t202,.int .i64 t203] 30 (0,0)))/\zk (wc.heap[gb209]?=some (.cells #[.int .i64 t206,.int .i64 t207] 30 (0,0)))/\zk (wc.heap[gb217]?=some (.cells #[.int .i64 t214,.int .i64 t215] 24 (0,0)))/\zk (wc.heap[gb221]?=some (.cells #[.int .i64 t218,.int .i64 t219] 30 (0,0)))/\zk (wc.heap[gb225]?=some (.cells #[.int .i64 t222,.int .i64 t223] 30 (0,0)))/\zk (wc.heap[gb229]?=some (.cells #[.int .i64 t226,.int .i64 t227] 30 (0,0)))/\zk (Below w.heap.size w wc))
      case first=>
       have H:=HC76.out
       clear HC76
       by_cases c134:t220=0
       ·rw [if_pos c134] at H
        have c134b0:(t220==0)=true:=beq_iff_eq.mpr c134
        have c134b1:(t220 != 0)=false:=bne_eq_false_iff_eq.mpr c134
        clear c134
        (first|rw [c134b0]|(simp only [zbM,zbN];rw [c134b0])|skip)
        replace H:=Option.bind_eq_some_iff.mp H
        obtain ⟨⟨t231,t232⟩,A1350,H⟩:=H
        replace H:((zeo.f).bind fun bt233=>((zaI.f t231 t232 bt233.1 bt233.2).bind fun t235=>(zH.j1 kj5 t224 t228 (!t235) t202 t203 t222 t223 t226 t227)))=some r:=H
        have A135:=zk.mk A1350
        clear A1350
        replace H:=Option.bind_eq_some_iff.mp H
        obtain ⟨⟨t233,t234⟩,A1360,H⟩:=H
        replace H:((zaI.f t231 t232 t233 t234).bind fun t235=>(zH.j1 kj5 t224 t228 (!t235) t202 t203 t222 t223 t226 t227))=some r:=H
        have A136:=zk.mk A1360
        clear A1360
        replace H:=Option.bind_eq_some_iff.mp H
        obtain ⟨t235,A1370,H⟩:=H
        replace H:(zH.j1 kj5 t224 t228 (!t235) t202 t203 t222 t223 t226 t227)=some r:=H
        have A137:=zk.mk A1370
        clear A1370
        have H':=zk.mk H
        clear H
        have hnb138:=NB205_199.out
        have hnc138:=NB199_205.out
        have hnb139:=NB205_200.out
        have hnc139:=NB200_205.out
        have hnb140:=NB205_201.out
        have hnc140:=NB201_205.out
        have hnb141:=NB205_209.out
        have hnc141:=NB209_205.out
        have hnb142:=NB205_217.out
        have hnc142:=NB217_205.out
        have hnb143:=NB205_221.out
        have hnc143:=NB221_205.out
        have hnb144:=NB205_225.out
        have hnc144:=NB225_205.out
        have hnb145:=NB205_229.out
        have hnc145:=NB229_205.out
        have hcz146_0:w133.cell? ⟨gb205,0,none⟩=some (.int .i64 t202):=(zy BK205.out 0).trans rfl
        have hcz146_1:w133.cell? ⟨gb205,1,none⟩=some (.int .i64 t203):=(zy BK205.out 1).trans rfl
        have hfz146_0:=zu BK205.out 0
        have hfz146_1:=zu BK205.out 1
        have hnb147:=NB221_199.out
        have hnc147:=NB199_221.out
        have hnb148:=NB221_200.out
        have hnc148:=NB200_221.out
        have hnb149:=NB221_201.out
        have hnc149:=NB201_221.out
        have hnb150:=NB221_209.out
        have hnc150:=NB209_221.out
        have hnb151:=NB221_217.out
        have hnc151:=NB217_221.out
        have hnb152:=NB221_225.out
        have hnc152:=NB225_221.out
        have hnb153:=NB221_229.out
        have hnc153:=NB229_221.out
        have hcz154_0:w133.cell? ⟨gb221,0,none⟩=some (.int .i64 t218):=(zy BK221.out 0).trans rfl
        have hcz154_1:w133.cell? ⟨gb221,1,none⟩=some (.int .i64 t219):=(zy BK221.out 1).trans rfl
        have hfz154_0:=zu BK221.out 0
        have hfz154_1:=zu BK221.out 1
        go_wp2_with (first|(go_at_call 34;(with_reducible refine (zcF.calls t202 t203 t218 t219 t231 t232 _ A135.out).mono ?_);rintro e w155 ⟨rfl,hb⟩;have n0_:=zk.mk (zt (g:=gb199) (o:= .cells #[.int .i64 t193,.int .i64 t194] 24 (0,0)) (by (with_reducible repeat (first|refine za ?_ _|refine zf ?_|refine ze ?_ _));exact BK199.out) hb);have n1_:=zk.mk (zt (g:=gb200) (o:= .cells #[.int .i64 t195,.int .i64 t196] 24 (0,0)) (by (with_reducible repeat (first|refine za ?_ _|refine zf ?_|refine ze ?_ _));exact BK200.out) hb);have n2_:=zk.mk (zt (g:=gb201) (o:= .cells #[.int .i64 t197,.int .i64 t198] 24 (0,0)) (by (with_reducible repeat (first|refine za ?_ _|refine zf ?_|refine ze ?_ _));exact BK201.out) hb);have n3_:=zk.mk (zt (g:=gb205) (o:= .cells #[.int .i64 t202,.int .i64 t203] 30 (0,0)) (by (with_reducible repeat (first|refine za ?_ _|refine zf ?_|refine ze ?_ _));exact BK205.out) hb);have n4_:=zk.mk (zt (g:=gb209) (o:= .cells #[.int .i64 t206,.int .i64 t207] 30 (0,0)) (by (with_reducible repeat (first|refine za ?_ _|refine zf ?_|refine ze ?_ _));exact BK209.out) hb);have n5_:=zk.mk (zt (g:=gb217) (o:= .cells #[.int .i64 t214,.int .i64 t215] 24 (0,0)) (by (with_reducible repeat (first|refine za ?_ _|refine zf ?_|refine ze ?_ _));exact BK217.out) hb);have n6_:=zk.mk (zt (g:=gb221) (o:= .cells #[.int .i64 t218,.int .i64 t219] 30 (0,0)) (by (with_reducible repeat (first|refine za ?_ _|refine zf ?_|refine ze ?_ _));exact BK221.out) hb);have n7_:=zk.mk (zt (g:=gb225) (o:= .cells #[.int .i64 t222,.int .i64 t223] 30 (0,0)) (by (with_reducible repeat (first|refine za ?_ _|refine zf ?_|refine ze ?_ _));exact BK225.out) hb);have n8_:=zk.mk (zt (g:=gb229) (o:= .cells #[.int .i64 t226,.int .i64 t227] 30 (0,0)) (by (with_reducible repeat (first|refine za ?_ _|refine zf ?_|refine ze ?_ _));exact BK229.out) hb);have n9_:=zk.mk (zaq (by repeat (first|(with_reducible first|exact HB.out|apply zq|apply zm|apply zo|refine zh ?_ GE199.out|refine zh ?_ GE200.out|refine zh ?_ GE201.out|refine zh ?_ GE205.out|refine zh ?_ GE209.out|refine zh ?_ GE217.out|refine zh ?_ GE221.out|refine zh ?_ GE225.out|refine zh ?_ GE229.out)|exact HB.out)) hb);clear BK199;clear BK200;clear BK201;clear BK205;clear BK209;clear BK217;clear BK221;clear BK225;clear BK229;clear HB;have BK199:=n0_;have BK200:=n1_;have BK201:=n2_;have BK205:=n3_;have BK209:=n4_;have BK217:=n5_;have BK221:=n6_;have BK225:=n7_;have BK229:=n8_;have HB:=n9_;clear n0_ n1_ n2_ n3_ n4_ n5_ n6_ n7_ n8_ n9_;(try clear hb);(try clear hb2);(try clear hk);(try clear hi))|(go_at_call 35;(with_reducible refine (zeo.calls  t233 t234 _ A136.out).mono ?_);rintro e w156 ⟨rfl,hb⟩;have n0_:=zk.mk (zt (g:=gb199) (o:= .cells #[.int .i64 t193,.int .i64 t194] 24 (0,0)) (by (with_reducible repeat (first|refine za ?_ _|refine zf ?_|refine ze ?_ _));exact BK199.out) hb);have n1_:=zk.mk (zt (g:=gb200) (o:= .cells #[.int .i64 t195,.int .i64 t196] 24 (0,0)) (by (with_reducible repeat (first|refine za ?_ _|refine zf ?_|refine ze ?_ _));exact BK200.out) hb);have n2_:=zk.mk (zt (g:=gb201) (o:= .cells #[.int .i64 t197,.int .i64 t198] 24 (0,0)) (by (with_reducible repeat (first|refine za ?_ _|refine zf ?_|refine ze ?_ _));exact BK201.out) hb);have n3_:=zk.mk (zt (g:=gb205) (o:= .cells #[.int .i64 t202,.int .i64 t203] 30 (0,0)) (by (with_reducible repeat (first|refine za ?_ _|refine zf ?_|refine ze ?_ _));exact BK205.out) hb);have n4_:=zk.mk (zt (g:=gb209) (o:= .cells #[.int .i64 t206,.int .i64 t207] 30 (0,0)) (by (with_reducible repeat (first|refine za ?_ _|refine zf ?_|refine ze ?_ _));exact BK209.out) hb);have n5_:=zk.mk (zt (g:=gb217) (o:= .cells #[.int .i64 t214,.int .i64 t215] 24 (0,0)) (by (with_reducible repeat (first|refine za ?_ _|refine zf ?_|refine ze ?_ _));exact BK217.out) hb);have n6_:=zk.mk (zt (g:=gb221) (o:= .cells #[.int .i64 t218,.int .i64 t219] 30 (0,0)) (by (with_reducible repeat (first|refine za ?_ _|refine zf ?_|refine ze ?_ _));exact BK221.out) hb);have n7_:=zk.mk (zt (g:=gb225) (o:= .cells #[.int .i64 t222,.int .i64 t223] 30 (0,0)) (by (with_reducible repeat (first|refine za ?_ _|refine zf ?_|refine ze ?_ _));exact BK225.out) hb);have n8_:=zk.mk (zt (g:=gb229) (o:= .cells #[.int .i64 t226,.int .i64 t227] 30 (0,0)) (by (with_reducible repeat (first|refine za ?_ _|refine zf ?_|refine ze ?_ _));exact BK229.out) hb);have n9_:=zk.mk (zaq (by repeat (first|(with_reducible first|exact HB.out|apply zq|apply zm|apply zo|refine zh ?_ GE199.out|refine zh ?_ GE200.out|refine zh ?_ GE201.out|refine zh ?_ GE205.out|refine zh ?_ GE209.out|refine zh ?_ GE217.out|refine zh ?_ GE221.out|refine zh ?_ GE225.out|refine zh ?_ GE229.out)|exact HB.out)) hb);clear BK199;clear BK200;clear BK201;clear BK205;clear BK209;clear BK217;clear BK221;clear BK225;clear BK229;clear HB;have BK199:=n0_;have BK200:=n1_;have BK201:=n2_;have BK205:=n3_;have BK209:=n4_;have BK217:=n5_;have BK221:=n6_;have BK225:=n7_;have BK229:=n8_;have HB:=n9_;clear n0_ n1_ n2_ n3_ n4_ n5_ n6_ n7_ n8_ n9_;(try clear hb);(try clear hb2);(try clear hk);(try clear hi))|(go_at_call 29;(with_reducible refine (zaI.calls t231 t232 t233 t234 t235 _ A137.out).mono ?_);rintro e w157 ⟨rfl,hb⟩;have n0_:=zk.mk (zt (g:=gb199) (o:= .cells #[.int .i64 t193,.int .i64 t194] 24 (0,0)) (by (with_reducible repeat (first|refine za ?_ _|refine zf ?_|refine ze ?_ _));exact BK199.out) hb);have n1_:=zk.mk (zt (g:=gb200) (o:= .cells #[.int .i64 t195,.int .i64 t196] 24 (0,0)) (by (with_reducible repeat (first|refine za ?_ _|refine zf ?_|refine ze ?_ _));exact BK200.out) hb);have n2_:=zk.mk (zt (g:=gb201) (o:= .cells #[.int .i64 t197,.int .i64 t198] 24 (0,0)) (by (with_reducible repeat (first|refine za ?_ _|refine zf ?_|refine ze ?_ _));exact BK201.out) hb);have n3_:=zk.mk (zt (g:=gb205) (o:= .cells #[.int .i64 t202,.int .i64 t203] 30 (0,0)) (by (with_reducible repeat (first|refine za ?_ _|refine zf ?_|refine ze ?_ _));exact BK205.out) hb);have n4_:=zk.mk (zt (g:=gb209) (o:= .cells #[.int .i64 t206,.int .i64 t207] 30 (0,0)) (by (with_reducible repeat (first|refine za ?_ _|refine zf ?_|refine ze ?_ _));exact BK209.out) hb);have n5_:=zk.mk (zt (g:=gb217) (o:= .cells #[.int .i64 t214,.int .i64 t215] 24 (0,0)) (by (with_reducible repeat (first|refine za ?_ _|refine zf ?_|refine ze ?_ _));exact BK217.out) hb);have n6_:=zk.mk (zt (g:=gb221) (o:= .cells #[.int .i64 t218,.int .i64 t219] 30 (0,0)) (by (with_reducible repeat (first|refine za ?_ _|refine zf ?_|refine ze ?_ _));exact BK221.out) hb);have n7_:=zk.mk (zt (g:=gb225) (o:= .cells #[.int .i64 t222,.int .i64 t223] 30 (0,0)) (by (with_reducible repeat (first|refine za ?_ _|refine zf ?_|refine ze ?_ _));exact BK225.out) hb);have n8_:=zk.mk (zt (g:=gb229) (o:= .cells #[.int .i64 t226,.int .i64 t227] 30 (0,0)) (by (with_reducible repeat (first|refine za ?_ _|refine zf ?_|refine ze ?_ _));exact BK229.out) hb);have n9_:=zk.mk (zaq (by repeat (first|(with_reducible first|exact HB.out|apply zq|apply zm|apply zo|refine zh ?_ GE199.out|refine zh ?_ GE200.out|refine zh ?_ GE201.out|refine zh ?_ GE205.out|refine zh ?_ GE209.out|refine zh ?_ GE217.out|refine zh ?_ GE221.out|refine zh ?_ GE225.out|refine zh ?_ GE229.out)|exact HB.out)) hb);clear BK199;clear BK200;clear BK201;clear BK205;clear BK209;clear BK217;clear BK221;clear BK225;clear BK229;clear HB;have BK199:=n0_;have BK200:=n1_;have BK201:=n2_;have BK205:=n3_;have BK209:=n4_;have BK217:=n5_;have BK221:=n6_;have BK225:=n7_;have BK229:=n8_;have HB:=n9_;clear n0_ n1_ n2_ n3_ n4_ n5_ n6_ n7_ n8_ n9_;(try clear hb);(try clear hb2);(try clear hk);(try clear hi)))
        go_meet
        case rel=>exact ⟨_,(!t235),(by first|rfl|(simp;done)|(simp [*];done)),H',⟨by have:=HJ5.out;first|omega|exact Nat.le_refl _⟩,⟨by (with_reducible repeat (first|refine za ?_ _|refine zf ?_|refine ze ?_ _));exact BK199.out⟩,⟨by (with_reducible repeat (first|refine za ?_ _|refine zf ?_|refine ze ?_ _));exact BK200.out⟩,⟨by (with_reducible repeat (first|refine za ?_ _|refine zf ?_|refine ze ?_ _));exact BK201.out⟩,⟨by (with_reducible repeat (first|refine za ?_ _|refine zf ?_|refine ze ?_ _));exact BK205.out⟩,⟨by (with_reducible repeat (first|refine za ?_ _|refine zf ?_|refine ze ?_ _));exact BK209.out⟩,⟨by (with_reducible repeat (first|refine za ?_ _|refine zf ?_|refine ze ?_ _));exact BK217.out⟩,⟨by (with_reducible repeat (first|refine za ?_ _|refine zf ?_|refine ze ?_ _));exact BK221.out⟩,⟨by (with_reducible repeat (first|refine za ?_ _|refine zf ?_|refine ze ?_ _));exact BK225.out⟩,⟨by (with_reducible repeat (first|refine za ?_ _|refine zf ?_|refine ze ?_ _));exact BK229.out⟩,⟨by repeat (first|(with_reducible first|exact HB.out|apply zq|apply zm|apply zo|refine zh ?_ GE199.out|refine zh ?_ GE200.out|refine zh ?_ GE201.out|refine zh ?_ GE205.out|refine zh ?_ GE209.out|refine zh ?_ GE217.out|refine zh ?_ GE221.out|refine zh ?_ GE225.out|refine zh ?_ GE229.out)|exact HB.out)⟩⟩
       ·rw [if_neg c134] at H
        have c134b0:(t220==0)=false:=beq_eq_false_iff_ne.mpr c134
        have c134b1:(t220 != 0)=true:=bne_iff_ne.mpr c134
        (first|rw [c134b0]|(simp only [zbM,zbN];rw [c134b0])|skip)
        have H':=zk.mk H
        clear H
        go_wp2
        go_meet
        case rel=>exact ⟨_,(false),(by first|rfl|(simp;done)|(simp [*];done)),H',⟨by have:=HJ5.out;first|omega|exact Nat.le_refl _⟩,⟨by (with_reducible repeat (first|refine za ?_ _|refine zf ?_|refine ze ?_ _));exact BK199.out⟩,⟨by (with_reducible repeat (first|refine za ?_ _|refine zf ?_|refine ze ?_ _));exact BK200.out⟩,⟨by (with_reducible repeat (first|refine za ?_ _|refine zf ?_|refine ze ?_ _));exact BK201.out⟩,⟨by (with_reducible repeat (first|refine za ?_ _|refine zf ?_|refine ze ?_ _));exact BK205.out⟩,⟨by (with_reducible repeat (first|refine za ?_ _|refine zf ?_|refine ze ?_ _));exact BK209.out⟩,⟨by (with_reducible repeat (first|refine za ?_ _|refine zf ?_|refine ze ?_ _));exact BK217.out⟩,⟨by (with_reducible repeat (first|refine za ?_ _|refine zf ?_|refine ze ?_ _));exact BK221.out⟩,⟨by (with_reducible repeat (first|refine za ?_ _|refine zf ?_|refine ze ?_ _));exact BK225.out⟩,⟨by (with_reducible repeat (first|refine za ?_ _|refine zf ?_|refine ze ?_ _));exact BK229.out⟩,⟨by repeat (first|(with_reducible first|exact HB.out|apply zq|apply zm|apply zo|refine zh ?_ GE199.out|refine zh ?_ GE200.out|refine zh ?_ GE201.out|refine zh ?_ GE205.out|refine zh ?_ GE209.out|refine zh ?_ GE217.out|refine zh ?_ GE221.out|refine zh ?_ GE225.out|refine zh ?_ GE229.out)|exact HB.out)⟩⟩
      case rest=>
       clear HC76
       try clear c1
       try clear c2
       try clear c2b0
       try clear c2b1
       try clear p2
       try clear c3
       try clear c4
       try clear c5
       try clear c6
       try clear c7
       try clear c8
       try clear c9
       try clear c10
       try clear c11
       try clear c12
       try clear c13
       try clear c14
       try clear c15
       try clear c19
       try clear c20
       try clear c21
       try clear c27
       try clear c28
       try clear c29
       try clear c30
       try clear c31
       try clear c32
       try clear c32b0
       try clear c32b1
       try clear c33
       try clear c35
       try clear c35b0
       try clear c35b1
       try clear c36
       try clear c37
       try clear c38
       try clear c39
       try clear c41
       try clear c42
       try clear c43
       try clear c47
       try clear c48
       try clear c49
       try clear c50
       try clear c51
       try clear c53
       try clear c54
       try clear c55
       try clear c56
       try clear c58
       try clear c59
       try clear c60
       try clear c64
       try clear c65
       try clear c66
       try clear c67
       try clear c68
       try clear c75
       try clear c77
       try clear c78
       try clear c79
       try clear c80
       try clear c84
       try clear c85
       try clear c86
       try clear c87
       try clear c88
       try clear c90
       try clear c91
       try clear c92
       try clear c96
       try clear c97
       try clear c98
       try clear c99
       try clear c100
       try clear c101
       try clear c104
       try clear c105
       try clear c109
       try clear c110
       try clear c111
       try clear c112
       try clear c113
       try clear c114
       try clear c115
       try clear c121
       try clear c122
       try clear c123
       try clear c124
       try clear c125
       try clear c126
       try clear c127
       try clear c128
       try clear c130
       try clear c134
       try clear c134b0
       try clear c134b1
       try clear c138
       try clear c139
       try clear c140
       try clear c141
       try clear c142
       try clear c143
       try clear c144
       try clear c145
       try clear c147
       try clear c148
       try clear c149
       try clear c150
       try clear c151
       try clear c152
       try clear c153
       try clear hcz102_0
       try clear hcz102_1
       try clear hcz103_0
       try clear hcz103_1
       try clear hcz106_0
       try clear hcz106_1
       try clear hcz116_0
       try clear hcz116_1
       try clear hcz117_0
       try clear hcz117_1
       try clear hcz118_0
       try clear hcz118_1
       try clear hcz129_0
       try clear hcz129_1
       try clear hcz131_0
       try clear hcz131_1
       try clear hcz132_0
       try clear hcz132_1
       try clear hcz13_0
       try clear hcz13_1
       try clear hcz146_0
       try clear hcz146_1
       try clear hcz154_0
       try clear hcz154_1
       try clear hcz15_0
       try clear hcz15_1
       try clear hcz16_0
       try clear hcz16_1
       try clear hcz22_0
       try clear hcz22_1
       try clear hcz23_0
       try clear hcz23_1
       try clear hcz24_0
       try clear hcz24_1
       try clear hcz31_0
       try clear hcz31_1
       try clear hcz40_0
       try clear hcz40_1
       try clear hcz44_0
       try clear hcz44_1
       try clear hcz52_0
       try clear hcz52_1
       try clear hcz57_0
       try clear hcz57_1
       try clear hcz61_0
       try clear hcz61_1
       try clear hcz69_0
       try clear hcz69_1
       try clear hcz81_0
       try clear hcz81_1
       try clear hcz89_0
       try clear hcz89_1
       try clear hcz93_0
       try clear hcz93_1
       try clear hfz102_0
       try clear hfz102_1
       try clear hfz103_0
       try clear hfz103_1
       try clear hfz106_0
       try clear hfz106_1
       try clear hfz116_0
       try clear hfz116_1
       try clear hfz117_0
       try clear hfz117_1
       try clear hfz118_0
       try clear hfz118_1
       try clear hfz129_0
       try clear hfz129_1
       try clear hfz131_0
       try clear hfz131_1
       try clear hfz132_0
       try clear hfz132_1
       try clear hfz13_0
       try clear hfz13_1
       try clear hfz146_0
       try clear hfz146_1
       try clear hfz154_0
       try clear hfz154_1
       try clear hfz15_0
       try clear hfz15_1
       try clear hfz16_0
       try clear hfz16_1
       try clear hfz22_0
       try clear hfz22_1
       try clear hfz23_0
       try clear hfz23_1
       try clear hfz24_0
       try clear hfz24_1
       try clear hfz31_0
       try clear hfz31_1
       try clear hfz40_0
       try clear hfz40_1
       try clear hfz44_0
       try clear hfz44_1
       try clear hfz52_0
       try clear hfz52_1
       try clear hfz57_0
       try clear hfz57_1
       try clear hfz61_0
       try clear hfz61_1
       try clear hfz69_0
       try clear hfz69_1
       try clear hfz81_0
       try clear hfz81_1
       try clear hfz89_0
       try clear hfz89_1
       try clear hfz93_0
       try clear hfz93_1
       try clear p2
       obtain ⟨kq,x97_75,rfl,HA,HJ75,BK199,BK200,BK201,BK205,BK209,BK217,BK221,BK225,BK229,HB⟩:=hcut
       cases kq with
       | zero=>exact absurd HA.out (by simp [zH.j1])
       | succ kj75=>
        have H:=HA.out
        clear HA
        simp only [zH.j1] at H
        by_cases c158:x97_75=true
        ·subst c158
         have H1:(some false)=some r:=by rw [if_pos rfl] at H;exact H
         clear H
         have H:=H1
         clear H1
         obtain rfl:=Option.some.inj H
         go_wp2
         go_ret
         exact ⟨by first|rfl|(simp [zal,zak]<;>rfl)|(simp [*,zal,zak]<;>rfl),by repeat (first|(with_reducible first|exact HB.out|apply zq|apply zm|apply zo|refine zh ?_ GE199.out|refine zh ?_ GE200.out|refine zh ?_ GE201.out|refine zh ?_ GE205.out|refine zh ?_ GE209.out|refine zh ?_ GE217.out|refine zh ?_ GE221.out|refine zh ?_ GE225.out|refine zh ?_ GE229.out)|exact HB.out)⟩
        ·replace c158:=Bool.eq_false_iff.mpr c158
         subst c158
         have H1:(if t224=0 then (if t228=0 then ((zcF.f t222 t223 t226 t227).bind fun bt236=>((zfx.f bt236.1 bt236.2 t202 t203).bind fun t238=>(some (t238 != 1)))) else (some true)) else (some true))=some r:=by rw [if_neg (show ¬(false=true) by decide)] at H;exact H
         clear H
         have H:=H1
         clear H1
         by_cases c159:t224=0
         ·rw [if_pos c159] at H
          have c159b0:(t224==0)=true:=beq_iff_eq.mpr c159
          have c159b1:(t224 != 0)=false:=bne_eq_false_iff_eq.mpr c159
          clear c159
          by_cases c160:t228=0
          ·rw [if_pos c160] at H
           have c160b0:(t228==0)=true:=beq_iff_eq.mpr c160
           have c160b1:(t228 != 0)=false:=bne_eq_false_iff_eq.mpr c160
           clear c160
           replace H:=Option.bind_eq_some_iff.mp H
           obtain ⟨⟨t236,t237⟩,A1610,H⟩:=H
           replace H:((zfx.f t236 t237 t202 t203).bind fun t238=>(some (t238 != 1)))=some r:=H
           have A161:=zk.mk A1610
           clear A1610
           replace H:=Option.bind_eq_some_iff.mp H
           obtain ⟨t238,A1620,H⟩:=H
           replace H:(some (t238 != 1))=some r:=H
           have A162:=zk.mk A1620
           clear A1620
           obtain rfl:=Option.some.inj H
           try go_wp2
           have n0_:=zk.mk (zf BK199.out)
           have n1_:=zk.mk (zf BK200.out)
           have n2_:=zk.mk (zf BK201.out)
           have n3_:=zk.mk (zf BK205.out)
           have n4_:=zk.mk (zf BK209.out)
           have n5_:=zk.mk (zf BK217.out)
           have n6_:=zk.mk (zf BK221.out)
           have n7_:=zk.mk (zf BK225.out)
           have n8_:=zk.mk (zf BK229.out)
           have n9_:=zk.mk (zo HB.out)
           clear BK199
           clear BK200
           clear BK201
           clear BK205
           clear BK209
           clear BK217
           clear BK221
           clear BK225
           clear BK229
           clear HB
           have BK199:=n0_
           have BK200:=n1_
           have BK201:=n2_
           have BK205:=n3_
           have BK209:=n4_
           have BK217:=n5_
           have BK221:=n6_
           have BK225:=n7_
           have BK229:=n8_
           have HB:=n9_
           clear n0_ n1_ n2_ n3_ n4_ n5_ n6_ n7_ n8_ n9_
           refine start_ (n:=15) (S:=fun w'=>w'.cell? ⟨gb225,0,none⟩=some (.int .i64 t222)/\w'.cell? ⟨gb225,1,none⟩=some (.int .i64 t223)/\w'.cell? ⟨gb229,0,none⟩=some (.int .i64 t226)/\w'.cell? ⟨gb229,1,none⟩=some (.int .i64 t227)/\w'.cell? ⟨gb205,0,none⟩=some (.int .i64 t202)/\w'.cell? ⟨gb205,1,none⟩=some (.int .i64 t203)) (ds:= []) #[false,false,false,false,false,false,false,false,false,false,false,false,false,false,false] (by kernel_rfl) rfl rfl ⟨(zy BK225.out 0).trans rfl,(zy BK225.out 1).trans rfl,(zy BK229.out 0).trans rfl,(zy BK229.out 1).trans rfl,(zy BK205.out 0).trans rfl,(zy BK205.out 1).trans rfl⟩ (fun hHeld=>?_);refine with_tabW zH.tab17 zH.bits17 (fun HT_ HW_=>?_)
           generalize wc.drew=w163 at BK199 BK200 BK201 BK205 BK209 BK217 BK221 BK225 BK229 HB hHeld ⊢
           refine zdn (i:=0) (N:=some 98) (v:=?_) (a':=?_) #[true,false,false,false,false,false,false,false,false,false,false,false,false,false,false] rfl rfl (zbQ HT_.out (by kernel_rfl)) (fun _ _ _ h=>h) (Or.inl ⟨by rfl,?_⟩) ?_ ?_
           rotate_left
           ·intro w'
            go_simp
            with_reducible rfl
           rotate_left
           ·simp only [Act.put,List.setIfInBounds_toArray,List.set_cons_zero,List.set_cons_succ,zbM,zbN]
            rfl
           refine zdn (i:=1) (N:=some 99) (v:=?_) (a':=?_) #[true,true,false,false,false,false,false,false,false,false,false,false,false,false,false] rfl rfl (zbQ HT_.out (by kernel_rfl)) (fun _ _ _ h=>h) (Or.inl ⟨by rfl,?_⟩) ?_ ?_
           rotate_left
           ·intro w'
            go_simp
            with_reducible rfl
           rotate_left
           ·simp only [Act.put,List.setIfInBounds_toArray,List.set_cons_zero,List.set_cons_succ,zbM,zbN]
            rfl
           refine zdn (i:=2) (N:=some 100) (v:=?_) (a':=?_) #[true,true,true,false,false,false,false,false,false,false,false,false,false,false,false] rfl rfl (zbQ HT_.out (by kernel_rfl)) (fun _ _ _ h=>h) (Or.inl ⟨by rfl,?_⟩) ?_ ?_
           rotate_left
           ·intro w'
            go_simp
            with_reducible rfl
           rotate_left
           ·simp only [Act.put,List.setIfInBounds_toArray,List.set_cons_zero,List.set_cons_succ,zbM,zbN]
            rfl
           refine zdn (i:=3) (N:=some 101) (v:=?_) (a':=?_) #[true,true,true,true,false,false,false,false,false,false,false,false,false,false,false] rfl rfl (zbQ HT_.out (by kernel_rfl)) (fun _ _ _ h=>h) (Or.inl ⟨by rfl,?_⟩) ?_ ?_
           rotate_left
           ·intro w'
            go_simp
            with_reducible rfl
           rotate_left
           ·simp only [Act.put,List.setIfInBounds_toArray,List.set_cons_zero,List.set_cons_succ,zbM,zbN]
            rfl
           refine zdn (i:=4) (N:=some 102) (v:=?_) (a':=?_) #[true,true,true,true,true,false,false,false,false,false,false,false,false,false,false] rfl rfl (zbQ HT_.out (by kernel_rfl)) (fun _ _ _ h=>h) (Or.inl ⟨by rfl,?_⟩) ?_ ?_
           rotate_left
           ·intro w'
            go_simp
            with_reducible rfl
           rotate_left
           ·simp only [Act.put,List.setIfInBounds_toArray,List.set_cons_zero,List.set_cons_succ,zbM,zbN]
            rfl
           refine zdn (i:=5) (N:=some 103) (v:=?_) (a':=?_) #[true,true,true,true,true,true,false,false,false,false,false,false,false,false,false] rfl rfl (zbQ HT_.out (by kernel_rfl)) (fun _ _ _ h=>h) (Or.inl ⟨by rfl,?_⟩) ?_ ?_
           rotate_left
           ·intro w'
            go_simp
            with_reducible rfl
           rotate_left
           ·simp only [Act.put,List.setIfInBounds_toArray,List.set_cons_zero,List.set_cons_succ,zbM,zbN]
            rfl
           refine zdn (i:=6) (N:=some 104) (v:=?_) (a':=?_) #[true,true,true,true,true,true,true,false,false,false,false,false,false,false,false] rfl rfl (zbQ HT_.out (by kernel_rfl)) (fun _ _ _ h=>h) (Or.inl ⟨by rfl,?_⟩) ?_ ?_
           rotate_left
           ·intro w'
            go_simp
            with_reducible rfl
           rotate_left
           ·simp only [Act.put,List.setIfInBounds_toArray,List.set_cons_zero,List.set_cons_succ,zbM,zbN]
            rfl
           refine take_ (i:=7) (N:=some 105) (v:=?_) (a':=?_) #[true,true,true,true,true,true,true,true,false,false,false,false,false,false,false] rfl rfl (take_ofW HT_.out HW_.out (by kernel_rfl)) (fun _ _ _ h=>h) (Or.inl ⟨by rfl,?_⟩) hHeld ?_ ?_
           rotate_left
           ·rintro w' ⟨s0,s1,s2,s3,s4,s5⟩
            go_simp
            with_reducible rfl
           rotate_left
           ·simp only [Act.put,List.setIfInBounds_toArray,List.set_cons_zero,List.set_cons_succ,zbM,zbN]
            rfl
           refine take_ (i:=8) (N:=some 106) (v:=?_) (a':=?_) #[true,true,true,true,true,true,true,true,true,false,false,false,false,false,false] rfl rfl (take_ofW HT_.out HW_.out (by kernel_rfl)) (fun _ _ _ h=>h) (Or.inl ⟨by rfl,?_⟩) hHeld ?_ ?_
           rotate_left
           ·rintro w' ⟨s0,s1,s2,s3,s4,s5⟩
            go_simp
            with_reducible rfl
           rotate_left
           ·simp only [Act.put,List.setIfInBounds_toArray,List.set_cons_zero,List.set_cons_succ,zbM,zbN]
            rfl
           refine take_ (i:=10) (N:=some 108) (v:=?_) (a':=?_) #[true,true,true,true,true,true,true,true,true,false,true,false,false,false,false] rfl rfl (take_ofW HT_.out HW_.out (by kernel_rfl)) (fun _ _ _ h=>h) (Or.inl ⟨by rfl,?_⟩) hHeld ?_ ?_
           rotate_left
           ·rintro w' ⟨s0,s1,s2,s3,s4,s5⟩
            go_simp
            with_reducible rfl
           rotate_left
           ·simp only [Act.put,List.setIfInBounds_toArray,List.set_cons_zero,List.set_cons_succ,zbM,zbN]
            rfl
           refine one_ (i:=9) (N:=some 107) #[true,true,true,true,true,true,true,true,true,true,true,false,false,false,false] rfl rfl (one_of HT_.out (by kernel_rfl)) (by decide) (fun K hK=>?_)
           refine goes_ Tryz.func34 (by kernel_rfl) rfl #[.agg #[.int .i64 t222,.int .i64 t223],.agg #[.int .i64 t226,.int .i64 t227]] (by rfl) rfl rfl (by (try simp only [List.map_toArray,List.map_cons,List.map_nil]);first|done|rfl|(simp only [List.length_drop,List.length_take];rfl)) ?_
           with_reducible refine (zcF.calls t222 t223 t226 t227 t236 t237 _ A161.out).mono ?_
           rintro e w164 ⟨rfl,hb⟩
           refine ⟨_,rfl,?_⟩
           have n0_:=zk.mk (zt (g:=gb199) (o:= .cells #[.int .i64 t193,.int .i64 t194] 24 (0,0)) (by (with_reducible repeat (first|refine za ?_ _|refine zf ?_|refine ze ?_ _));exact BK199.out) hb)
           have n1_:=zk.mk (zt (g:=gb200) (o:= .cells #[.int .i64 t195,.int .i64 t196] 24 (0,0)) (by (with_reducible repeat (first|refine za ?_ _|refine zf ?_|refine ze ?_ _));exact BK200.out) hb)
           have n2_:=zk.mk (zt (g:=gb201) (o:= .cells #[.int .i64 t197,.int .i64 t198] 24 (0,0)) (by (with_reducible repeat (first|refine za ?_ _|refine zf ?_|refine ze ?_ _));exact BK201.out) hb)
           have n3_:=zk.mk (zt (g:=gb205) (o:= .cells #[.int .i64 t202,.int .i64 t203] 30 (0,0)) (by (with_reducible repeat (first|refine za ?_ _|refine zf ?_|refine ze ?_ _));exact BK205.out) hb)
           have n4_:=zk.mk (zt (g:=gb209) (o:= .cells #[.int .i64 t206,.int .i64 t207] 30 (0,0)) (by (with_reducible repeat (first|refine za ?_ _|refine zf ?_|refine ze ?_ _));exact BK209.out) hb)
           have n5_:=zk.mk (zt (g:=gb217) (o:= .cells #[.int .i64 t214,.int .i64 t215] 24 (0,0)) (by (with_reducible repeat (first|refine za ?_ _|refine zf ?_|refine ze ?_ _));exact BK217.out) hb)
           have n6_:=zk.mk (zt (g:=gb221) (o:= .cells #[.int .i64 t218,.int .i64 t219] 30 (0,0)) (by (with_reducible repeat (first|refine za ?_ _|refine zf ?_|refine ze ?_ _));exact BK221.out) hb)
           have n7_:=zk.mk (zt (g:=gb225) (o:= .cells #[.int .i64 t222,.int .i64 t223] 30 (0,0)) (by (with_reducible repeat (first|refine za ?_ _|refine zf ?_|refine ze ?_ _));exact BK225.out) hb)
           have n8_:=zk.mk (zt (g:=gb229) (o:= .cells #[.int .i64 t226,.int .i64 t227] 30 (0,0)) (by (with_reducible repeat (first|refine za ?_ _|refine zf ?_|refine ze ?_ _));exact BK229.out) hb)
           have n9_:=zk.mk (zaq (by repeat (first|(with_reducible first|exact HB.out|apply zq|apply zm|apply zo|refine zh ?_ GE199.out|refine zh ?_ GE200.out|refine zh ?_ GE201.out|refine zh ?_ GE205.out|refine zh ?_ GE209.out|refine zh ?_ GE217.out|refine zh ?_ GE221.out|refine zh ?_ GE225.out|refine zh ?_ GE229.out)|exact HB.out)) hb)
           clear BK199
           clear BK200
           clear BK201
           clear BK205
           clear BK209
           clear BK217
           clear BK221
           clear BK225
           clear BK229
           clear HB
           have BK199:=n0_
           have BK200:=n1_
           have BK201:=n2_
           have BK205:=n3_
           have BK209:=n4_
           have BK217:=n5_
           have BK221:=n6_
           have BK225:=n7_
           have BK229:=n8_
           have HB:=n9_
           clear n0_ n1_ n2_ n3_ n4_ n5_ n6_ n7_ n8_ n9_
           (try clear hb)
           (try clear hb2)
           (try clear hk)
           (try clear hi)
           refine hK.out _ _ ⟨(zy BK225.out 0).trans rfl,(zy BK225.out 1).trans rfl,(zy BK229.out 0).trans rfl,(zy BK229.out 1).trans rfl,(zy BK205.out 0).trans rfl,(zy BK205.out 1).trans rfl⟩ (fun hHeld=>?_)
           clear hK K
           refine norm_ (a':=?_) ?_ ?_
           rotate_left
           ·show Act.put _ (some 107) _=_
            simp only [Act.put,List.setIfInBounds_toArray,List.set_cons_zero,List.set_cons_succ,zbM,zbN]
            rfl
           refine one_ (i:=11) (N:=some 109) #[true,true,true,true,true,true,true,true,true,true,true,true,false,false,false] rfl rfl (one_of HT_.out (by kernel_rfl)) (by decide) (fun K hK=>?_)
           refine goes_ Tryz.func17 (by kernel_rfl) rfl #[.agg #[.int .i64 t236,.int .i64 t237],.agg #[.int .i64 t202,.int .i64 t203]] (by rfl) rfl rfl (by (try simp only [List.map_toArray,List.map_cons,List.map_nil]);first|done|rfl|(simp only [List.length_drop,List.length_take];rfl)) ?_
           with_reducible refine (zfx.calls t236 t237 t202 t203 t238 _ A162.out).mono ?_
           rintro e w165 ⟨rfl,hb⟩
           refine ⟨_,rfl,?_⟩
           have n0_:=zk.mk (zt (g:=gb199) (o:= .cells #[.int .i64 t193,.int .i64 t194] 24 (0,0)) (by (with_reducible repeat (first|refine za ?_ _|refine zf ?_|refine ze ?_ _));exact BK199.out) hb)
           have n1_:=zk.mk (zt (g:=gb200) (o:= .cells #[.int .i64 t195,.int .i64 t196] 24 (0,0)) (by (with_reducible repeat (first|refine za ?_ _|refine zf ?_|refine ze ?_ _));exact BK200.out) hb)
           have n2_:=zk.mk (zt (g:=gb201) (o:= .cells #[.int .i64 t197,.int .i64 t198] 24 (0,0)) (by (with_reducible repeat (first|refine za ?_ _|refine zf ?_|refine ze ?_ _));exact BK201.out) hb)
           have n3_:=zk.mk (zt (g:=gb205) (o:= .cells #[.int .i64 t202,.int .i64 t203] 30 (0,0)) (by (with_reducible repeat (first|refine za ?_ _|refine zf ?_|refine ze ?_ _));exact BK205.out) hb)
           have n4_:=zk.mk (zt (g:=gb209) (o:= .cells #[.int .i64 t206,.int .i64 t207] 30 (0,0)) (by (with_reducible repeat (first|refine za ?_ _|refine zf ?_|refine ze ?_ _));exact BK209.out) hb)
           have n5_:=zk.mk (zt (g:=gb217) (o:= .cells #[.int .i64 t214,.int .i64 t215] 24 (0,0)) (by (with_reducible repeat (first|refine za ?_ _|refine zf ?_|refine ze ?_ _));exact BK217.out) hb)
           have n6_:=zk.mk (zt (g:=gb221) (o:= .cells #[.int .i64 t218,.int .i64 t219] 30 (0,0)) (by (with_reducible repeat (first|refine za ?_ _|refine zf ?_|refine ze ?_ _));exact BK221.out) hb)
           have n7_:=zk.mk (zt (g:=gb225) (o:= .cells #[.int .i64 t222,.int .i64 t223] 30 (0,0)) (by (with_reducible repeat (first|refine za ?_ _|refine zf ?_|refine ze ?_ _));exact BK225.out) hb)
           have n8_:=zk.mk (zt (g:=gb229) (o:= .cells #[.int .i64 t226,.int .i64 t227] 30 (0,0)) (by (with_reducible repeat (first|refine za ?_ _|refine zf ?_|refine ze ?_ _));exact BK229.out) hb)
           have n9_:=zk.mk (zaq (by repeat (first|(with_reducible first|exact HB.out|apply zq|apply zm|apply zo|refine zh ?_ GE199.out|refine zh ?_ GE200.out|refine zh ?_ GE201.out|refine zh ?_ GE205.out|refine zh ?_ GE209.out|refine zh ?_ GE217.out|refine zh ?_ GE221.out|refine zh ?_ GE225.out|refine zh ?_ GE229.out)|exact HB.out)) hb)
           clear BK199
           clear BK200
           clear BK201
           clear BK205
           clear BK209
           clear BK217
           clear BK221
           clear BK225
           clear BK229
           clear HB
           have BK199:=n0_
           have BK200:=n1_
           have BK201:=n2_
           have BK205:=n3_
           have BK209:=n4_
           have BK217:=n5_
           have BK221:=n6_
           have BK225:=n7_
           have BK229:=n8_
           have HB:=n9_
           clear n0_ n1_ n2_ n3_ n4_ n5_ n6_ n7_ n8_ n9_
           (try clear hb)
           (try clear hb2)
           (try clear hk)
           (try clear hi)
           refine hK.out _ _ ⟨(zy BK225.out 0).trans rfl,(zy BK225.out 1).trans rfl,(zy BK229.out 0).trans rfl,(zy BK229.out 1).trans rfl,(zy BK205.out 0).trans rfl,(zy BK205.out 1).trans rfl⟩ (fun hHeld=>?_)
           clear hK K
           refine norm_ (a':=?_) ?_ ?_
           rotate_left
           ·show Act.put _ (some 109) _=_
            simp only [Act.put,List.setIfInBounds_toArray,List.set_cons_zero,List.set_cons_succ,zbM,zbN]
            rfl
           refine zdn (i:=12) (N:=some 110) (v:=?_) (a':=?_) #[true,true,true,true,true,true,true,true,true,true,true,true,true,false,false] rfl rfl (zbQ HT_.out (by kernel_rfl)) (fun _ _ _ h=>h) (Or.inl ⟨by rfl,?_⟩) ?_ ?_
           rotate_left
           ·intro w'
            go_simp
            with_reducible rfl
           rotate_left
           ·simp only [Act.put,List.setIfInBounds_toArray,List.set_cons_zero,List.set_cons_succ,zbM,zbN]
            rfl
           refine zdn (i:=13) (N:=some 111) (v:=?_) (a':=?_) #[true,true,true,true,true,true,true,true,true,true,true,true,true,true,false] rfl rfl (zbQ HT_.out (by kernel_rfl)) (fun _ _ _ h=>h) (Or.inl ⟨by rfl,?_⟩) ?_ ?_
           rotate_left
           ·intro w'
            go_simp
            with_reducible rfl
           rotate_left
           ·simp only [Act.put,List.setIfInBounds_toArray,List.set_cons_zero,List.set_cons_succ,zbM,zbN]
            rfl
           refine zdn (i:=14) (N:=some 2) (v:=?_) (a':=?_) #[true,true,true,true,true,true,true,true,true,true,true,true,true,true,true] rfl rfl (zbQ HT_.out (by kernel_rfl)) (fun _ _ _ h=>h) (Or.inl ⟨by rfl,?_⟩) ?_ ?_
           rotate_left
           ·intro w'
            go_simp
            with_reducible rfl
           rotate_left
           ·simp only [Act.put,List.setIfInBounds_toArray,List.set_cons_zero,List.set_cons_succ,zbM,zbN]
            rfl
           refine done_ (done_of HT_.out (by kernel_rfl)) ?_
           try go_wp2
           go_ret
           exact ⟨by first|rfl|(simp [zal,zak]<;>rfl)|(simp [*,zal,zak]<;>rfl),by repeat (first|(with_reducible first|exact HB.out|apply zq|apply zm|apply zo|refine zh ?_ GE199.out|refine zh ?_ GE200.out|refine zh ?_ GE201.out|refine zh ?_ GE205.out|refine zh ?_ GE209.out|refine zh ?_ GE217.out|refine zh ?_ GE221.out|refine zh ?_ GE225.out|refine zh ?_ GE229.out)|exact HB.out)⟩
          ·rw [if_neg c160] at H
           have c160b0:(t228==0)=false:=beq_eq_false_iff_ne.mpr c160
           have c160b1:(t228 != 0)=true:=bne_iff_ne.mpr c160
           obtain rfl:=Option.some.inj H
           try go_wp2
           have n0_:=zk.mk (zf BK199.out)
           have n1_:=zk.mk (zf BK200.out)
           have n2_:=zk.mk (zf BK201.out)
           have n3_:=zk.mk (zf BK205.out)
           have n4_:=zk.mk (zf BK209.out)
           have n5_:=zk.mk (zf BK217.out)
           have n6_:=zk.mk (zf BK221.out)
           have n7_:=zk.mk (zf BK225.out)
           have n8_:=zk.mk (zf BK229.out)
           have n9_:=zk.mk (zo HB.out)
           clear BK199
           clear BK200
           clear BK201
           clear BK205
           clear BK209
           clear BK217
           clear BK221
           clear BK225
           clear BK229
           clear HB
           have BK199:=n0_
           have BK200:=n1_
           have BK201:=n2_
           have BK205:=n3_
           have BK209:=n4_
           have BK217:=n5_
           have BK221:=n6_
           have BK225:=n7_
           have BK229:=n8_
           have HB:=n9_
           clear n0_ n1_ n2_ n3_ n4_ n5_ n6_ n7_ n8_ n9_
           refine start_ (n:=15) (S:=fun w'=>True) (ds:= []) #[false,false,false,false,false,false,false,false,false,false,false,false,false,false,false] (by kernel_rfl) rfl rfl trivial (fun hHeld=>?_);refine with_tabW zH.tab17 zH.bits17 (fun HT_ HW_=>?_)
           generalize wc.drew=w166 at BK199 BK200 BK201 BK205 BK209 BK217 BK221 BK225 BK229 HB hHeld ⊢
           refine zdn (i:=0) (N:=some 98) (v:=?_) (a':=?_) #[true,false,false,false,false,false,false,false,false,false,false,false,false,false,false] rfl rfl (zbQ HT_.out (by kernel_rfl)) (fun _ _ _ h=>h) (Or.inl ⟨by rfl,?_⟩) ?_ ?_
           rotate_left
           ·intro w'
            go_simp
            with_reducible rfl
           rotate_left
           ·simp only [Act.put,List.setIfInBounds_toArray,List.set_cons_zero,List.set_cons_succ,zbM,zbN]
            rfl
           refine zdn (i:=1) (N:=some 99) (v:=?_) (a':=?_) #[true,true,false,false,false,false,false,false,false,false,false,false,false,false,false] rfl rfl (zbQ HT_.out (by kernel_rfl)) (fun _ _ _ h=>h) (Or.inl ⟨by rfl,?_⟩) ?_ ?_
           rotate_left
           ·intro w'
            go_simp
            with_reducible rfl
           rotate_left
           ·simp only [Act.put,List.setIfInBounds_toArray,List.set_cons_zero,List.set_cons_succ,zbM,zbN]
            rfl
           refine zdn (i:=2) (N:=some 100) (v:=?_) (a':=?_) #[true,true,true,false,false,false,false,false,false,false,false,false,false,false,false] rfl rfl (zbQ HT_.out (by kernel_rfl)) (fun _ _ _ h=>h) (Or.inl ⟨by rfl,?_⟩) ?_ ?_
           rotate_left
           ·intro w'
            go_simp
            with_reducible rfl
           rotate_left
           ·simp only [Act.put,List.setIfInBounds_toArray,List.set_cons_zero,List.set_cons_succ,zbM,zbN]
            rfl
           refine zdn (i:=3) (N:=some 101) (v:=?_) (a':=?_) #[true,true,true,true,false,false,false,false,false,false,false,false,false,false,false] rfl rfl (zbQ HT_.out (by kernel_rfl)) (fun _ _ _ h=>h) (Or.inl ⟨by rfl,?_⟩) ?_ ?_
           rotate_left
           ·intro w'
            go_simp
            with_reducible rfl
           rotate_left
           ·simp only [Act.put,List.setIfInBounds_toArray,List.set_cons_zero,List.set_cons_succ,zbM,zbN]
            rfl
           refine zdn (i:=4) (N:=some 102) (v:=?_) (a':=?_) #[true,true,true,true,true,false,false,false,false,false,false,false,false,false,false] rfl rfl (zbQ HT_.out (by kernel_rfl)) (fun _ _ _ h=>h) (Or.inl ⟨by rfl,?_⟩) ?_ ?_
           rotate_left
           ·intro w'
            go_simp
            with_reducible rfl
           rotate_left
           ·simp only [Act.put,List.setIfInBounds_toArray,List.set_cons_zero,List.set_cons_succ,zbM,zbN]
            rfl
           refine zdn (i:=5) (N:=some 103) (v:=?_) (a':=?_) #[true,true,true,true,true,true,false,false,false,false,false,false,false,false,false] rfl rfl (zbQ HT_.out (by kernel_rfl)) (fun _ _ _ h=>h) (Or.inl ⟨by rfl,?_⟩) ?_ ?_
           rotate_left
           ·intro w'
            go_simp
            with_reducible rfl
           rotate_left
           ·simp only [Act.put,List.setIfInBounds_toArray,List.set_cons_zero,List.set_cons_succ,zbM,zbN]
            rfl
           refine zdn (i:=6) (N:=some 104) (v:=?_) (a':=?_) #[true,true,true,true,true,true,true,false,false,false,false,false,false,false,false] rfl rfl (zbQ HT_.out (by kernel_rfl)) (fun _ _ _ h=>h) (Or.inl ⟨by rfl,?_⟩) ?_ ?_
           rotate_left
           ·intro w'
            go_simp
            with_reducible rfl
           rotate_left
           ·simp only [Act.put,List.setIfInBounds_toArray,List.set_cons_zero,List.set_cons_succ,zbM,zbN]
            rfl
           refine zdn (i:=7) (N:=some 105) (v:=undef) (a':=?_) #[true,true,true,true,true,true,true,true,false,false,false,false,false,false,false] rfl rfl (zbQ HT_.out (by kernel_rfl)) (fun _ _ _ h=>h) (Or.inr ⟨by rfl,rfl⟩) ?_ ?_
           rotate_left
           ·simp only [Act.put,List.setIfInBounds_toArray,List.set_cons_zero,List.set_cons_succ,zbM,zbN]
            rfl
           refine zdn (i:=8) (N:=some 106) (v:=undef) (a':=?_) #[true,true,true,true,true,true,true,true,true,false,false,false,false,false,false] rfl rfl (zbQ HT_.out (by kernel_rfl)) (fun _ _ _ h=>h) (Or.inr ⟨by rfl,rfl⟩) ?_ ?_
           rotate_left
           ·simp only [Act.put,List.setIfInBounds_toArray,List.set_cons_zero,List.set_cons_succ,zbM,zbN]
            rfl
           refine zdn (i:=9) (N:=some 107) (v:=undef) (a':=?_) #[true,true,true,true,true,true,true,true,true,true,false,false,false,false,false] rfl rfl (zbQ HT_.out (by kernel_rfl)) (fun _ _ _ h=>h) (Or.inr ⟨by rfl,rfl⟩) ?_ ?_
           rotate_left
           ·simp only [Act.put,List.setIfInBounds_toArray,List.set_cons_zero,List.set_cons_succ,zbM,zbN]
            rfl
           refine zdn (i:=10) (N:=some 108) (v:=undef) (a':=?_) #[true,true,true,true,true,true,true,true,true,true,true,false,false,false,false] rfl rfl (zbQ HT_.out (by kernel_rfl)) (fun _ _ _ h=>h) (Or.inr ⟨by rfl,rfl⟩) ?_ ?_
           rotate_left
           ·simp only [Act.put,List.setIfInBounds_toArray,List.set_cons_zero,List.set_cons_succ,zbM,zbN]
            rfl
           refine zdn (i:=11) (N:=some 109) (v:=undef) (a':=?_) #[true,true,true,true,true,true,true,true,true,true,true,true,false,false,false] rfl rfl (zbQ HT_.out (by kernel_rfl)) (fun _ _ _ h=>h) (Or.inr ⟨by rfl,rfl⟩) ?_ ?_
           rotate_left
           ·simp only [Act.put,List.setIfInBounds_toArray,List.set_cons_zero,List.set_cons_succ,zbM,zbN]
            rfl
           refine zdn (i:=12) (N:=some 110) (v:=undef) (a':=?_) #[true,true,true,true,true,true,true,true,true,true,true,true,true,false,false] rfl rfl (zbQ HT_.out (by kernel_rfl)) (fun _ _ _ h=>h) (Or.inr ⟨by rfl,rfl⟩) ?_ ?_
           rotate_left
           ·simp only [Act.put,List.setIfInBounds_toArray,List.set_cons_zero,List.set_cons_succ,zbM,zbN]
            rfl
           refine zdn (i:=13) (N:=some 111) (v:=?_) (a':=?_) #[true,true,true,true,true,true,true,true,true,true,true,true,true,true,false] rfl rfl (zbQ HT_.out (by kernel_rfl)) (fun _ _ _ h=>h) (Or.inl ⟨by rfl,?_⟩) ?_ ?_
           rotate_left
           ·intro w'
            go_simp
            with_reducible rfl
           rotate_left
           ·simp only [Act.put,List.setIfInBounds_toArray,List.set_cons_zero,List.set_cons_succ,zbM,zbN]
            rfl
           refine zdn (i:=14) (N:=some 2) (v:=?_) (a':=?_) #[true,true,true,true,true,true,true,true,true,true,true,true,true,true,true] rfl rfl (zbQ HT_.out (by kernel_rfl)) (fun _ _ _ h=>h) (Or.inl ⟨by rfl,?_⟩) ?_ ?_
           rotate_left
           ·intro w'
            go_simp
            with_reducible rfl
           rotate_left
           ·simp only [Act.put,List.setIfInBounds_toArray,List.set_cons_zero,List.set_cons_succ,zbM,zbN]
            rfl
           refine done_ (done_of HT_.out (by kernel_rfl)) ?_
           try go_wp2
           go_ret
           exact ⟨by first|rfl|(simp [zal,zak]<;>rfl)|(simp [*,zal,zak]<;>rfl),by repeat (first|(with_reducible first|exact HB.out|apply zq|apply zm|apply zo|refine zh ?_ GE199.out|refine zh ?_ GE200.out|refine zh ?_ GE201.out|refine zh ?_ GE205.out|refine zh ?_ GE209.out|refine zh ?_ GE217.out|refine zh ?_ GE221.out|refine zh ?_ GE225.out|refine zh ?_ GE229.out)|exact HB.out)⟩
         ·rw [if_neg c159] at H
          have c159b0:(t224==0)=false:=beq_eq_false_iff_ne.mpr c159
          have c159b1:(t224 != 0)=true:=bne_iff_ne.mpr c159
          obtain rfl:=Option.some.inj H
          try go_wp2
          have n0_:=zk.mk (zf BK199.out)
          have n1_:=zk.mk (zf BK200.out)
          have n2_:=zk.mk (zf BK201.out)
          have n3_:=zk.mk (zf BK205.out)
          have n4_:=zk.mk (zf BK209.out)
          have n5_:=zk.mk (zf BK217.out)
          have n6_:=zk.mk (zf BK221.out)
          have n7_:=zk.mk (zf BK225.out)
          have n8_:=zk.mk (zf BK229.out)
          have n9_:=zk.mk (zo HB.out)
          clear BK199
          clear BK200
          clear BK201
          clear BK205
          clear BK209
          clear BK217
          clear BK221
          clear BK225
          clear BK229
          clear HB
          have BK199:=n0_
          have BK200:=n1_
          have BK201:=n2_
          have BK205:=n3_
          have BK209:=n4_
          have BK217:=n5_
          have BK221:=n6_
          have BK225:=n7_
          have BK229:=n8_
          have HB:=n9_
          clear n0_ n1_ n2_ n3_ n4_ n5_ n6_ n7_ n8_ n9_
          refine start_ (n:=15) (S:=fun w'=>True) (ds:= []) #[false,false,false,false,false,false,false,false,false,false,false,false,false,false,false] (by kernel_rfl) rfl rfl trivial (fun hHeld=>?_);refine with_tabW zH.tab17 zH.bits17 (fun HT_ HW_=>?_)
          generalize wc.drew=w167 at BK199 BK200 BK201 BK205 BK209 BK217 BK221 BK225 BK229 HB hHeld ⊢
          refine zdn (i:=0) (N:=some 98) (v:=?_) (a':=?_) #[true,false,false,false,false,false,false,false,false,false,false,false,false,false,false] rfl rfl (zbQ HT_.out (by kernel_rfl)) (fun _ _ _ h=>h) (Or.inl ⟨by rfl,?_⟩) ?_ ?_
          rotate_left
          ·intro w'
           go_simp
           with_reducible rfl
          rotate_left
          ·simp only [Act.put,List.setIfInBounds_toArray,List.set_cons_zero,List.set_cons_succ,zbM,zbN]
           rfl
          refine zdn (i:=1) (N:=some 99) (v:=?_) (a':=?_) #[true,true,false,false,false,false,false,false,false,false,false,false,false,false,false] rfl rfl (zbQ HT_.out (by kernel_rfl)) (fun _ _ _ h=>h) (Or.inl ⟨by rfl,?_⟩) ?_ ?_
          rotate_left
          ·intro w'
           go_simp
           with_reducible rfl
          rotate_left
          ·simp only [Act.put,List.setIfInBounds_toArray,List.set_cons_zero,List.set_cons_succ,zbM,zbN]
           rfl
          refine zdn (i:=2) (N:=some 100) (v:=?_) (a':=?_) #[true,true,true,false,false,false,false,false,false,false,false,false,false,false,false] rfl rfl (zbQ HT_.out (by kernel_rfl)) (fun _ _ _ h=>h) (Or.inl ⟨by rfl,?_⟩) ?_ ?_
          rotate_left
          ·intro w'
           go_simp
           with_reducible rfl
          rotate_left
          ·simp only [Act.put,List.setIfInBounds_toArray,List.set_cons_zero,List.set_cons_succ,zbM,zbN]
           rfl
          refine zdn (i:=3) (N:=some 101) (v:=undef) (a':=?_) #[true,true,true,true,false,false,false,false,false,false,false,false,false,false,false] rfl rfl (zbQ HT_.out (by kernel_rfl)) (fun _ _ _ h=>h) (Or.inr ⟨by rfl,rfl⟩) ?_ ?_
          rotate_left
          ·simp only [Act.put,List.setIfInBounds_toArray,List.set_cons_zero,List.set_cons_succ,zbM,zbN]
           rfl
          refine zdn (i:=4) (N:=some 102) (v:=undef) (a':=?_) #[true,true,true,true,true,false,false,false,false,false,false,false,false,false,false] rfl rfl (zbQ HT_.out (by kernel_rfl)) (fun _ _ _ h=>h) (Or.inr ⟨by rfl,rfl⟩) ?_ ?_
          rotate_left
          ·simp only [Act.put,List.setIfInBounds_toArray,List.set_cons_zero,List.set_cons_succ,zbM,zbN]
           rfl
          refine zdn (i:=5) (N:=some 103) (v:=?_) (a':=?_) #[true,true,true,true,true,true,false,false,false,false,false,false,false,false,false] rfl rfl (zbQ HT_.out (by kernel_rfl)) (fun _ _ _ h=>h) (Or.inl ⟨by rfl,?_⟩) ?_ ?_
          rotate_left
          ·intro w'
           go_simp
           with_reducible rfl
          rotate_left
          ·simp only [Act.put,List.setIfInBounds_toArray,List.set_cons_zero,List.set_cons_succ,zbM,zbN]
           rfl
          refine zdn (i:=6) (N:=some 104) (v:=?_) (a':=?_) #[true,true,true,true,true,true,true,false,false,false,false,false,false,false,false] rfl rfl (zbQ HT_.out (by kernel_rfl)) (fun _ _ _ h=>h) (Or.inl ⟨by rfl,?_⟩) ?_ ?_
          rotate_left
          ·intro w'
           go_simp
           with_reducible rfl
          rotate_left
          ·simp only [Act.put,List.setIfInBounds_toArray,List.set_cons_zero,List.set_cons_succ,zbM,zbN]
           rfl
          refine zdn (i:=7) (N:=some 105) (v:=undef) (a':=?_) #[true,true,true,true,true,true,true,true,false,false,false,false,false,false,false] rfl rfl (zbQ HT_.out (by kernel_rfl)) (fun _ _ _ h=>h) (Or.inr ⟨by rfl,rfl⟩) ?_ ?_
          rotate_left
          ·simp only [Act.put,List.setIfInBounds_toArray,List.set_cons_zero,List.set_cons_succ,zbM,zbN]
           rfl
          refine zdn (i:=8) (N:=some 106) (v:=undef) (a':=?_) #[true,true,true,true,true,true,true,true,true,false,false,false,false,false,false] rfl rfl (zbQ HT_.out (by kernel_rfl)) (fun _ _ _ h=>h) (Or.inr ⟨by rfl,rfl⟩) ?_ ?_
          rotate_left
          ·simp only [Act.put,List.setIfInBounds_toArray,List.set_cons_zero,List.set_cons_succ,zbM,zbN]
           rfl
          refine zdn (i:=9) (N:=some 107) (v:=undef) (a':=?_) #[true,true,true,true,true,true,true,true,true,true,false,false,false,false,false] rfl rfl (zbQ HT_.out (by kernel_rfl)) (fun _ _ _ h=>h) (Or.inr ⟨by rfl,rfl⟩) ?_ ?_
          rotate_left
          ·simp only [Act.put,List.setIfInBounds_toArray,List.set_cons_zero,List.set_cons_succ,zbM,zbN]
           rfl
          refine zdn (i:=10) (N:=some 108) (v:=undef) (a':=?_) #[true,true,true,true,true,true,true,true,true,true,true,false,false,false,false] rfl rfl (zbQ HT_.out (by kernel_rfl)) (fun _ _ _ h=>h) (Or.inr ⟨by rfl,rfl⟩) ?_ ?_
          rotate_left
          ·simp only [Act.put,List.setIfInBounds_toArray,List.set_cons_zero,List.set_cons_succ,zbM,zbN]
           rfl
          refine zdn (i:=11) (N:=some 109) (v:=undef) (a':=?_) #[true,true,true,true,true,true,true,true,true,true,true,true,false,false,false] rfl rfl (zbQ HT_.out (by kernel_rfl)) (fun _ _ _ h=>h) (Or.inr ⟨by rfl,rfl⟩) ?_ ?_
          rotate_left
          ·simp only [Act.put,List.setIfInBounds_toArray,List.set_cons_zero,List.set_cons_succ,zbM,zbN]
           rfl
          refine zdn (i:=12) (N:=some 110) (v:=undef) (a':=?_) #[true,true,true,true,true,true,true,true,true,true,true,true,true,false,false] rfl rfl (zbQ HT_.out (by kernel_rfl)) (fun _ _ _ h=>h) (Or.inr ⟨by rfl,rfl⟩) ?_ ?_
          rotate_left
          ·simp only [Act.put,List.setIfInBounds_toArray,List.set_cons_zero,List.set_cons_succ,zbM,zbN]
           rfl
          refine zdn (i:=13) (N:=some 111) (v:=?_) (a':=?_) #[true,true,true,true,true,true,true,true,true,true,true,true,true,true,false] rfl rfl (zbQ HT_.out (by kernel_rfl)) (fun _ _ _ h=>h) (Or.inl ⟨by rfl,?_⟩) ?_ ?_
          rotate_left
          ·intro w'
           go_simp
           with_reducible rfl
          rotate_left
          ·simp only [Act.put,List.setIfInBounds_toArray,List.set_cons_zero,List.set_cons_succ,zbM,zbN]
           rfl
          refine zdn (i:=14) (N:=some 2) (v:=?_) (a':=?_) #[true,true,true,true,true,true,true,true,true,true,true,true,true,true,true] rfl rfl (zbQ HT_.out (by kernel_rfl)) (fun _ _ _ h=>h) (Or.inl ⟨by rfl,?_⟩) ?_ ?_
          rotate_left
          ·intro w'
           go_simp
           with_reducible rfl
          rotate_left
          ·simp only [Act.put,List.setIfInBounds_toArray,List.set_cons_zero,List.set_cons_succ,zbM,zbN]
           rfl
          refine done_ (done_of HT_.out (by kernel_rfl)) ?_
          try go_wp2
          go_ret
          exact ⟨by first|rfl|(simp [zal,zak]<;>rfl)|(simp [*,zal,zak]<;>rfl),by repeat (first|(with_reducible first|exact HB.out|apply zq|apply zm|apply zo|refine zh ?_ GE199.out|refine zh ?_ GE200.out|refine zh ?_ GE201.out|refine zh ?_ GE205.out|refine zh ?_ GE209.out|refine zh ?_ GE217.out|refine zh ?_ GE221.out|refine zh ?_ GE225.out|refine zh ?_ GE229.out)|exact HB.out)⟩
     ·replace c75:=Bool.eq_false_iff.mpr c75
      subst c75
      have H1:(some false)=some r:=by rw [if_neg (show ¬(false=true) by decide)] at H;exact H
      clear H
      have H:=H1
      clear H1
      obtain rfl:=Option.some.inj H
      have hnb168:=NB199_200.out
      have hnc168:=NB200_199.out
      have hnb169:=NB199_201.out
      have hnc169:=NB201_199.out
      have hnb170:=NB199_205.out
      have hnc170:=NB205_199.out
      have hnb171:=NB199_209.out
      have hnc171:=NB209_199.out
      have hcz172_0:wc.cell? ⟨gb199,0,none⟩=some (.int .i64 t193):=(zy BK199.out 0).trans rfl
      have hcz172_1:wc.cell? ⟨gb199,1,none⟩=some (.int .i64 t194):=(zy BK199.out 1).trans rfl
      have hfz172_0:=zu BK199.out 0
      have hfz172_1:=zu BK199.out 1
      go_wp2_with (first|((with_reducible refine zai (f:=33) rfl ?_);refine zbB (some 63) rfl rfl Tryz.func33 (by kernel_rfl) rfl #[.agg #[.int .i64 t193,.int .i64 t194]] rfl (by (try simp only [List.map_toArray,List.map_cons,List.map_nil]);first|done|rfl|(simp only [List.length_drop,List.length_take];rfl)) ?_;(with_reducible refine (zcZ.calls t193 t194 t214 t215 t216 _ A70.out).mono ?_);rintro e w173 ⟨rfl,hb⟩;refine ⟨_,rfl,?_⟩;have n0_:=zk.mk (zt (g:=gb199) (o:= .cells #[.int .i64 t193,.int .i64 t194] 24 (0,0)) (by (with_reducible repeat (first|refine za ?_ _|refine zf ?_|refine ze ?_ _));exact BK199.out) hb);have n1_:=zk.mk (zt (g:=gb200) (o:= .cells #[.int .i64 t195,.int .i64 t196] 24 (0,0)) (by (with_reducible repeat (first|refine za ?_ _|refine zf ?_|refine ze ?_ _));exact BK200.out) hb);have n2_:=zk.mk (zt (g:=gb201) (o:= .cells #[.int .i64 t197,.int .i64 t198] 24 (0,0)) (by (with_reducible repeat (first|refine za ?_ _|refine zf ?_|refine ze ?_ _));exact BK201.out) hb);have n3_:=zk.mk (zt (g:=gb205) (o:= .cells #[.int .i64 t202,.int .i64 t203] 30 (0,0)) (by (with_reducible repeat (first|refine za ?_ _|refine zf ?_|refine ze ?_ _));exact BK205.out) hb);have n4_:=zk.mk (zt (g:=gb209) (o:= .cells #[.int .i64 t206,.int .i64 t207] 30 (0,0)) (by (with_reducible repeat (first|refine za ?_ _|refine zf ?_|refine ze ?_ _));exact BK209.out) hb);have n5_:=zk.mk (zaq (by repeat (first|(with_reducible first|exact HB.out|apply zq|apply zm|apply zo|refine zh ?_ GE199.out|refine zh ?_ GE200.out|refine zh ?_ GE201.out|refine zh ?_ GE205.out|refine zh ?_ GE209.out)|exact HB.out)) hb);clear BK199;clear BK200;clear BK201;clear BK205;clear BK209;clear HB;have BK199:=n0_;have BK200:=n1_;have BK201:=n2_;have BK205:=n3_;have BK209:=n4_;have HB:=n5_;clear n0_ n1_ n2_ n3_ n4_ n5_;(try clear hb);(try clear hb2);(try clear hk);(try clear hi))|((with_reducible refine zbC (N:=12) rfl ?_);refine zbz ?hg (N:=12) ?hd (cs:=#[.int .i64 0,.int .i64 0]) (t:=24) ?hr ?_;(case hd=>rfl);(case hg=>rfl);(case hr=>first|(go_simp;done)|(go_simp;rfl));intro gb217 hg w174 hbox hb;have n0_:=zk.mk (zt (g:=gb199) (o:= .cells #[.int .i64 t193,.int .i64 t194] 24 (0,0)) (by (with_reducible repeat (first|refine za ?_ _|refine zf ?_|refine ze ?_ _));exact BK199.out) hb);have n1_:=zk.mk (zt (g:=gb200) (o:= .cells #[.int .i64 t195,.int .i64 t196] 24 (0,0)) (by (with_reducible repeat (first|refine za ?_ _|refine zf ?_|refine ze ?_ _));exact BK200.out) hb);have n2_:=zk.mk (zt (g:=gb201) (o:= .cells #[.int .i64 t197,.int .i64 t198] 24 (0,0)) (by (with_reducible repeat (first|refine za ?_ _|refine zf ?_|refine ze ?_ _));exact BK201.out) hb);have n3_:=zk.mk (zt (g:=gb205) (o:= .cells #[.int .i64 t202,.int .i64 t203] 30 (0,0)) (by (with_reducible repeat (first|refine za ?_ _|refine zf ?_|refine ze ?_ _));exact BK205.out) hb);have n4_:=zk.mk (zt (g:=gb209) (o:= .cells #[.int .i64 t206,.int .i64 t207] 30 (0,0)) (by (with_reducible repeat (first|refine za ?_ _|refine zf ?_|refine ze ?_ _));exact BK209.out) hb);have n5_:=zk.mk (zaq (by repeat (first|(with_reducible first|exact HB.out|apply zq|apply zm|apply zo|refine zh ?_ GE199.out|refine zh ?_ GE200.out|refine zh ?_ GE201.out|refine zh ?_ GE205.out|refine zh ?_ GE209.out)|exact HB.out)) hb);have n6_:=zk.mk (hbox);have n7_:=zk.mk ((by rw [hg];exact (zas (by repeat (first|(with_reducible first|exact HB.out|apply zq|apply zm|apply zo|refine zh ?_ GE199.out|refine zh ?_ GE200.out|refine zh ?_ GE201.out|refine zh ?_ GE205.out|refine zh ?_ GE209.out)|exact HB.out))):w.heap.size<=gb217));have n8_:=zk.mk ((by rw [hg];exact (zas (by repeat (first|(with_reducible first|exact HB.out|apply zq|apply zm|apply zo|refine zh ?_ GE199.out|refine zh ?_ GE200.out|refine zh ?_ GE201.out|refine zh ?_ GE205.out|refine zh ?_ GE209.out)|exact HB.out))):w.heap.size<=gb217));have n9_:=zk.mk ((by rw [hg];exact Nat.ne_of_lt (zQ (g:=gb199) (o:= .cells #[.int .i64 t193,.int .i64 t194] 24 (0,0)) (by (with_reducible repeat (first|refine za ?_ _|refine zf ?_|refine ze ?_ _));exact BK199.out)):gb199≠gb217));have n10_:=zk.mk ((by rw [hg];exact Nat.ne_of_gt (zQ (g:=gb199) (o:= .cells #[.int .i64 t193,.int .i64 t194] 24 (0,0)) (by (with_reducible repeat (first|refine za ?_ _|refine zf ?_|refine ze ?_ _));exact BK199.out)):gb217≠gb199));have n11_:=zk.mk ((by rw [hg];exact Nat.ne_of_lt (zQ (g:=gb200) (o:= .cells #[.int .i64 t195,.int .i64 t196] 24 (0,0)) (by (with_reducible repeat (first|refine za ?_ _|refine zf ?_|refine ze ?_ _));exact BK200.out)):gb200≠gb217));have n12_:=zk.mk ((by rw [hg];exact Nat.ne_of_gt (zQ (g:=gb200) (o:= .cells #[.int .i64 t195,.int .i64 t196] 24 (0,0)) (by (with_reducible repeat (first|refine za ?_ _|refine zf ?_|refine ze ?_ _));exact BK200.out)):gb217≠gb200));have n13_:=zk.mk ((by rw [hg];exact Nat.ne_of_lt (zQ (g:=gb201) (o:= .cells #[.int .i64 t197,.int .i64 t198] 24 (0,0)) (by (with_reducible repeat (first|refine za ?_ _|refine zf ?_|refine ze ?_ _));exact BK201.out)):gb201≠gb217));have n14_:=zk.mk ((by rw [hg];exact Nat.ne_of_gt (zQ (g:=gb201) (o:= .cells #[.int .i64 t197,.int .i64 t198] 24 (0,0)) (by (with_reducible repeat (first|refine za ?_ _|refine zf ?_|refine ze ?_ _));exact BK201.out)):gb217≠gb201));have n15_:=zk.mk ((by rw [hg];exact Nat.ne_of_lt (zQ (g:=gb205) (o:= .cells #[.int .i64 t202,.int .i64 t203] 30 (0,0)) (by (with_reducible repeat (first|refine za ?_ _|refine zf ?_|refine ze ?_ _));exact BK205.out)):gb205≠gb217));have n16_:=zk.mk ((by rw [hg];exact Nat.ne_of_gt (zQ (g:=gb205) (o:= .cells #[.int .i64 t202,.int .i64 t203] 30 (0,0)) (by (with_reducible repeat (first|refine za ?_ _|refine zf ?_|refine ze ?_ _));exact BK205.out)):gb217≠gb205));have n17_:=zk.mk ((by rw [hg];exact Nat.ne_of_lt (zQ (g:=gb209) (o:= .cells #[.int .i64 t206,.int .i64 t207] 30 (0,0)) (by (with_reducible repeat (first|refine za ?_ _|refine zf ?_|refine ze ?_ _));exact BK209.out)):gb209≠gb217));have n18_:=zk.mk ((by rw [hg];exact Nat.ne_of_gt (zQ (g:=gb209) (o:= .cells #[.int .i64 t206,.int .i64 t207] 30 (0,0)) (by (with_reducible repeat (first|refine za ?_ _|refine zf ?_|refine ze ?_ _));exact BK209.out)):gb217≠gb209));clear BK199;clear BK200;clear BK201;clear BK205;clear BK209;clear HB;have BK199:=n0_;have BK200:=n1_;have BK201:=n2_;have BK205:=n3_;have BK209:=n4_;have HB:=n5_;have BK217:=n6_;have GW217:=n7_;have GE217:=n8_;have NB199_217:=n9_;have NB217_199:=n10_;have NB200_217:=n11_;have NB217_200:=n12_;have NB201_217:=n13_;have NB217_201:=n14_;have NB205_217:=n15_;have NB217_205:=n16_;have NB209_217:=n17_;have NB217_209:=n18_;clear n0_ n1_ n2_ n3_ n4_ n5_ n6_ n7_ n8_ n9_ n10_ n11_ n12_ n13_ n14_ n15_ n16_ n17_ n18_;clear hb hbox hg;have hnb175:=NB217_199.out;have hnc175:=NB199_217.out;have hnb176:=NB217_200.out;have hnc176:=NB200_217.out;have hnb177:=NB217_201.out;have hnc177:=NB201_217.out;have hnb178:=NB217_205.out;have hnc178:=NB205_217.out;have hnb179:=NB217_209.out;have hnc179:=NB209_217.out;have hcz180_0:w174.cell? ⟨gb217,0,none⟩=some (.int .i64 0):=(zy BK217.out 0).trans rfl;have hcz180_1:w174.cell? ⟨gb217,1,none⟩=some (.int .i64 0):=(zy BK217.out 1).trans rfl;have hfz180_0:=zu BK217.out 0;have hfz180_1:=zu BK217.out 1;have hnb181:=NB200_201.out;have hnc181:=NB201_200.out;have hnb182:=NB200_205.out;have hnc182:=NB205_200.out;have hnb183:=NB200_209.out;have hnc183:=NB209_200.out;have hcz184_0:w174.cell? ⟨gb200,0,none⟩=some (.int .i64 t195):=(zy BK200.out 0).trans rfl;have hcz184_1:w174.cell? ⟨gb200,1,none⟩=some (.int .i64 t196):=(zy BK200.out 1).trans rfl;have hfz184_0:=zu BK200.out 0;have hfz184_1:=zu BK200.out 1)|((with_reducible refine zai (f:=31) rfl ?_);refine zbB (some 69) rfl rfl Tryz.func31 (by kernel_rfl) rfl #[.agg #[.int .i64 t214,.int .i64 t215],.agg #[.int .i64 t195,.int .i64 t196]] rfl (by (try simp only [List.map_toArray,List.map_cons,List.map_nil]);first|done|rfl|(simp only [List.length_drop,List.length_take];rfl)) ?_;(with_reducible refine (zX.calls t214 t215 t195 t196 t218 t219 t220 _ A71.out).mono ?_);rintro e w185 ⟨rfl,hb⟩;refine ⟨_,rfl,?_⟩;have n0_:=zk.mk (zt (g:=gb199) (o:= .cells #[.int .i64 t193,.int .i64 t194] 24 (0,0)) (by (with_reducible repeat (first|refine za ?_ _|refine zf ?_|refine ze ?_ _));refine zw ?_ NB199_217.out _;(with_reducible repeat (first|refine za ?_ _|refine zf ?_|refine ze ?_ _));refine zw ?_ NB199_217.out _;(with_reducible repeat (first|refine za ?_ _|refine zf ?_|refine ze ?_ _));exact BK199.out) hb);have n1_:=zk.mk (zt (g:=gb200) (o:= .cells #[.int .i64 t195,.int .i64 t196] 24 (0,0)) (by (with_reducible repeat (first|refine za ?_ _|refine zf ?_|refine ze ?_ _));refine zw ?_ NB200_217.out _;(with_reducible repeat (first|refine za ?_ _|refine zf ?_|refine ze ?_ _));refine zw ?_ NB200_217.out _;(with_reducible repeat (first|refine za ?_ _|refine zf ?_|refine ze ?_ _));exact BK200.out) hb);have n2_:=zk.mk (zt (g:=gb201) (o:= .cells #[.int .i64 t197,.int .i64 t198] 24 (0,0)) (by (with_reducible repeat (first|refine za ?_ _|refine zf ?_|refine ze ?_ _));refine zw ?_ NB201_217.out _;(with_reducible repeat (first|refine za ?_ _|refine zf ?_|refine ze ?_ _));refine zw ?_ NB201_217.out _;(with_reducible repeat (first|refine za ?_ _|refine zf ?_|refine ze ?_ _));exact BK201.out) hb);have n3_:=zk.mk (zt (g:=gb205) (o:= .cells #[.int .i64 t202,.int .i64 t203] 30 (0,0)) (by (with_reducible repeat (first|refine za ?_ _|refine zf ?_|refine ze ?_ _));refine zw ?_ NB205_217.out _;(with_reducible repeat (first|refine za ?_ _|refine zf ?_|refine ze ?_ _));refine zw ?_ NB205_217.out _;(with_reducible repeat (first|refine za ?_ _|refine zf ?_|refine ze ?_ _));exact BK205.out) hb);have n4_:=zk.mk (zt (g:=gb209) (o:= .cells #[.int .i64 t206,.int .i64 t207] 30 (0,0)) (by (with_reducible repeat (first|refine za ?_ _|refine zf ?_|refine ze ?_ _));refine zw ?_ NB209_217.out _;(with_reducible repeat (first|refine za ?_ _|refine zf ?_|refine ze ?_ _));refine zw ?_ NB209_217.out _;(with_reducible repeat (first|refine za ?_ _|refine zf ?_|refine ze ?_ _));exact BK209.out) hb);have n5_:=zk.mk (zt (g:=gb217) (o:= .cells #[.int .i64 t214,.int .i64 t215] 24 (0,0)) (by (with_reducible repeat (first|refine za ?_ _|refine zf ?_|refine ze ?_ _));refine zaw (cs:=#[.int .i64 t214,.int .i64 0]) ?_ 1 _ rfl;(with_reducible repeat (first|refine za ?_ _|refine zf ?_|refine ze ?_ _));refine zaw (cs:=#[.int .i64 0,.int .i64 0]) ?_ 0 _ rfl;(with_reducible repeat (first|refine za ?_ _|refine zf ?_|refine ze ?_ _));exact BK217.out) hb);have n6_:=zk.mk (zaq (by repeat (first|(with_reducible first|exact HB.out|apply zq|apply zm|apply zo|refine zh ?_ GE199.out|refine zh ?_ GE200.out|refine zh ?_ GE201.out|refine zh ?_ GE205.out|refine zh ?_ GE209.out|refine zh ?_ GE217.out)|exact HB.out)) hb);clear BK199;clear BK200;clear BK201;clear BK205;clear BK209;clear BK217;clear HB;have BK199:=n0_;have BK200:=n1_;have BK201:=n2_;have BK205:=n3_;have BK209:=n4_;have BK217:=n5_;have HB:=n6_;clear n0_ n1_ n2_ n3_ n4_ n5_ n6_;(try clear hb);(try clear hb2);(try clear hk);(try clear hi))|((with_reducible refine zbC (N:=14) rfl ?_);refine zbz ?hg (N:=14) ?hd (cs:=#[.int .i64 0,.int .i64 0]) (t:=30) ?hr ?_;(case hd=>rfl);(case hg=>rfl);(case hr=>first|(go_simp;done)|(go_simp;rfl));intro gb221 hg w186 hbox hb;have n0_:=zk.mk (zt (g:=gb199) (o:= .cells #[.int .i64 t193,.int .i64 t194] 24 (0,0)) (by (with_reducible repeat (first|refine za ?_ _|refine zf ?_|refine ze ?_ _));exact BK199.out) hb);have n1_:=zk.mk (zt (g:=gb200) (o:= .cells #[.int .i64 t195,.int .i64 t196] 24 (0,0)) (by (with_reducible repeat (first|refine za ?_ _|refine zf ?_|refine ze ?_ _));exact BK200.out) hb);have n2_:=zk.mk (zt (g:=gb201) (o:= .cells #[.int .i64 t197,.int .i64 t198] 24 (0,0)) (by (with_reducible repeat (first|refine za ?_ _|refine zf ?_|refine ze ?_ _));exact BK201.out) hb);have n3_:=zk.mk (zt (g:=gb205) (o:= .cells #[.int .i64 t202,.int .i64 t203] 30 (0,0)) (by (with_reducible repeat (first|refine za ?_ _|refine zf ?_|refine ze ?_ _));exact BK205.out) hb);have n4_:=zk.mk (zt (g:=gb209) (o:= .cells #[.int .i64 t206,.int .i64 t207] 30 (0,0)) (by (with_reducible repeat (first|refine za ?_ _|refine zf ?_|refine ze ?_ _));exact BK209.out) hb);have n5_:=zk.mk (zt (g:=gb217) (o:= .cells #[.int .i64 t214,.int .i64 t215] 24 (0,0)) (by (with_reducible repeat (first|refine za ?_ _|refine zf ?_|refine ze ?_ _));exact BK217.out) hb);have n6_:=zk.mk (zaq (by repeat (first|(with_reducible first|exact HB.out|apply zq|apply zm|apply zo|refine zh ?_ GE199.out|refine zh ?_ GE200.out|refine zh ?_ GE201.out|refine zh ?_ GE205.out|refine zh ?_ GE209.out|refine zh ?_ GE217.out)|exact HB.out)) hb);have n7_:=zk.mk (hbox);have n8_:=zk.mk ((by rw [hg];exact (zas (by repeat (first|(with_reducible first|exact HB.out|apply zq|apply zm|apply zo|refine zh ?_ GE199.out|refine zh ?_ GE200.out|refine zh ?_ GE201.out|refine zh ?_ GE205.out|refine zh ?_ GE209.out|refine zh ?_ GE217.out)|exact HB.out))):w.heap.size<=gb221));have n9_:=zk.mk ((by rw [hg];exact (zas (by repeat (first|(with_reducible first|exact HB.out|apply zq|apply zm|apply zo|refine zh ?_ GE199.out|refine zh ?_ GE200.out|refine zh ?_ GE201.out|refine zh ?_ GE205.out|refine zh ?_ GE209.out|refine zh ?_ GE217.out)|exact HB.out))):w.heap.size<=gb221));have n10_:=zk.mk ((by rw [hg];exact Nat.ne_of_lt (zQ (g:=gb199) (o:= .cells #[.int .i64 t193,.int .i64 t194] 24 (0,0)) (by (with_reducible repeat (first|refine za ?_ _|refine zf ?_|refine ze ?_ _));exact BK199.out)):gb199≠gb221));have n11_:=zk.mk ((by rw [hg];exact Nat.ne_of_gt (zQ (g:=gb199) (o:= .cells #[.int .i64 t193,.int .i64 t194] 24 (0,0)) (by (with_reducible repeat (first|refine za ?_ _|refine zf ?_|refine ze ?_ _));exact BK199.out)):gb221≠gb199));have n12_:=zk.mk ((by rw [hg];exact Nat.ne_of_lt (zQ (g:=gb200) (o:= .cells #[.int .i64 t195,.int .i64 t196] 24 (0,0)) (by (with_reducible repeat (first|refine za ?_ _|refine zf ?_|refine ze ?_ _));exact BK200.out)):gb200≠gb221));have n13_:=zk.mk ((by rw [hg];exact Nat.ne_of_gt (zQ (g:=gb200) (o:= .cells #[.int .i64 t195,.int .i64 t196] 24 (0,0)) (by (with_reducible repeat (first|refine za ?_ _|refine zf ?_|refine ze ?_ _));exact BK200.out)):gb221≠gb200));have n14_:=zk.mk ((by rw [hg];exact Nat.ne_of_lt (zQ (g:=gb201) (o:= .cells #[.int .i64 t197,.int .i64 t198] 24 (0,0)) (by (with_reducible repeat (first|refine za ?_ _|refine zf ?_|refine ze ?_ _));exact BK201.out)):gb201≠gb221));have n15_:=zk.mk ((by rw [hg];exact Nat.ne_of_gt (zQ (g:=gb201) (o:= .cells #[.int .i64 t197,.int .i64 t198] 24 (0,0)) (by (with_reducible repeat (first|refine za ?_ _|refine zf ?_|refine ze ?_ _));exact BK201.out)):gb221≠gb201));have n16_:=zk.mk ((by rw [hg];exact Nat.ne_of_lt (zQ (g:=gb205) (o:= .cells #[.int .i64 t202,.int .i64 t203] 30 (0,0)) (by (with_reducible repeat (first|refine za ?_ _|refine zf ?_|refine ze ?_ _));exact BK205.out)):gb205≠gb221));have n17_:=zk.mk ((by rw [hg];exact Nat.ne_of_gt (zQ (g:=gb205) (o:= .cells #[.int .i64 t202,.int .i64 t203] 30 (0,0)) (by (with_reducible repeat (first|refine za ?_ _|refine zf ?_|refine ze ?_ _));exact BK205.out)):gb221≠gb205));have n18_:=zk.mk ((by rw [hg];exact Nat.ne_of_lt (zQ (g:=gb209) (o:= .cells #[.int .i64 t206,.int .i64 t207] 30 (0,0)) (by (with_reducible repeat (first|refine za ?_ _|refine zf ?_|refine ze ?_ _));exact BK209.out)):gb209≠gb221));have n19_:=zk.mk ((by rw [hg];exact Nat.ne_of_gt (zQ (g:=gb209) (o:= .cells #[.int .i64 t206,.int .i64 t207] 30 (0,0)) (by (with_reducible repeat (first|refine za ?_ _|refine zf ?_|refine ze ?_ _));exact BK209.out)):gb221≠gb209));have n20_:=zk.mk ((by rw [hg];exact Nat.ne_of_lt (zQ (g:=gb217) (o:= .cells #[.int .i64 t214,.int .i64 t215] 24 (0,0)) (by (with_reducible repeat (first|refine za ?_ _|refine zf ?_|refine ze ?_ _));exact BK217.out)):gb217≠gb221));have n21_:=zk.mk ((by rw [hg];exact Nat.ne_of_gt (zQ (g:=gb217) (o:= .cells #[.int .i64 t214,.int .i64 t215] 24 (0,0)) (by (with_reducible repeat (first|refine za ?_ _|refine zf ?_|refine ze ?_ _));exact BK217.out)):gb221≠gb217));clear BK199;clear BK200;clear BK201;clear BK205;clear BK209;clear BK217;clear HB;have BK199:=n0_;have BK200:=n1_;have BK201:=n2_;have BK205:=n3_;have BK209:=n4_;have BK217:=n5_;have HB:=n6_;have BK221:=n7_;have GW221:=n8_;have GE221:=n9_;have NB199_221:=n10_;have NB221_199:=n11_;have NB200_221:=n12_;have NB221_200:=n13_;have NB201_221:=n14_;have NB221_201:=n15_;have NB205_221:=n16_;have NB221_205:=n17_;have NB209_221:=n18_;have NB221_209:=n19_;have NB217_221:=n20_;have NB221_217:=n21_;clear n0_ n1_ n2_ n3_ n4_ n5_ n6_ n7_ n8_ n9_ n10_ n11_ n12_ n13_ n14_ n15_ n16_ n17_ n18_ n19_ n20_ n21_;clear hb hbox hg;have hnb187:=NB221_199.out;have hnc187:=NB199_221.out;have hnb188:=NB221_200.out;have hnc188:=NB200_221.out;have hnb189:=NB221_201.out;have hnc189:=NB201_221.out;have hnb190:=NB221_205.out;have hnc190:=NB205_221.out;have hnb191:=NB221_209.out;have hnc191:=NB209_221.out;have hnb192:=NB221_217.out;have hnc192:=NB217_221.out;have hcz193_0:w186.cell? ⟨gb221,0,none⟩=some (.int .i64 0):=(zy BK221.out 0).trans rfl;have hcz193_1:w186.cell? ⟨gb221,1,none⟩=some (.int .i64 0):=(zy BK221.out 1).trans rfl;have hfz193_0:=zu BK221.out 0;have hfz193_1:=zu BK221.out 1;have hcz194_0:w186.cell? ⟨gb199,0,none⟩=some (.int .i64 t193):=(zy BK199.out 0).trans rfl;have hcz194_1:w186.cell? ⟨gb199,1,none⟩=some (.int .i64 t194):=(zy BK199.out 1).trans rfl;have hfz194_0:=zu BK199.out 0;have hfz194_1:=zu BK199.out 1;have hnb195:=NB201_205.out;have hnc195:=NB205_201.out;have hnb196:=NB201_209.out;have hnc196:=NB209_201.out;have hcz197_0:w186.cell? ⟨gb201,0,none⟩=some (.int .i64 t197):=(zy BK201.out 0).trans rfl;have hcz197_1:w186.cell? ⟨gb201,1,none⟩=some (.int .i64 t198):=(zy BK201.out 1).trans rfl;have hfz197_0:=zu BK201.out 0;have hfz197_1:=zu BK201.out 1)|((with_reducible refine zai (f:=31) rfl ?_);refine zbB (some 75) rfl rfl Tryz.func31 (by kernel_rfl) rfl #[.agg #[.int .i64 t193,.int .i64 t194],.agg #[.int .i64 t197,.int .i64 t198]] rfl (by (try simp only [List.map_toArray,List.map_cons,List.map_nil]);first|done|rfl|(simp only [List.length_drop,List.length_take];rfl)) ?_;(with_reducible refine (zX.calls t193 t194 t197 t198 t222 t223 t224 _ A72.out).mono ?_);rintro e w198 ⟨rfl,hb⟩;refine ⟨_,rfl,?_⟩;have n0_:=zk.mk (zt (g:=gb199) (o:= .cells #[.int .i64 t193,.int .i64 t194] 24 (0,0)) (by (with_reducible repeat (first|refine za ?_ _|refine zf ?_|refine ze ?_ _));refine zw ?_ NB199_221.out _;(with_reducible repeat (first|refine za ?_ _|refine zf ?_|refine ze ?_ _));refine zw ?_ NB199_221.out _;(with_reducible repeat (first|refine za ?_ _|refine zf ?_|refine ze ?_ _));exact BK199.out) hb);have n1_:=zk.mk (zt (g:=gb200) (o:= .cells #[.int .i64 t195,.int .i64 t196] 24 (0,0)) (by (with_reducible repeat (first|refine za ?_ _|refine zf ?_|refine ze ?_ _));refine zw ?_ NB200_221.out _;(with_reducible repeat (first|refine za ?_ _|refine zf ?_|refine ze ?_ _));refine zw ?_ NB200_221.out _;(with_reducible repeat (first|refine za ?_ _|refine zf ?_|refine ze ?_ _));exact BK200.out) hb);have n2_:=zk.mk (zt (g:=gb201) (o:= .cells #[.int .i64 t197,.int .i64 t198] 24 (0,0)) (by (with_reducible repeat (first|refine za ?_ _|refine zf ?_|refine ze ?_ _));refine zw ?_ NB201_221.out _;(with_reducible repeat (first|refine za ?_ _|refine zf ?_|refine ze ?_ _));refine zw ?_ NB201_221.out _;(with_reducible repeat (first|refine za ?_ _|refine zf ?_|refine ze ?_ _));exact BK201.out) hb);have n3_:=zk.mk (zt (g:=gb205) (o:= .cells #[.int .i64 t202,.int .i64 t203] 30 (0,0)) (by (with_reducible repeat (first|refine za ?_ _|refine zf ?_|refine ze ?_ _));refine zw ?_ NB205_221.out _;(with_reducible repeat (first|refine za ?_ _|refine zf ?_|refine ze ?_ _));refine zw ?_ NB205_221.out _;(with_reducible repeat (first|refine za ?_ _|refine zf ?_|refine ze ?_ _));exact BK205.out) hb);have n4_:=zk.mk (zt (g:=gb209) (o:= .cells #[.int .i64 t206,.int .i64 t207] 30 (0,0)) (by (with_reducible repeat (first|refine za ?_ _|refine zf ?_|refine ze ?_ _));refine zw ?_ NB209_221.out _;(with_reducible repeat (first|refine za ?_ _|refine zf ?_|refine ze ?_ _));refine zw ?_ NB209_221.out _;(with_reducible repeat (first|refine za ?_ _|refine zf ?_|refine ze ?_ _));exact BK209.out) hb);have n5_:=zk.mk (zt (g:=gb217) (o:= .cells #[.int .i64 t214,.int .i64 t215] 24 (0,0)) (by (with_reducible repeat (first|refine za ?_ _|refine zf ?_|refine ze ?_ _));refine zw ?_ NB217_221.out _;(with_reducible repeat (first|refine za ?_ _|refine zf ?_|refine ze ?_ _));refine zw ?_ NB217_221.out _;(with_reducible repeat (first|refine za ?_ _|refine zf ?_|refine ze ?_ _));exact BK217.out) hb);have n6_:=zk.mk (zt (g:=gb221) (o:= .cells #[.int .i64 t218,.int .i64 t219] 30 (0,0)) (by (with_reducible repeat (first|refine za ?_ _|refine zf ?_|refine ze ?_ _));refine zaw (cs:=#[.int .i64 t218,.int .i64 0]) ?_ 1 _ rfl;(with_reducible repeat (first|refine za ?_ _|refine zf ?_|refine ze ?_ _));refine zaw (cs:=#[.int .i64 0,.int .i64 0]) ?_ 0 _ rfl;(with_reducible repeat (first|refine za ?_ _|refine zf ?_|refine ze ?_ _));exact BK221.out) hb);have n7_:=zk.mk (zaq (by repeat (first|(with_reducible first|exact HB.out|apply zq|apply zm|apply zo|refine zh ?_ GE199.out|refine zh ?_ GE200.out|refine zh ?_ GE201.out|refine zh ?_ GE205.out|refine zh ?_ GE209.out|refine zh ?_ GE217.out|refine zh ?_ GE221.out)|exact HB.out)) hb);clear BK199;clear BK200;clear BK201;clear BK205;clear BK209;clear BK217;clear BK221;clear HB;have BK199:=n0_;have BK200:=n1_;have BK201:=n2_;have BK205:=n3_;have BK209:=n4_;have BK217:=n5_;have BK221:=n6_;have HB:=n7_;clear n0_ n1_ n2_ n3_ n4_ n5_ n6_ n7_;(try clear hb);(try clear hb2);(try clear hk);(try clear hi))|((with_reducible refine zbC (N:=16) rfl ?_);refine zbz ?hg (N:=16) ?hd (cs:=#[.int .i64 0,.int .i64 0]) (t:=30) ?hr ?_;(case hd=>rfl);(case hg=>rfl);(case hr=>first|(go_simp;done)|(go_simp;rfl));intro gb225 hg w199 hbox hb;have n0_:=zk.mk (zt (g:=gb199) (o:= .cells #[.int .i64 t193,.int .i64 t194] 24 (0,0)) (by (with_reducible repeat (first|refine za ?_ _|refine zf ?_|refine ze ?_ _));exact BK199.out) hb);have n1_:=zk.mk (zt (g:=gb200) (o:= .cells #[.int .i64 t195,.int .i64 t196] 24 (0,0)) (by (with_reducible repeat (first|refine za ?_ _|refine zf ?_|refine ze ?_ _));exact BK200.out) hb);have n2_:=zk.mk (zt (g:=gb201) (o:= .cells #[.int .i64 t197,.int .i64 t198] 24 (0,0)) (by (with_reducible repeat (first|refine za ?_ _|refine zf ?_|refine ze ?_ _));exact BK201.out) hb);have n3_:=zk.mk (zt (g:=gb205) (o:= .cells #[.int .i64 t202,.int .i64 t203] 30 (0,0)) (by (with_reducible repeat (first|refine za ?_ _|refine zf ?_|refine ze ?_ _));exact BK205.out) hb);have n4_:=zk.mk (zt (g:=gb209) (o:= .cells #[.int .i64 t206,.int .i64 t207] 30 (0,0)) (by (with_reducible repeat (first|refine za ?_ _|refine zf ?_|refine ze ?_ _));exact BK209.out) hb);have n5_:=zk.mk (zt (g:=gb217) (o:= .cells #[.int .i64 t214,.int .i64 t215] 24 (0,0)) (by (with_reducible repeat (first|refine za ?_ _|refine zf ?_|refine ze ?_ _));exact BK217.out) hb);have n6_:=zk.mk (zt (g:=gb221) (o:= .cells #[.int .i64 t218,.int .i64 t219] 30 (0,0)) (by (with_reducible repeat (first|refine za ?_ _|refine zf ?_|refine ze ?_ _));exact BK221.out) hb);have n7_:=zk.mk (zaq (by repeat (first|(with_reducible first|exact HB.out|apply zq|apply zm|apply zo|refine zh ?_ GE199.out|refine zh ?_ GE200.out|refine zh ?_ GE201.out|refine zh ?_ GE205.out|refine zh ?_ GE209.out|refine zh ?_ GE217.out|refine zh ?_ GE221.out)|exact HB.out)) hb);have n8_:=zk.mk (hbox);have n9_:=zk.mk ((by rw [hg];exact (zas (by repeat (first|(with_reducible first|exact HB.out|apply zq|apply zm|apply zo|refine zh ?_ GE199.out|refine zh ?_ GE200.out|refine zh ?_ GE201.out|refine zh ?_ GE205.out|refine zh ?_ GE209.out|refine zh ?_ GE217.out|refine zh ?_ GE221.out)|exact HB.out))):w.heap.size<=gb225));have n10_:=zk.mk ((by rw [hg];exact (zas (by repeat (first|(with_reducible first|exact HB.out|apply zq|apply zm|apply zo|refine zh ?_ GE199.out|refine zh ?_ GE200.out|refine zh ?_ GE201.out|refine zh ?_ GE205.out|refine zh ?_ GE209.out|refine zh ?_ GE217.out|refine zh ?_ GE221.out)|exact HB.out))):w.heap.size<=gb225));have n11_:=zk.mk ((by rw [hg];exact Nat.ne_of_lt (zQ (g:=gb199) (o:= .cells #[.int .i64 t193,.int .i64 t194] 24 (0,0)) (by (with_reducible repeat (first|refine za ?_ _|refine zf ?_|refine ze ?_ _));exact BK199.out)):gb199≠gb225));have n12_:=zk.mk ((by rw [hg];exact Nat.ne_of_gt (zQ (g:=gb199) (o:= .cells #[.int .i64 t193,.int .i64 t194] 24 (0,0)) (by (with_reducible repeat (first|refine za ?_ _|refine zf ?_|refine ze ?_ _));exact BK199.out)):gb225≠gb199));have n13_:=zk.mk ((by rw [hg];exact Nat.ne_of_lt (zQ (g:=gb200) (o:= .cells #[.int .i64 t195,.int .i64 t196] 24 (0,0)) (by (with_reducible repeat (first|refine za ?_ _|refine zf ?_|refine ze ?_ _));exact BK200.out)):gb200≠gb225));have n14_:=zk.mk ((by rw [hg];exact Nat.ne_of_gt (zQ (g:=gb200) (o:= .cells #[.int .i64 t195,.int .i64 t196] 24 (0,0)) (by (with_reducible repeat (first|refine za ?_ _|refine zf ?_|refine ze ?_ _));exact BK200.out)):gb225≠gb200));have n15_:=zk.mk ((by rw [hg];exact Nat.ne_of_lt (zQ (g:=gb201) (o:= .cells #[.int .i64 t197,.int .i64 t198] 24 (0,0)) (by (with_reducible repeat (first|refine za ?_ _|refine zf ?_|refine ze ?_ _));exact BK201.out)):gb201≠gb225));have n16_:=zk.mk ((by rw [hg];exact Nat.ne_of_gt (zQ (g:=gb201) (o:= .cells #[.int .i64 t197,.int .i64 t198] 24 (0,0)) (by (with_reducible repeat (first|refine za ?_ _|refine zf ?_|refine ze ?_ _));exact BK201.out)):gb225≠gb201));have n17_:=zk.mk ((by rw [hg];exact Nat.ne_of_lt (zQ (g:=gb205) (o:= .cells #[.int .i64 t202,.int .i64 t203] 30 (0,0)) (by (with_reducible repeat (first|refine za ?_ _|refine zf ?_|refine ze ?_ _));exact BK205.out)):gb205≠gb225));have n18_:=zk.mk ((by rw [hg];exact Nat.ne_of_gt (zQ (g:=gb205) (o:= .cells #[.int .i64 t202,.int .i64 t203] 30 (0,0)) (by (with_reducible repeat (first|refine za ?_ _|refine zf ?_|refine ze ?_ _));exact BK205.out)):gb225≠gb205));have n19_:=zk.mk ((by rw [hg];exact Nat.ne_of_lt (zQ (g:=gb209) (o:= .cells #[.int .i64 t206,.int .i64 t207] 30 (0,0)) (by (with_reducible repeat (first|refine za ?_ _|refine zf ?_|refine ze ?_ _));exact BK209.out)):gb209≠gb225));have n20_:=zk.mk ((by rw [hg];exact Nat.ne_of_gt (zQ (g:=gb209) (o:= .cells #[.int .i64 t206,.int .i64 t207] 30 (0,0)) (by (with_reducible repeat (first|refine za ?_ _|refine zf ?_|refine ze ?_ _));exact BK209.out)):gb225≠gb209));have n21_:=zk.mk ((by rw [hg];exact Nat.ne_of_lt (zQ (g:=gb217) (o:= .cells #[.int .i64 t214,.int .i64 t215] 24 (0,0)) (by (with_reducible repeat (first|refine za ?_ _|refine zf ?_|refine ze ?_ _));exact BK217.out)):gb217≠gb225));have n22_:=zk.mk ((by rw [hg];exact Nat.ne_of_gt (zQ (g:=gb217) (o:= .cells #[.int .i64 t214,.int .i64 t215] 24 (0,0)) (by (with_reducible repeat (first|refine za ?_ _|refine zf ?_|refine ze ?_ _));exact BK217.out)):gb225≠gb217));have n23_:=zk.mk ((by rw [hg];exact Nat.ne_of_lt (zQ (g:=gb221) (o:= .cells #[.int .i64 t218,.int .i64 t219] 30 (0,0)) (by (with_reducible repeat (first|refine za ?_ _|refine zf ?_|refine ze ?_ _));exact BK221.out)):gb221≠gb225));have n24_:=zk.mk ((by rw [hg];exact Nat.ne_of_gt (zQ (g:=gb221) (o:= .cells #[.int .i64 t218,.int .i64 t219] 30 (0,0)) (by (with_reducible repeat (first|refine za ?_ _|refine zf ?_|refine ze ?_ _));exact BK221.out)):gb225≠gb221));clear BK199;clear BK200;clear BK201;clear BK205;clear BK209;clear BK217;clear BK221;clear HB;have BK199:=n0_;have BK200:=n1_;have BK201:=n2_;have BK205:=n3_;have BK209:=n4_;have BK217:=n5_;have BK221:=n6_;have HB:=n7_;have BK225:=n8_;have GW225:=n9_;have GE225:=n10_;have NB199_225:=n11_;have NB225_199:=n12_;have NB200_225:=n13_;have NB225_200:=n14_;have NB201_225:=n15_;have NB225_201:=n16_;have NB205_225:=n17_;have NB225_205:=n18_;have NB209_225:=n19_;have NB225_209:=n20_;have NB217_225:=n21_;have NB225_217:=n22_;have NB221_225:=n23_;have NB225_221:=n24_;clear n0_ n1_ n2_ n3_ n4_ n5_ n6_ n7_ n8_ n9_ n10_ n11_ n12_ n13_ n14_ n15_ n16_ n17_ n18_ n19_ n20_ n21_ n22_ n23_ n24_;clear hb hbox hg;have hnb200:=NB225_199.out;have hnc200:=NB199_225.out;have hnb201:=NB225_200.out;have hnc201:=NB200_225.out;have hnb202:=NB225_201.out;have hnc202:=NB201_225.out;have hnb203:=NB225_205.out;have hnc203:=NB205_225.out;have hnb204:=NB225_209.out;have hnc204:=NB209_225.out;have hnb205:=NB225_217.out;have hnc205:=NB217_225.out;have hnb206:=NB225_221.out;have hnc206:=NB221_225.out;have hcz207_0:w199.cell? ⟨gb225,0,none⟩=some (.int .i64 0):=(zy BK225.out 0).trans rfl;have hcz207_1:w199.cell? ⟨gb225,1,none⟩=some (.int .i64 0):=(zy BK225.out 1).trans rfl;have hfz207_0:=zu BK225.out 0;have hfz207_1:=zu BK225.out 1;have hcz208_0:w199.cell? ⟨gb201,0,none⟩=some (.int .i64 t197):=(zy BK201.out 0).trans rfl;have hcz208_1:w199.cell? ⟨gb201,1,none⟩=some (.int .i64 t198):=(zy BK201.out 1).trans rfl;have hfz208_0:=zu BK201.out 0;have hfz208_1:=zu BK201.out 1;have hcz209_0:w199.cell? ⟨gb200,0,none⟩=some (.int .i64 t195):=(zy BK200.out 0).trans rfl;have hcz209_1:w199.cell? ⟨gb200,1,none⟩=some (.int .i64 t196):=(zy BK200.out 1).trans rfl;have hfz209_0:=zu BK200.out 0;have hfz209_1:=zu BK200.out 1)|((with_reducible refine zai (f:=31) rfl ?_);refine zbB (some 81) rfl rfl Tryz.func31 (by kernel_rfl) rfl #[.agg #[.int .i64 t197,.int .i64 t198],.agg #[.int .i64 t195,.int .i64 t196]] rfl (by (try simp only [List.map_toArray,List.map_cons,List.map_nil]);first|done|rfl|(simp only [List.length_drop,List.length_take];rfl)) ?_;(with_reducible refine (zX.calls t197 t198 t195 t196 t226 t227 t228 _ A73.out).mono ?_);rintro e w210 ⟨rfl,hb⟩;refine ⟨_,rfl,?_⟩;have n0_:=zk.mk (zt (g:=gb199) (o:= .cells #[.int .i64 t193,.int .i64 t194] 24 (0,0)) (by (with_reducible repeat (first|refine za ?_ _|refine zf ?_|refine ze ?_ _));refine zw ?_ NB199_225.out _;(with_reducible repeat (first|refine za ?_ _|refine zf ?_|refine ze ?_ _));refine zw ?_ NB199_225.out _;(with_reducible repeat (first|refine za ?_ _|refine zf ?_|refine ze ?_ _));exact BK199.out) hb);have n1_:=zk.mk (zt (g:=gb200) (o:= .cells #[.int .i64 t195,.int .i64 t196] 24 (0,0)) (by (with_reducible repeat (first|refine za ?_ _|refine zf ?_|refine ze ?_ _));refine zw ?_ NB200_225.out _;(with_reducible repeat (first|refine za ?_ _|refine zf ?_|refine ze ?_ _));refine zw ?_ NB200_225.out _;(with_reducible repeat (first|refine za ?_ _|refine zf ?_|refine ze ?_ _));exact BK200.out) hb);have n2_:=zk.mk (zt (g:=gb201) (o:= .cells #[.int .i64 t197,.int .i64 t198] 24 (0,0)) (by (with_reducible repeat (first|refine za ?_ _|refine zf ?_|refine ze ?_ _));refine zw ?_ NB201_225.out _;(with_reducible repeat (first|refine za ?_ _|refine zf ?_|refine ze ?_ _));refine zw ?_ NB201_225.out _;(with_reducible repeat (first|refine za ?_ _|refine zf ?_|refine ze ?_ _));exact BK201.out) hb);have n3_:=zk.mk (zt (g:=gb205) (o:= .cells #[.int .i64 t202,.int .i64 t203] 30 (0,0)) (by (with_reducible repeat (first|refine za ?_ _|refine zf ?_|refine ze ?_ _));refine zw ?_ NB205_225.out _;(with_reducible repeat (first|refine za ?_ _|refine zf ?_|refine ze ?_ _));refine zw ?_ NB205_225.out _;(with_reducible repeat (first|refine za ?_ _|refine zf ?_|refine ze ?_ _));exact BK205.out) hb);have n4_:=zk.mk (zt (g:=gb209) (o:= .cells #[.int .i64 t206,.int .i64 t207] 30 (0,0)) (by (with_reducible repeat (first|refine za ?_ _|refine zf ?_|refine ze ?_ _));refine zw ?_ NB209_225.out _;(with_reducible repeat (first|refine za ?_ _|refine zf ?_|refine ze ?_ _));refine zw ?_ NB209_225.out _;(with_reducible repeat (first|refine za ?_ _|refine zf ?_|refine ze ?_ _));exact BK209.out) hb);have n5_:=zk.mk (zt (g:=gb217) (o:= .cells #[.int .i64 t214,.int .i64 t215] 24 (0,0)) (by (with_reducible repeat (first|refine za ?_ _|refine zf ?_|refine ze ?_ _));refine zw ?_ NB217_225.out _;(with_reducible repeat (first|refine za ?_ _|refine zf ?_|refine ze ?_ _));refine zw ?_ NB217_225.out _;(with_reducible repeat (first|refine za ?_ _|refine zf ?_|refine ze ?_ _));exact BK217.out) hb);have n6_:=zk.mk (zt (g:=gb221) (o:= .cells #[.int .i64 t218,.int .i64 t219] 30 (0,0)) (by (with_reducible repeat (first|refine za ?_ _|refine zf ?_|refine ze ?_ _));refine zw ?_ NB221_225.out _;(with_reducible repeat (first|refine za ?_ _|refine zf ?_|refine ze ?_ _));refine zw ?_ NB221_225.out _;(with_reducible repeat (first|refine za ?_ _|refine zf ?_|refine ze ?_ _));exact BK221.out) hb);have n7_:=zk.mk (zt (g:=gb225) (o:= .cells #[.int .i64 t222,.int .i64 t223] 30 (0,0)) (by (with_reducible repeat (first|refine za ?_ _|refine zf ?_|refine ze ?_ _));refine zaw (cs:=#[.int .i64 t222,.int .i64 0]) ?_ 1 _ rfl;(with_reducible repeat (first|refine za ?_ _|refine zf ?_|refine ze ?_ _));refine zaw (cs:=#[.int .i64 0,.int .i64 0]) ?_ 0 _ rfl;(with_reducible repeat (first|refine za ?_ _|refine zf ?_|refine ze ?_ _));exact BK225.out) hb);have n8_:=zk.mk (zaq (by repeat (first|(with_reducible first|exact HB.out|apply zq|apply zm|apply zo|refine zh ?_ GE199.out|refine zh ?_ GE200.out|refine zh ?_ GE201.out|refine zh ?_ GE205.out|refine zh ?_ GE209.out|refine zh ?_ GE217.out|refine zh ?_ GE221.out|refine zh ?_ GE225.out)|exact HB.out)) hb);clear BK199;clear BK200;clear BK201;clear BK205;clear BK209;clear BK217;clear BK221;clear BK225;clear HB;have BK199:=n0_;have BK200:=n1_;have BK201:=n2_;have BK205:=n3_;have BK209:=n4_;have BK217:=n5_;have BK221:=n6_;have BK225:=n7_;have HB:=n8_;clear n0_ n1_ n2_ n3_ n4_ n5_ n6_ n7_ n8_;(try clear hb);(try clear hb2);(try clear hk);(try clear hi))|((with_reducible refine zbC (N:=18) rfl ?_);refine zbz ?hg (N:=18) ?hd (cs:=#[.int .i64 0,.int .i64 0]) (t:=30) ?hr ?_;(case hd=>rfl);(case hg=>rfl);(case hr=>first|(go_simp;done)|(go_simp;rfl));intro gb229 hg w211 hbox hb;have n0_:=zk.mk (zt (g:=gb199) (o:= .cells #[.int .i64 t193,.int .i64 t194] 24 (0,0)) (by (with_reducible repeat (first|refine za ?_ _|refine zf ?_|refine ze ?_ _));exact BK199.out) hb);have n1_:=zk.mk (zt (g:=gb200) (o:= .cells #[.int .i64 t195,.int .i64 t196] 24 (0,0)) (by (with_reducible repeat (first|refine za ?_ _|refine zf ?_|refine ze ?_ _));exact BK200.out) hb);have n2_:=zk.mk (zt (g:=gb201) (o:= .cells #[.int .i64 t197,.int .i64 t198] 24 (0,0)) (by (with_reducible repeat (first|refine za ?_ _|refine zf ?_|refine ze ?_ _));exact BK201.out) hb);have n3_:=zk.mk (zt (g:=gb205) (o:= .cells #[.int .i64 t202,.int .i64 t203] 30 (0,0)) (by (with_reducible repeat (first|refine za ?_ _|refine zf ?_|refine ze ?_ _));exact BK205.out) hb);have n4_:=zk.mk (zt (g:=gb209) (o:= .cells #[.int .i64 t206,.int .i64 t207] 30 (0,0)) (by (with_reducible repeat (first|refine za ?_ _|refine zf ?_|refine ze ?_ _));exact BK209.out) hb);have n5_:=zk.mk (zt (g:=gb217) (o:= .cells #[.int .i64 t214,.int .i64 t215] 24 (0,0)) (by (with_reducible repeat (first|refine za ?_ _|refine zf ?_|refine ze ?_ _));exact BK217.out) hb);have n6_:=zk.mk (zt (g:=gb221) (o:= .cells #[.int .i64 t218,.int .i64 t219] 30 (0,0)) (by (with_reducible repeat (first|refine za ?_ _|refine zf ?_|refine ze ?_ _));exact BK221.out) hb);have n7_:=zk.mk (zt (g:=gb225) (o:= .cells #[.int .i64 t222,.int .i64 t223] 30 (0,0)) (by (with_reducible repeat (first|refine za ?_ _|refine zf ?_|refine ze ?_ _));exact BK225.out) hb);have n8_:=zk.mk (zaq (by repeat (first|(with_reducible first|exact HB.out|apply zq|apply zm|apply zo|refine zh ?_ GE199.out|refine zh ?_ GE200.out|refine zh ?_ GE201.out|refine zh ?_ GE205.out|refine zh ?_ GE209.out|refine zh ?_ GE217.out|refine zh ?_ GE221.out|refine zh ?_ GE225.out)|exact HB.out)) hb);have n9_:=zk.mk (hbox);have n10_:=zk.mk ((by rw [hg];exact (zas (by repeat (first|(with_reducible first|exact HB.out|apply zq|apply zm|apply zo|refine zh ?_ GE199.out|refine zh ?_ GE200.out|refine zh ?_ GE201.out|refine zh ?_ GE205.out|refine zh ?_ GE209.out|refine zh ?_ GE217.out|refine zh ?_ GE221.out|refine zh ?_ GE225.out)|exact HB.out))):w.heap.size<=gb229));have n11_:=zk.mk ((by rw [hg];exact (zas (by repeat (first|(with_reducible first|exact HB.out|apply zq|apply zm|apply zo|refine zh ?_ GE199.out|refine zh ?_ GE200.out|refine zh ?_ GE201.out|refine zh ?_ GE205.out|refine zh ?_ GE209.out|refine zh ?_ GE217.out|refine zh ?_ GE221.out|refine zh ?_ GE225.out)|exact HB.out))):w.heap.size<=gb229));have n12_:=zk.mk ((by rw [hg];exact Nat.ne_of_lt (zQ (g:=gb199) (o:= .cells #[.int .i64 t193,.int .i64 t194] 24 (0,0)) (by (with_reducible repeat (first|refine za ?_ _|refine zf ?_|refine ze ?_ _));exact BK199.out)):gb199≠gb229));have n13_:=zk.mk ((by rw [hg];exact Nat.ne_of_gt (zQ (g:=gb199) (o:= .cells #[.int .i64 t193,.int .i64 t194] 24 (0,0)) (by (with_reducible repeat (first|refine za ?_ _|refine zf ?_|refine ze ?_ _));exact BK199.out)):gb229≠gb199));have n14_:=zk.mk ((by rw [hg];exact Nat.ne_of_lt (zQ (g:=gb200) (o:= .cells #[.int .i64 t195,.int .i64 t196] 24 (0,0)) (by (with_reducible repeat (first|refine za ?_ _|refine zf ?_|refine ze ?_ _));exact BK200.out)):gb200≠gb229));have n15_:=zk.mk ((by rw [hg];exact Nat.ne_of_gt (zQ (g:=gb200) (o:= .cells #[.int .i64 t195,.int .i64 t196] 24 (0,0)) (by (with_reducible repeat (first|refine za ?_ _|refine zf ?_|refine ze ?_ _));exact BK200.out)):gb229≠gb200));have n16_:=zk.mk ((by rw [hg];exact Nat.ne_of_lt (zQ (g:=gb201) (o:= .cells #[.int .i64 t197,.int .i64 t198] 24 (0,0)) (by (with_reducible repeat (first|refine za ?_ _|refine zf ?_|refine ze ?_ _));exact BK201.out)):gb201≠gb229));have n17_:=zk.mk ((by rw [hg];exact Nat.ne_of_gt (zQ (g:=gb201) (o:= .cells #[.int .i64 t197,.int .i64 t198] 24 (0,0)) (by (with_reducible repeat (first|refine za ?_ _|refine zf ?_|refine ze ?_ _));exact BK201.out)):gb229≠gb201));have n18_:=zk.mk ((by rw [hg];exact Nat.ne_of_lt (zQ (g:=gb205) (o:= .cells #[.int .i64 t202,.int .i64 t203] 30 (0,0)) (by (with_reducible repeat (first|refine za ?_ _|refine zf ?_|refine ze ?_ _));exact BK205.out)):gb205≠gb229));have n19_:=zk.mk ((by rw [hg];exact Nat.ne_of_gt (zQ (g:=gb205) (o:= .cells #[.int .i64 t202,.int .i64 t203] 30 (0,0)) (by (with_reducible repeat (first|refine za ?_ _|refine zf ?_|refine ze ?_ _));exact BK205.out)):gb229≠gb205));have n20_:=zk.mk ((by rw [hg];exact Nat.ne_of_lt (zQ (g:=gb209) (o:= .cells #[.int .i64 t206,.int .i64 t207] 30 (0,0)) (by (with_reducible repeat (first|refine za ?_ _|refine zf ?_|refine ze ?_ _));exact BK209.out)):gb209≠gb229));have n21_:=zk.mk ((by rw [hg];exact Nat.ne_of_gt (zQ (g:=gb209) (o:= .cells #[.int .i64 t206,.int .i64 t207] 30 (0,0)) (by (with_reducible repeat (first|refine za ?_ _|refine zf ?_|refine ze ?_ _));exact BK209.out)):gb229≠gb209));have n22_:=zk.mk ((by rw [hg];exact Nat.ne_of_lt (zQ (g:=gb217) (o:= .cells #[.int .i64 t214,.int .i64 t215] 24 (0,0)) (by (with_reducible repeat (first|refine za ?_ _|refine zf ?_|refine ze ?_ _));exact BK217.out)):gb217≠gb229));have n23_:=zk.mk ((by rw [hg];exact Nat.ne_of_gt (zQ (g:=gb217) (o:= .cells #[.int .i64 t214,.int .i64 t215] 24 (0,0)) (by (with_reducible repeat (first|refine za ?_ _|refine zf ?_|refine ze ?_ _));exact BK217.out)):gb229≠gb217));have n24_:=zk.mk ((by rw [hg];exact Nat.ne_of_lt (zQ (g:=gb221) (o:= .cells #[.int .i64 t218,.int .i64 t219] 30 (0,0)) (by (with_reducible repeat (first|refine za ?_ _|refine zf ?_|refine ze ?_ _));exact BK221.out)):gb221≠gb229));have n25_:=zk.mk ((by rw [hg];exact Nat.ne_of_gt (zQ (g:=gb221) (o:= .cells #[.int .i64 t218,.int .i64 t219] 30 (0,0)) (by (with_reducible repeat (first|refine za ?_ _|refine zf ?_|refine ze ?_ _));exact BK221.out)):gb229≠gb221));have n26_:=zk.mk ((by rw [hg];exact Nat.ne_of_lt (zQ (g:=gb225) (o:= .cells #[.int .i64 t222,.int .i64 t223] 30 (0,0)) (by (with_reducible repeat (first|refine za ?_ _|refine zf ?_|refine ze ?_ _));exact BK225.out)):gb225≠gb229));have n27_:=zk.mk ((by rw [hg];exact Nat.ne_of_gt (zQ (g:=gb225) (o:= .cells #[.int .i64 t222,.int .i64 t223] 30 (0,0)) (by (with_reducible repeat (first|refine za ?_ _|refine zf ?_|refine ze ?_ _));exact BK225.out)):gb229≠gb225));clear BK199;clear BK200;clear BK201;clear BK205;clear BK209;clear BK217;clear BK221;clear BK225;clear HB;have BK199:=n0_;have BK200:=n1_;have BK201:=n2_;have BK205:=n3_;have BK209:=n4_;have BK217:=n5_;have BK221:=n6_;have BK225:=n7_;have HB:=n8_;have BK229:=n9_;have GW229:=n10_;have GE229:=n11_;have NB199_229:=n12_;have NB229_199:=n13_;have NB200_229:=n14_;have NB229_200:=n15_;have NB201_229:=n16_;have NB229_201:=n17_;have NB205_229:=n18_;have NB229_205:=n19_;have NB209_229:=n20_;have NB229_209:=n21_;have NB217_229:=n22_;have NB229_217:=n23_;have NB221_229:=n24_;have NB229_221:=n25_;have NB225_229:=n26_;have NB229_225:=n27_;clear n0_ n1_ n2_ n3_ n4_ n5_ n6_ n7_ n8_ n9_ n10_ n11_ n12_ n13_ n14_ n15_ n16_ n17_ n18_ n19_ n20_ n21_ n22_ n23_ n24_ n25_ n26_ n27_;clear hb hbox hg;have hnb212:=NB229_199.out;have hnc212:=NB199_229.out;have hnb213:=NB229_200.out;have hnc213:=NB200_229.out;have hnb214:=NB229_201.out;have hnc214:=NB201_229.out;have hnb215:=NB229_205.out;have hnc215:=NB205_229.out;have hnb216:=NB229_209.out;have hnc216:=NB209_229.out;have hnb217:=NB229_217.out;have hnc217:=NB217_229.out;have hnb218:=NB229_221.out;have hnc218:=NB221_229.out;have hnb219:=NB229_225.out;have hnc219:=NB225_229.out;have hcz220_0:w211.cell? ⟨gb229,0,none⟩=some (.int .i64 0):=(zy BK229.out 0).trans rfl;have hcz220_1:w211.cell? ⟨gb229,1,none⟩=some (.int .i64 0):=(zy BK229.out 1).trans rfl;have hfz220_0:=zu BK229.out 0;have hfz220_1:=zu BK229.out 1;have hnb221:=NB205_209.out;have hnc221:=NB209_205.out;have hcz222_0:w211.cell? ⟨gb205,0,none⟩=some (.int .i64 t202):=(zy BK205.out 0).trans rfl;have hcz222_1:w211.cell? ⟨gb205,1,none⟩=some (.int .i64 t203):=(zy BK205.out 1).trans rfl;have hfz222_0:=zu BK205.out 0;have hfz222_1:=zu BK205.out 1;have hcz223_0:w211.cell? ⟨gb209,0,none⟩=some (.int .i64 t206):=(zy BK209.out 0).trans rfl;have hcz223_1:w211.cell? ⟨gb209,1,none⟩=some (.int .i64 t207):=(zy BK209.out 1).trans rfl;have hfz223_0:=zu BK209.out 0;have hfz223_1:=zu BK209.out 1)|((with_reducible refine zai (f:=29) rfl ?_);refine zbB (some 86) rfl rfl Tryz.func29 (by kernel_rfl) rfl #[.agg #[.int .i64 t202,.int .i64 t203],.agg #[.int .i64 t206,.int .i64 t207]] rfl (by (try simp only [List.map_toArray,List.map_cons,List.map_nil]);first|done|rfl|(simp only [List.length_drop,List.length_take];rfl)) ?_;(with_reducible refine (zaI.calls t202 t203 t206 t207 false _ A74.out).mono ?_);rintro e w224 ⟨rfl,hb⟩;refine ⟨_,rfl,?_⟩;have n0_:=zk.mk (zt (g:=gb199) (o:= .cells #[.int .i64 t193,.int .i64 t194] 24 (0,0)) (by (with_reducible repeat (first|refine za ?_ _|refine zf ?_|refine ze ?_ _));refine zw ?_ NB199_229.out _;(with_reducible repeat (first|refine za ?_ _|refine zf ?_|refine ze ?_ _));refine zw ?_ NB199_229.out _;(with_reducible repeat (first|refine za ?_ _|refine zf ?_|refine ze ?_ _));exact BK199.out) hb);have n1_:=zk.mk (zt (g:=gb200) (o:= .cells #[.int .i64 t195,.int .i64 t196] 24 (0,0)) (by (with_reducible repeat (first|refine za ?_ _|refine zf ?_|refine ze ?_ _));refine zw ?_ NB200_229.out _;(with_reducible repeat (first|refine za ?_ _|refine zf ?_|refine ze ?_ _));refine zw ?_ NB200_229.out _;(with_reducible repeat (first|refine za ?_ _|refine zf ?_|refine ze ?_ _));exact BK200.out) hb);have n2_:=zk.mk (zt (g:=gb201) (o:= .cells #[.int .i64 t197,.int .i64 t198] 24 (0,0)) (by (with_reducible repeat (first|refine za ?_ _|refine zf ?_|refine ze ?_ _));refine zw ?_ NB201_229.out _;(with_reducible repeat (first|refine za ?_ _|refine zf ?_|refine ze ?_ _));refine zw ?_ NB201_229.out _;(with_reducible repeat (first|refine za ?_ _|refine zf ?_|refine ze ?_ _));exact BK201.out) hb);have n3_:=zk.mk (zt (g:=gb205) (o:= .cells #[.int .i64 t202,.int .i64 t203] 30 (0,0)) (by (with_reducible repeat (first|refine za ?_ _|refine zf ?_|refine ze ?_ _));refine zw ?_ NB205_229.out _;(with_reducible repeat (first|refine za ?_ _|refine zf ?_|refine ze ?_ _));refine zw ?_ NB205_229.out _;(with_reducible repeat (first|refine za ?_ _|refine zf ?_|refine ze ?_ _));exact BK205.out) hb);have n4_:=zk.mk (zt (g:=gb209) (o:= .cells #[.int .i64 t206,.int .i64 t207] 30 (0,0)) (by (with_reducible repeat (first|refine za ?_ _|refine zf ?_|refine ze ?_ _));refine zw ?_ NB209_229.out _;(with_reducible repeat (first|refine za ?_ _|refine zf ?_|refine ze ?_ _));refine zw ?_ NB209_229.out _;(with_reducible repeat (first|refine za ?_ _|refine zf ?_|refine ze ?_ _));exact BK209.out) hb);have n5_:=zk.mk (zt (g:=gb217) (o:= .cells #[.int .i64 t214,.int .i64 t215] 24 (0,0)) (by (with_reducible repeat (first|refine za ?_ _|refine zf ?_|refine ze ?_ _));refine zw ?_ NB217_229.out _;(with_reducible repeat (first|refine za ?_ _|refine zf ?_|refine ze ?_ _));refine zw ?_ NB217_229.out _;(with_reducible repeat (first|refine za ?_ _|refine zf ?_|refine ze ?_ _));exact BK217.out) hb);have n6_:=zk.mk (zt (g:=gb221) (o:= .cells #[.int .i64 t218,.int .i64 t219] 30 (0,0)) (by (with_reducible repeat (first|refine za ?_ _|refine zf ?_|refine ze ?_ _));refine zw ?_ NB221_229.out _;(with_reducible repeat (first|refine za ?_ _|refine zf ?_|refine ze ?_ _));refine zw ?_ NB221_229.out _;(with_reducible repeat (first|refine za ?_ _|refine zf ?_|refine ze ?_ _));exact BK221.out) hb);have n7_:=zk.mk (zt (g:=gb225) (o:= .cells #[.int .i64 t222,.int .i64 t223] 30 (0,0)) (by (with_reducible repeat (first|refine za ?_ _|refine zf ?_|refine ze ?_ _));refine zw ?_ NB225_229.out _;(with_reducible repeat (first|refine za ?_ _|refine zf ?_|refine ze ?_ _));refine zw ?_ NB225_229.out _;(with_reducible repeat (first|refine za ?_ _|refine zf ?_|refine ze ?_ _));exact BK225.out) hb);have n8_:=zk.mk (zt (g:=gb229) (o:= .cells #[.int .i64 t226,.int .i64 t227] 30 (0,0)) (by (with_reducible repeat (first|refine za ?_ _|refine zf ?_|refine ze ?_ _));refine zaw (cs:=#[.int .i64 t226,.int .i64 0]) ?_ 1 _ rfl;(with_reducible repeat (first|refine za ?_ _|refine zf ?_|refine ze ?_ _));refine zaw (cs:=#[.int .i64 0,.int .i64 0]) ?_ 0 _ rfl;(with_reducible repeat (first|refine za ?_ _|refine zf ?_|refine ze ?_ _));exact BK229.out) hb);have n9_:=zk.mk (zaq (by repeat (first|(with_reducible first|exact HB.out|apply zq|apply zm|apply zo|refine zh ?_ GE199.out|refine zh ?_ GE200.out|refine zh ?_ GE201.out|refine zh ?_ GE205.out|refine zh ?_ GE209.out|refine zh ?_ GE217.out|refine zh ?_ GE221.out|refine zh ?_ GE225.out|refine zh ?_ GE229.out)|exact HB.out)) hb);clear BK199;clear BK200;clear BK201;clear BK205;clear BK209;clear BK217;clear BK221;clear BK225;clear BK229;clear HB;have BK199:=n0_;have BK200:=n1_;have BK201:=n2_;have BK205:=n3_;have BK209:=n4_;have BK217:=n5_;have BK221:=n6_;have BK225:=n7_;have BK229:=n8_;have HB:=n9_;clear n0_ n1_ n2_ n3_ n4_ n5_ n6_ n7_ n8_ n9_;(try clear hb);(try clear hb2);(try clear hk);(try clear hi)))
      go_ret
      exact ⟨by first|rfl|(simp [zal,zak]<;>rfl)|(simp [*,zal,zak]<;>rfl),by repeat (first|(with_reducible first|exact HB.out|apply zq|apply zm|apply zo|refine zh ?_ GE199.out|refine zh ?_ GE200.out|refine zh ?_ GE201.out|refine zh ?_ GE205.out|refine zh ?_ GE209.out|refine zh ?_ GE217.out|refine zh ?_ GE221.out|refine zh ?_ GE225.out|refine zh ?_ GE229.out)|exact HB.out)⟩
def zH.Pure:Prop:=∀(l0:List Int),l0.length<=maxLen->l0.length*1<=140737488351232->(∀x∈l0,(Lit.int .u8 x).wf=true)->∃k,zH.f k l0=some true
theorem zH.walk (P:zH.Pure) (a0:Option Addr) (len0 cap0:Nat) (z0:List Int) (w:World) (w0:(a0=none/\len0=0/\cap0=0/\z0= [])\/∃x,a0=some x/\len0<=cap0/\cap0<=maxLen/\z0.length=cap0/\(∀i,i<z0.length->w.cell? (x.add i)=some (.int .u8 (z0.getD i 0)))/\∀n∈z0,(Lit.int .u8 n).wf=true) (y0:len0*1<=140737488351232):
  Calls Tryz.prog 5 #[.slice a0 len0 cap0] w fun e w'=>e= .returned (.bool true)/\Below w.heap.size w w':=by
 obtain ⟨l0,rfl,hr0,hm0,hw0,hc0⟩:=ReadsInt.ofRowC w0
 obtain ⟨k,h⟩:=P l0 hm0 y0 hw0
 refine (zH.calls k _ _ l0 true w (Kd.C_of_reads (d:=(0:Int)) (h1:=fun _=>rfl) hr0) hc0 h).mono ?_
 rintro e w' ⟨rfl,hd⟩
 exact ⟨rfl,hd⟩
end Go.Proofs.YtfcjhkkpbnobhaaGreat.PFnSphere
