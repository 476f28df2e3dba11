/- The law FnCylinders gives true, whatever bytes come in, where the listed tables hold what the program's text lays. The card: the tables tied to the text. No other conditions. (One of the texts of its proof, put together by a program of this session.) -/
import Derived.Test.YtkenfaengphiiaaGreatDoorZX0
import Derived.Test.YtkenfaengphiiaaGreatDoorZX2
set_option linter.unusedSectionVars false
set_option linter.unusedSimpArgs false
set_option linter.unusedVariables false
namespace Go.Proofs.YtkenfaengphiiaaGreatDoor.PFnCylinders
open Go.RowKit Go.Proofs.YtkenfaengphiiaaGreatDoorW.PrintWords Go.Proofs.YtkenfaengphiiaaGreatDoorW.PrintLast Go.Proofs.YtkenfaengphiiaaGreatDoorW.PrintMore
mutual
def zah.j0:Nat->Bool->Int->Int->Int->Int->Int->Option (Bool)
 | 0,_,_,_,_,_,_=>none
 | k+1,x22,x202000,x202001,x202002,x202003,x202004=>if x22=true then (some false) else (if x202000=1 then (zah.j1 k x202000 (x202000==1) x202000 x202001 x202002 x202003 x202004) else (zah.j1 k x202000 (x202000==3) x202000 x202001 x202002 x202003 x202004))
def zah.j1:Nat->Int->Bool->Int->Int->Int->Int->Int->Option (Bool)
 | 0,_,_,_,_,_,_,_=>none
 | k+1,x24,x25,x202000,x202001,x202002,x202003,x202004=>if x25=true then (if x202001=0 then (some (x202004==0)) else (some false)) else (if x24=2 then (zah.j2 k x24 (x24==2) x202000 x202001 x202002 x202003 x202004) else (if x24=4 then (zah.j2 k x24 (x24==4) x202000 x202001 x202002 x202003 x202004) else none))
def zah.j2:Nat->Int->Bool->Int->Int->Int->Int->Int->Option (Bool)
 | 0,_,_,_,_,_,_,_=>none
 | k+1,x24,x36,x202000,x202001,x202002,x202003,x202004=>if x36=true then (if x202001=0 then (if x202003=0 then (some (x202004==0)) else (some false)) else (some false)) else none
def zah.j3:Nat->Int->Bool->Int->Int->Int->Int->Int->Option (Bool)
 | 0,_,_,_,_,_,_,_=>none
 | k+1,x24,x55,x202000,x202001,x202002,x202003,x202004=>if x55=true then (if x202003=0 then (some (x202004==0)) else (some false)) else (if x24=10 then (if (wrap64 (x202003+x202004))>=10000000 then (some true) else (some (decide ((wrap64 (x202003+x202004))<=(-10000000))))) else (if x24=11 then (if (wrap64 (x202003+x202004))>=10000000 then (some true) else (some (decide ((wrap64 (x202003+x202004))<=(-10000000))))) else (if x24=12 then (if (wrap64 (x202003+x202004))>=10000000 then (some true) else (some (decide ((wrap64 (x202003+x202004))<=(-10000000))))) else (some false))))
end
def zah.f (k:Nat) (a0_0:Int) (a0_1:Int) (a0_2:Int) (a0_3:Int) (a0_4:Int):Option (Bool):=(zbX.f a0_1 a0_2).bind fun t202=>(if t202=true then ((zaP.f a0_3).bind fun t203=>(if t203=true then ((zaP.f a0_4).bind fun t204=>(zah.j0 k (!t204) a0_0 a0_1 a0_2 a0_3 a0_4)) else (zah.j0 k true a0_0 a0_1 a0_2 a0_3 a0_4))) else (zah.j0 k true a0_0 a0_1 a0_2 a0_3 a0_4))
set_option maxHeartbeats 8000000 in
set_option maxRecDepth 100000 in
theorem zah.calls (k:Nat) (a0_0:Int) (a0_1:Int) (a0_2:Int) (a0_3:Int) (a0_4:Int) (r:Bool) (w:World) (h:zah.f k a0_0 a0_1 a0_2 a0_3 a0_4=some r):
  Calls Tryz.prog 20 #[.agg #[.int .i64 a0_0,.int .i64 a0_1,.int .i64 a0_2,.int .i64 a0_3,.int .i64 a0_4]] w fun e w'=>e= .returned (.bool r)/\Below w.heap.size w w':=by
 have hu25:=Tryz.underlying25
 have hu27:=Tryz.underlying27
 have HB:=za.mk (Below.refl w.heap.size w)
 have H:((zbX.f a0_1 a0_2).bind fun t202=>(if t202=true then ((zaP.f a0_3).bind fun t203=>(if t203=true then ((zaP.f a0_4).bind fun t204=>(zah.j0 k (!t204) a0_0 a0_1 a0_2 a0_3 a0_4)) else (zah.j0 k true a0_0 a0_1 a0_2 a0_3 a0_4))) else (zah.j0 k true a0_0 a0_1 a0_2 a0_3 a0_4)))=some r:=h
 clear h
 have HC2:=za.mk H
 clear H
 go_enter Tryz.func20,Tryz.ntmps20
 go_upto_region 1 with (first|((with_reducible refine zbw (N:=1) rfl ?_);refine zbz ?hg (N:=1) ?hd (cs:=#[.int .i64 a0_0,.int .i64 a0_1,.int .i64 a0_2,.int .i64 a0_3,.int .i64 a0_4]) (t:=25) ?hr ?_;(case hd=>rfl);(case hg=>rfl);(case hr=>first|(go_simp;done)|(go_simp;rfl));intro gb201 hg w3 hbox hb;have n0_:=za.mk (zaF (by repeat (with_reducible first|exact HB.out|apply zm|apply zk|apply zbL)) hb);have n1_:=za.mk (hbox);have n2_:=za.mk ((by rw [hg];exact (zcc (by repeat (with_reducible first|exact HB.out|apply zm|apply zk|apply zbL))):w.heap.size<=gb201));have n3_:=za.mk ((by rw [hg];exact (zcc (by repeat (with_reducible first|exact HB.out|apply zm|apply zk|apply zbL))):w.heap.size<=gb201));clear HB;have HB:=n0_;have BK201:=n1_;have GW201:=n2_;have GE201:=n3_;clear n0_ n1_ n2_ n3_;clear hb hbox hg))
 (try simp only [Act.put,List.setIfInBounds_toArray,List.set_cons_zero,List.set_cons_succ])
 go_cut [22] (fun v22 wc=>∃(kq:Nat) (x22_1:Bool),v22= .bool x22_1/\za (zah.j0 kq x22_1 a0_0 a0_1 a0_2 a0_3 a0_4=some r)/\za (kq<=k)/\za (wc.heap[gb201]?=some (.cells #[.int .i64 a0_0,.int .i64 a0_1,.int .i64 a0_2,.int .i64 a0_3,.int .i64 a0_4] 25 (0,0)))/\za (Below w.heap.size w wc))
 case first=>
  have H:=HC2.out
  clear HC2
  obtain ⟨t202,A40,H⟩:=Option.bind_eq_some_iff.mp H
  replace H:(if t202=true then ((zaP.f a0_3).bind fun t203=>(if t203=true then ((zaP.f a0_4).bind fun t204=>(zah.j0 k (!t204) a0_0 a0_1 a0_2 a0_3 a0_4)) else (zah.j0 k true a0_0 a0_1 a0_2 a0_3 a0_4))) else (zah.j0 k true a0_0 a0_1 a0_2 a0_3 a0_4))=some r:=H
  have A4:=za.mk A40
  clear A40
  by_cases c5:t202=true
  ·subst c5
   replace H:((zaP.f a0_3).bind fun t203=>(if t203=true then ((zaP.f a0_4).bind fun t204=>(zah.j0 k (!t204) a0_0 a0_1 a0_2 a0_3 a0_4)) else (zah.j0 k true a0_0 a0_1 a0_2 a0_3 a0_4)))=some r:=by rw [if_pos rfl] at H;exact H
   obtain ⟨t203,A60,H⟩:=Option.bind_eq_some_iff.mp H
   replace H:(if t203=true then ((zaP.f a0_4).bind fun t204=>(zah.j0 k (!t204) a0_0 a0_1 a0_2 a0_3 a0_4)) else (zah.j0 k true a0_0 a0_1 a0_2 a0_3 a0_4))=some r:=H
   have A6:=za.mk A60
   clear A60
   by_cases c7:t203=true
   ·subst c7
    replace H:((zaP.f a0_4).bind fun t204=>(zah.j0 k (!t204) a0_0 a0_1 a0_2 a0_3 a0_4))=some r:=by rw [if_pos rfl] at H;exact H
    obtain ⟨t204,A80,H⟩:=Option.bind_eq_some_iff.mp H
    replace H:(zah.j0 k (!t204) a0_0 a0_1 a0_2 a0_3 a0_4)=some r:=H
    have A8:=za.mk A80
    clear A80
    have H':=za.mk H
    clear H
    have hcz9_0:w3.cell? ⟨gb201,0,none⟩=some (.int .i64 a0_0):=(zq BK201.out 0).trans rfl
    have hcz9_1:w3.cell? ⟨gb201,1,none⟩=some (.int .i64 a0_1):=(zq BK201.out 1).trans rfl
    have hcz9_2:w3.cell? ⟨gb201,2,none⟩=some (.int .i64 a0_2):=(zq BK201.out 2).trans rfl
    have hcz9_3:w3.cell? ⟨gb201,3,none⟩=some (.int .i64 a0_3):=(zq BK201.out 3).trans rfl
    have hcz9_4:w3.cell? ⟨gb201,4,none⟩=some (.int .i64 a0_4):=(zq BK201.out 4).trans rfl
    have hfz9_0:=zn BK201.out 0
    have hfz9_1:=zn BK201.out 1
    have hfz9_2:=zn BK201.out 2
    have hfz9_3:=zn BK201.out 3
    have hfz9_4:=zn BK201.out 4
    go_wp2_with (first|((with_reducible refine zQ (f:=22) rfl ?_);refine zaZ (some 9) rfl rfl Tryz.func22 (by kernel_rfl) rfl #[.agg #[.int .i64 a0_1,.int .i64 a0_2]] rfl (by (try simp only [List.map_toArray,List.map_cons,List.map_nil]);first|done|rfl) ?_;(with_reducible refine (zbX.calls a0_1 a0_2 true _ A4.out).mono ?_);rintro e w10 ⟨rfl,hb⟩;refine ⟨_,rfl,?_⟩;have n0_:=za.mk (zaC (g:=gb201) (o:= .cells #[.int .i64 a0_0,.int .i64 a0_1,.int .i64 a0_2,.int .i64 a0_3,.int .i64 a0_4] 25 (0,0)) (by exact BK201.out) hb);have n1_:=za.mk (zaF (by repeat (with_reducible first|exact HB.out|apply zm|apply zk|refine zh ?_ GE201.out)) hb);clear BK201;clear HB;have BK201:=n0_;have HB:=n1_;clear n0_ n1_;(try clear hb);(try clear hb2);(try clear hk);(try clear hi);have hcz11_0:w10.cell? ⟨gb201,0,none⟩=some (.int .i64 a0_0):=(zq BK201.out 0).trans rfl;have hcz11_1:w10.cell? ⟨gb201,1,none⟩=some (.int .i64 a0_1):=(zq BK201.out 1).trans rfl;have hcz11_2:w10.cell? ⟨gb201,2,none⟩=some (.int .i64 a0_2):=(zq BK201.out 2).trans rfl;have hcz11_3:w10.cell? ⟨gb201,3,none⟩=some (.int .i64 a0_3):=(zq BK201.out 3).trans rfl;have hcz11_4:w10.cell? ⟨gb201,4,none⟩=some (.int .i64 a0_4):=(zq BK201.out 4).trans rfl;have hfz11_0:=zn BK201.out 0;have hfz11_1:=zn BK201.out 1;have hfz11_2:=zn BK201.out 2;have hfz11_3:=zn BK201.out 3;have hfz11_4:=zn BK201.out 4)|(go_at_call 64;(with_reducible refine (zaP.calls a0_3 true _ A6.out).mono ?_);rintro e w' ⟨rfl,⟨nd,rfl⟩⟩)|(go_at_call 64;(with_reducible refine (zaP.calls a0_4 t204 _ A8.out).mono ?_);rintro e w' ⟨rfl,⟨nd,rfl⟩⟩))
    go_meet
    case rel=>exact ⟨_,(!t204),(by first|rfl|(simp;done)|(simp [*];done)),H',⟨by first|omega|exact Nat.le_refl _⟩,⟨by exact BK201.out⟩,⟨by repeat (with_reducible first|exact HB.out|apply zm|apply zk|refine zh ?_ GE201.out)⟩⟩
   ·replace c7:=Bool.eq_false_iff.mpr c7
    subst c7
    replace H:(zah.j0 k true a0_0 a0_1 a0_2 a0_3 a0_4)=some r:=by rw [if_neg (show ¬(false=true) by decide)] at H;exact H
    have H':=za.mk H
    clear H
    have hcz12_0:w3.cell? ⟨gb201,0,none⟩=some (.int .i64 a0_0):=(zq BK201.out 0).trans rfl
    have hcz12_1:w3.cell? ⟨gb201,1,none⟩=some (.int .i64 a0_1):=(zq BK201.out 1).trans rfl
    have hcz12_2:w3.cell? ⟨gb201,2,none⟩=some (.int .i64 a0_2):=(zq BK201.out 2).trans rfl
    have hcz12_3:w3.cell? ⟨gb201,3,none⟩=some (.int .i64 a0_3):=(zq BK201.out 3).trans rfl
    have hcz12_4:w3.cell? ⟨gb201,4,none⟩=some (.int .i64 a0_4):=(zq BK201.out 4).trans rfl
    have hfz12_0:=zn BK201.out 0
    have hfz12_1:=zn BK201.out 1
    have hfz12_2:=zn BK201.out 2
    have hfz12_3:=zn BK201.out 3
    have hfz12_4:=zn BK201.out 4
    go_wp2_with (first|((with_reducible refine zQ (f:=22) rfl ?_);refine zaZ (some 9) rfl rfl Tryz.func22 (by kernel_rfl) rfl #[.agg #[.int .i64 a0_1,.int .i64 a0_2]] rfl (by (try simp only [List.map_toArray,List.map_cons,List.map_nil]);first|done|rfl) ?_;(with_reducible refine (zbX.calls a0_1 a0_2 true _ A4.out).mono ?_);rintro e w13 ⟨rfl,hb⟩;refine ⟨_,rfl,?_⟩;have n0_:=za.mk (zaC (g:=gb201) (o:= .cells #[.int .i64 a0_0,.int .i64 a0_1,.int .i64 a0_2,.int .i64 a0_3,.int .i64 a0_4] 25 (0,0)) (by exact BK201.out) hb);have n1_:=za.mk (zaF (by repeat (with_reducible first|exact HB.out|apply zm|apply zk|refine zh ?_ GE201.out)) hb);clear BK201;clear HB;have BK201:=n0_;have HB:=n1_;clear n0_ n1_;(try clear hb);(try clear hb2);(try clear hk);(try clear hi);have hcz14_0:w13.cell? ⟨gb201,0,none⟩=some (.int .i64 a0_0):=(zq BK201.out 0).trans rfl;have hcz14_1:w13.cell? ⟨gb201,1,none⟩=some (.int .i64 a0_1):=(zq BK201.out 1).trans rfl;have hcz14_2:w13.cell? ⟨gb201,2,none⟩=some (.int .i64 a0_2):=(zq BK201.out 2).trans rfl;have hcz14_3:w13.cell? ⟨gb201,3,none⟩=some (.int .i64 a0_3):=(zq BK201.out 3).trans rfl;have hcz14_4:w13.cell? ⟨gb201,4,none⟩=some (.int .i64 a0_4):=(zq BK201.out 4).trans rfl;have hfz14_0:=zn BK201.out 0;have hfz14_1:=zn BK201.out 1;have hfz14_2:=zn BK201.out 2;have hfz14_3:=zn BK201.out 3;have hfz14_4:=zn BK201.out 4)|(go_at_call 64;(with_reducible refine (zaP.calls a0_3 false _ A6.out).mono ?_);rintro e w' ⟨rfl,⟨nd,rfl⟩⟩))
    go_meet
    case rel=>exact ⟨_,(true),(by first|rfl|(simp;done)|(simp [*];done)),H',⟨by first|omega|exact Nat.le_refl _⟩,⟨by exact BK201.out⟩,⟨by repeat (with_reducible first|exact HB.out|apply zm|apply zk|refine zh ?_ GE201.out)⟩⟩
  ·replace c5:=Bool.eq_false_iff.mpr c5
   subst c5
   replace H:(zah.j0 k true a0_0 a0_1 a0_2 a0_3 a0_4)=some r:=by rw [if_neg (show ¬(false=true) by decide)] at H;exact H
   have H':=za.mk H
   clear H
   have hcz15_0:w3.cell? ⟨gb201,0,none⟩=some (.int .i64 a0_0):=(zq BK201.out 0).trans rfl
   have hcz15_1:w3.cell? ⟨gb201,1,none⟩=some (.int .i64 a0_1):=(zq BK201.out 1).trans rfl
   have hcz15_2:w3.cell? ⟨gb201,2,none⟩=some (.int .i64 a0_2):=(zq BK201.out 2).trans rfl
   have hcz15_3:w3.cell? ⟨gb201,3,none⟩=some (.int .i64 a0_3):=(zq BK201.out 3).trans rfl
   have hcz15_4:w3.cell? ⟨gb201,4,none⟩=some (.int .i64 a0_4):=(zq BK201.out 4).trans rfl
   have hfz15_0:=zn BK201.out 0
   have hfz15_1:=zn BK201.out 1
   have hfz15_2:=zn BK201.out 2
   have hfz15_3:=zn BK201.out 3
   have hfz15_4:=zn BK201.out 4
   go_wp2_with (first|((with_reducible refine zQ (f:=22) rfl ?_);refine zaZ (some 9) rfl rfl Tryz.func22 (by kernel_rfl) rfl #[.agg #[.int .i64 a0_1,.int .i64 a0_2]] rfl (by (try simp only [List.map_toArray,List.map_cons,List.map_nil]);first|done|rfl) ?_;(with_reducible refine (zbX.calls a0_1 a0_2 false _ A4.out).mono ?_);rintro e w16 ⟨rfl,hb⟩;refine ⟨_,rfl,?_⟩;have n0_:=za.mk (zaC (g:=gb201) (o:= .cells #[.int .i64 a0_0,.int .i64 a0_1,.int .i64 a0_2,.int .i64 a0_3,.int .i64 a0_4] 25 (0,0)) (by exact BK201.out) hb);have n1_:=za.mk (zaF (by repeat (with_reducible first|exact HB.out|apply zm|apply zk|refine zh ?_ GE201.out)) hb);clear BK201;clear HB;have BK201:=n0_;have HB:=n1_;clear n0_ n1_;(try clear hb);(try clear hb2);(try clear hk);(try clear hi)))
   go_meet
   case rel=>exact ⟨_,(true),(by first|rfl|(simp;done)|(simp [*];done)),H',⟨by first|omega|exact Nat.le_refl _⟩,⟨by exact BK201.out⟩,⟨by repeat (with_reducible first|exact HB.out|apply zm|apply zk|refine zh ?_ GE201.out)⟩⟩
 case rest=>
  clear HC2
  obtain ⟨kq,x22_1,rfl,HA,HJ1,BK201,HB⟩:=hcut
  cases kq with
  | zero=>exact absurd HA.out (by simp [zah.j0])
  | succ kj1=>
   have H:=HA.out
   clear HA
   simp only [zah.j0] at H
   by_cases c17:x22_1=true
   ·subst c17
    replace H:(some false)=some r:=by rw [if_pos rfl] at H;exact H
    obtain rfl:=Option.some.inj H
    go_wp2
    go_ret
    exact ⟨by first|rfl|(simp [*]<;>rfl),by repeat (with_reducible first|exact HB.out|apply zm|apply zk|refine zh ?_ GE201.out)⟩
   ·replace c17:=Bool.eq_false_iff.mpr c17
    subst c17
    replace H:(if a0_0=1 then (zah.j1 kj1 a0_0 (a0_0==1) a0_0 a0_1 a0_2 a0_3 a0_4) else (zah.j1 kj1 a0_0 (a0_0==3) a0_0 a0_1 a0_2 a0_3 a0_4))=some r:=by rw [if_neg (show ¬(false=true) by decide)] at H;exact H
    have HC18:=za.mk H
    clear H
    have hcz19_0:wc.cell? ⟨gb201,0,none⟩=some (.int .i64 a0_0):=(zq BK201.out 0).trans rfl
    have hcz19_1:wc.cell? ⟨gb201,1,none⟩=some (.int .i64 a0_1):=(zq BK201.out 1).trans rfl
    have hcz19_2:wc.cell? ⟨gb201,2,none⟩=some (.int .i64 a0_2):=(zq BK201.out 2).trans rfl
    have hcz19_3:wc.cell? ⟨gb201,3,none⟩=some (.int .i64 a0_3):=(zq BK201.out 3).trans rfl
    have hcz19_4:wc.cell? ⟨gb201,4,none⟩=some (.int .i64 a0_4):=(zq BK201.out 4).trans rfl
    have hfz19_0:=zn BK201.out 0
    have hfz19_1:=zn BK201.out 1
    have hfz19_2:=zn BK201.out 2
    have hfz19_3:=zn BK201.out 3
    have hfz19_4:=zn BK201.out 4
    go_upto_if 25 with (fail)
    go_cut [25] (fun v25 wc=>∃(kq:Nat) (x25_17:Bool),v25= .bool x25_17/\za (zah.j1 kq a0_0 x25_17 a0_0 a0_1 a0_2 a0_3 a0_4=some r)/\za (kq<=kj1)/\za (wc.heap[gb201]?=some (.cells #[.int .i64 a0_0,.int .i64 a0_1,.int .i64 a0_2,.int .i64 a0_3,.int .i64 a0_4] 25 (0,0)))/\za (Below w.heap.size w wc))
    case first=>
     have H:=HC18.out
     clear HC18
     by_cases c20:a0_0=1
     ·rw [if_pos c20] at H
      have c20b0:(a0_0==1)=true:=beq_iff_eq.mpr c20
      have c20b1:(a0_0 != 1)=false:=bne_eq_false_iff_eq.mpr c20
      clear c20
      (first|rw [c20b0]|(simp only [zj6,zj7];rw [c20b0])|skip)
      have H':=za.mk H
      clear H
      go_wp2
      go_meet
      case rel=>exact ⟨_,((a0_0==1)),(by first|rfl|(simp;done)|(simp [*];done)),H',⟨by have:=HJ1.out;first|omega|exact Nat.le_refl _⟩,⟨by exact BK201.out⟩,⟨by repeat (with_reducible first|exact HB.out|apply zm|apply zk|refine zh ?_ GE201.out)⟩⟩
     ·rw [if_neg c20] at H
      have c20b0:(a0_0==1)=false:=beq_eq_false_iff_ne.mpr c20
      have c20b1:(a0_0 != 1)=true:=bne_iff_ne.mpr c20
      (first|rw [c20b0]|(simp only [zj6,zj7];rw [c20b0])|skip)
      have H':=za.mk H
      clear H
      go_wp2
      go_meet
      case rel=>exact ⟨_,((a0_0==3)),(by first|rfl|(simp;done)|(simp [*];done)),H',⟨by have:=HJ1.out;first|omega|exact Nat.le_refl _⟩,⟨by exact BK201.out⟩,⟨by repeat (with_reducible first|exact HB.out|apply zm|apply zk|refine zh ?_ GE201.out)⟩⟩
    case rest=>
     clear HC18
     obtain ⟨kq,x25_17,rfl,HA,HJ17,BK201,HB⟩:=hcut
     cases kq with
     | zero=>exact absurd HA.out (by simp [zah.j1])
     | succ kj17=>
      have H:=HA.out
      clear HA
      simp only [zah.j1] at H
      by_cases c21:x25_17=true
      ·subst c21
       replace H:(if a0_1=0 then (some (a0_4==0)) else (some false))=some r:=by rw [if_pos rfl] at H;exact H
       by_cases c22:a0_1=0
       ·rw [if_pos c22] at H
        have c22b0:(a0_1==0)=true:=beq_iff_eq.mpr c22
        have c22b1:(a0_1 != 0)=false:=bne_eq_false_iff_eq.mpr c22
        clear c22
        obtain rfl:=Option.some.inj H
        have hcz23_0:wc.cell? ⟨gb201,0,none⟩=some (.int .i64 a0_0):=(zq BK201.out 0).trans rfl
        have hcz23_1:wc.cell? ⟨gb201,1,none⟩=some (.int .i64 a0_1):=(zq BK201.out 1).trans rfl
        have hcz23_2:wc.cell? ⟨gb201,2,none⟩=some (.int .i64 a0_2):=(zq BK201.out 2).trans rfl
        have hcz23_3:wc.cell? ⟨gb201,3,none⟩=some (.int .i64 a0_3):=(zq BK201.out 3).trans rfl
        have hcz23_4:wc.cell? ⟨gb201,4,none⟩=some (.int .i64 a0_4):=(zq BK201.out 4).trans rfl
        have hfz23_0:=zn BK201.out 0
        have hfz23_1:=zn BK201.out 1
        have hfz23_2:=zn BK201.out 2
        have hfz23_3:=zn BK201.out 3
        have hfz23_4:=zn BK201.out 4
        go_wp2
        go_ret
        exact ⟨by first|rfl|(simp [*]<;>rfl),by repeat (with_reducible first|exact HB.out|apply zm|apply zk|refine zh ?_ GE201.out)⟩
       ·rw [if_neg c22] at H
        have c22b0:(a0_1==0)=false:=beq_eq_false_iff_ne.mpr c22
        have c22b1:(a0_1 != 0)=true:=bne_iff_ne.mpr c22
        obtain rfl:=Option.some.inj H
        have hcz24_0:wc.cell? ⟨gb201,0,none⟩=some (.int .i64 a0_0):=(zq BK201.out 0).trans rfl
        have hcz24_1:wc.cell? ⟨gb201,1,none⟩=some (.int .i64 a0_1):=(zq BK201.out 1).trans rfl
        have hcz24_2:wc.cell? ⟨gb201,2,none⟩=some (.int .i64 a0_2):=(zq BK201.out 2).trans rfl
        have hcz24_3:wc.cell? ⟨gb201,3,none⟩=some (.int .i64 a0_3):=(zq BK201.out 3).trans rfl
        have hcz24_4:wc.cell? ⟨gb201,4,none⟩=some (.int .i64 a0_4):=(zq BK201.out 4).trans rfl
        have hfz24_0:=zn BK201.out 0
        have hfz24_1:=zn BK201.out 1
        have hfz24_2:=zn BK201.out 2
        have hfz24_3:=zn BK201.out 3
        have hfz24_4:=zn BK201.out 4
        go_wp2
        go_ret
        exact ⟨by first|rfl|(simp [*]<;>rfl),by repeat (with_reducible first|exact HB.out|apply zm|apply zk|refine zh ?_ GE201.out)⟩
      ·replace c21:=Bool.eq_false_iff.mpr c21
       subst c21
       replace H:(if a0_0=2 then (zah.j2 kj17 a0_0 (a0_0==2) a0_0 a0_1 a0_2 a0_3 a0_4) else (if a0_0=4 then (zah.j2 kj17 a0_0 (a0_0==4) a0_0 a0_1 a0_2 a0_3 a0_4) else none))=some r:=by rw [if_neg (show ¬(false=true) by decide)] at H;exact H
       have HC25:=za.mk H
       clear H
       go_upto_if 36 with (fail)
       go_cut [36] (fun v36 wc=>∃(kq:Nat) (x36_24:Bool),v36= .bool x36_24/\za (zah.j2 kq a0_0 x36_24 a0_0 a0_1 a0_2 a0_3 a0_4=some r)/\za (kq<=kj17)/\za (wc.heap[gb201]?=some (.cells #[.int .i64 a0_0,.int .i64 a0_1,.int .i64 a0_2,.int .i64 a0_3,.int .i64 a0_4] 25 (0,0)))/\za (Below w.heap.size w wc))
       case first=>
        have H:=HC25.out
        clear HC25
        by_cases c26:a0_0=2
        ·rw [if_pos c26] at H
         have c26b0:(a0_0==2)=true:=beq_iff_eq.mpr c26
         have c26b1:(a0_0 != 2)=false:=bne_eq_false_iff_eq.mpr c26
         clear c26
         (first|rw [c26b0]|(simp only [zj6,zj7];rw [c26b0])|skip)
         have H':=za.mk H
         clear H
         go_wp2
         go_meet
         case rel=>exact ⟨_,((a0_0==2)),(by first|rfl|(simp;done)|(simp [*];done)),H',⟨by have:=HJ1.out;have:=HJ17.out;first|omega|exact Nat.le_refl _⟩,⟨by exact BK201.out⟩,⟨by repeat (with_reducible first|exact HB.out|apply zm|apply zk|refine zh ?_ GE201.out)⟩⟩
        ·rw [if_neg c26] at H
         have c26b0:(a0_0==2)=false:=beq_eq_false_iff_ne.mpr c26
         have c26b1:(a0_0 != 2)=true:=bne_iff_ne.mpr c26
         (first|rw [c26b0]|(simp only [zj6,zj7];rw [c26b0])|skip)
         by_cases c27:a0_0=4
         ·rw [if_pos c27] at H
          have c27b0:(a0_0==4)=true:=beq_iff_eq.mpr c27
          have c27b1:(a0_0 != 4)=false:=bne_eq_false_iff_eq.mpr c27
          clear c27
          have H':=za.mk H
          clear H
          go_wp2
          go_meet
          case rel=>exact ⟨_,((a0_0==4)),(by first|rfl|(simp;done)|(simp [*];done)),H',⟨by have:=HJ1.out;have:=HJ17.out;first|omega|exact Nat.le_refl _⟩,⟨by exact BK201.out⟩,⟨by repeat (with_reducible first|exact HB.out|apply zm|apply zk|refine zh ?_ GE201.out)⟩⟩
         ·exact absurd H (by simp [c27])
       case rest=>
        clear HC25
        obtain ⟨kq,x36_24,rfl,HA,HJ24,BK201,HB⟩:=hcut
        cases kq with
        | zero=>exact absurd HA.out (by simp [zah.j2])
        | succ kj24=>
         have H:=HA.out
         clear HA
         simp only [zah.j2] at H
         by_cases c30:x36_24=true
         ·subst c30
          replace H:(if a0_1=0 then (if a0_3=0 then (some (a0_4==0)) else (some false)) else (some false))=some r:=by rw [if_pos rfl] at H;exact H
          by_cases c31:a0_1=0
          ·rw [if_pos c31] at H
           have c31b0:(a0_1==0)=true:=beq_iff_eq.mpr c31
           have c31b1:(a0_1 != 0)=false:=bne_eq_false_iff_eq.mpr c31
           clear c31
           by_cases c32:a0_3=0
           ·rw [if_pos c32] at H
            have c32b0:(a0_3==0)=true:=beq_iff_eq.mpr c32
            have c32b1:(a0_3 != 0)=false:=bne_eq_false_iff_eq.mpr c32
            clear c32
            obtain rfl:=Option.some.inj H
            have hcz33_0:wc.cell? ⟨gb201,0,none⟩=some (.int .i64 a0_0):=(zq BK201.out 0).trans rfl
            have hcz33_1:wc.cell? ⟨gb201,1,none⟩=some (.int .i64 a0_1):=(zq BK201.out 1).trans rfl
            have hcz33_2:wc.cell? ⟨gb201,2,none⟩=some (.int .i64 a0_2):=(zq BK201.out 2).trans rfl
            have hcz33_3:wc.cell? ⟨gb201,3,none⟩=some (.int .i64 a0_3):=(zq BK201.out 3).trans rfl
            have hcz33_4:wc.cell? ⟨gb201,4,none⟩=some (.int .i64 a0_4):=(zq BK201.out 4).trans rfl
            have hfz33_0:=zn BK201.out 0
            have hfz33_1:=zn BK201.out 1
            have hfz33_2:=zn BK201.out 2
            have hfz33_3:=zn BK201.out 3
            have hfz33_4:=zn BK201.out 4
            go_wp2
            go_ret
            exact ⟨by first|rfl|(simp [*]<;>rfl),by repeat (with_reducible first|exact HB.out|apply zm|apply zk|refine zh ?_ GE201.out)⟩
           ·rw [if_neg c32] at H
            have c32b0:(a0_3==0)=false:=beq_eq_false_iff_ne.mpr c32
            have c32b1:(a0_3 != 0)=true:=bne_iff_ne.mpr c32
            obtain rfl:=Option.some.inj H
            have hcz34_0:wc.cell? ⟨gb201,0,none⟩=some (.int .i64 a0_0):=(zq BK201.out 0).trans rfl
            have hcz34_1:wc.cell? ⟨gb201,1,none⟩=some (.int .i64 a0_1):=(zq BK201.out 1).trans rfl
            have hcz34_2:wc.cell? ⟨gb201,2,none⟩=some (.int .i64 a0_2):=(zq BK201.out 2).trans rfl
            have hcz34_3:wc.cell? ⟨gb201,3,none⟩=some (.int .i64 a0_3):=(zq BK201.out 3).trans rfl
            have hcz34_4:wc.cell? ⟨gb201,4,none⟩=some (.int .i64 a0_4):=(zq BK201.out 4).trans rfl
            have hfz34_0:=zn BK201.out 0
            have hfz34_1:=zn BK201.out 1
            have hfz34_2:=zn BK201.out 2
            have hfz34_3:=zn BK201.out 3
            have hfz34_4:=zn BK201.out 4
            go_wp2
            go_ret
            exact ⟨by first|rfl|(simp [*]<;>rfl),by repeat (with_reducible first|exact HB.out|apply zm|apply zk|refine zh ?_ GE201.out)⟩
          ·rw [if_neg c31] at H
           have c31b0:(a0_1==0)=false:=beq_eq_false_iff_ne.mpr c31
           have c31b1:(a0_1 != 0)=true:=bne_iff_ne.mpr c31
           obtain rfl:=Option.some.inj H
           have hcz35_0:wc.cell? ⟨gb201,0,none⟩=some (.int .i64 a0_0):=(zq BK201.out 0).trans rfl
           have hcz35_1:wc.cell? ⟨gb201,1,none⟩=some (.int .i64 a0_1):=(zq BK201.out 1).trans rfl
           have hcz35_2:wc.cell? ⟨gb201,2,none⟩=some (.int .i64 a0_2):=(zq BK201.out 2).trans rfl
           have hcz35_3:wc.cell? ⟨gb201,3,none⟩=some (.int .i64 a0_3):=(zq BK201.out 3).trans rfl
           have hcz35_4:wc.cell? ⟨gb201,4,none⟩=some (.int .i64 a0_4):=(zq BK201.out 4).trans rfl
           have hfz35_0:=zn BK201.out 0
           have hfz35_1:=zn BK201.out 1
           have hfz35_2:=zn BK201.out 2
           have hfz35_3:=zn BK201.out 3
           have hfz35_4:=zn BK201.out 4
           go_wp2
           go_ret
           exact ⟨by first|rfl|(simp [*]<;>rfl),by repeat (with_reducible first|exact HB.out|apply zm|apply zk|refine zh ?_ GE201.out)⟩
         ·exact absurd H (by simp [c30])
end Go.Proofs.YtkenfaengphiiaaGreatDoor.PFnCylinders
-- CUT
