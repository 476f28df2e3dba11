/- The law FnLocal gives true, whatever bytes come in, where the listed tables hold what the program's text lays. The card: the tables tied to the text. No other conditions. (One of the texts of its proof, put together by a program of this session.) -/
import Derived.Test.YtlolpmmloolieaaGreatDoorZX0
set_option linter.unusedSectionVars false
set_option linter.unusedSimpArgs false
set_option linter.unusedVariables false
namespace Go.Proofs.YtlolpmmloolieaaGreatDoor.PFnLocal
open Go.RowKit Go.Proofs.YtlolpmmloolieaaGreatDoorW.PrintWords Go.Proofs.YtlolpmmloolieaaGreatDoorW.PrintLast Go.Proofs.YtlolpmmloolieaaGreatDoorW.PrintMore
def laws_d8Long.f (l0:List Int) (l1:List Int):Option (Bool):=if (l0.length:Int)>1048576 then (some true) else (some (decide ((l1.length:Int)>1048576)))
set_option maxHeartbeats 8000000 in
set_option maxRecDepth 100000 in
theorem laws_d8Long.calls (A0:Option Addr) (c0:Nat) (l0:List Int) (A1:Option Addr) (c1:Nat) (l1:List Int) (r:Bool) (w:World) (hr0:Kd.C (Kd.int .u8) w A0 l0.length l0) (hc0:l0.length<=c0) (hr1:Kd.C (Kd.int .u8) w A1 l1.length l1) (hc1:l1.length<=c1) (h:laws_d8Long.f l0 l1=some r):
  Calls Tryz.prog 4 #[.slice A0 l0.length c0,.slice A1 l1.length c1] w fun e w'=>e= .returned (.bool r)/\zfT w w':=by
 have HR0:=zh.mk hr0
 have HC0:=zh.mk hc0
 clear hr0 hc0
 have HR1:=zh.mk hr1
 have HC1:=zh.mk hc1
 clear hr1 hc1
 have H:(if (l0.length:Int)>1048576 then (some true) else (some (decide ((l1.length:Int)>1048576))))=some r:=h
 clear h
 by_cases c3:(l0.length:Int)>1048576
 ·rw [if_pos c3] at H
  have c3b0:decide (1048576<(l0.length:Int))=true:=decide_eq_true c3
  have c3b1:decide (1048576<l0.length)=true:=decide_eq_true (by omega)
  clear c3
  obtain rfl:=Option.some.inj H
  go_enter Tryz.func4,Tryz.ntmps4
  go_wp2
  go_ret
  exact ⟨by first|rfl|(simp;done)|(simp [*];done),by repeat (first|exact zfT.refl _|apply zfT.step)⟩
 ·rw [if_neg c3] at H
  have c3b0:decide (1048576<(l0.length:Int))=false:=decide_eq_false c3
  have c3b1:decide (1048576<l0.length)=false:=decide_eq_false (by omega)
  clear c3
  obtain rfl:=Option.some.inj H
  go_enter Tryz.func4,Tryz.ntmps4
  go_wp2
  go_ret
  exact ⟨by first|rfl|(simp;done)|(simp [*];done),by repeat (first|exact zfT.refl _|apply zfT.step)⟩
def ze (w0 W:World) (g:Nat) (f0:List Int) (f1:Int) (f2:Int):Prop:=∃A0 c0,W.heap[g]?=some (.cells #[.slice A0 f0.length c0,.int .i64 f1,.int .u64 f2] 82 (0,0))/\w0.heap.size<=g/\Kd.C (Kd.int .u8) w0 A0 f0.length f0
theorem ze.grown {w0 W:World} {g:Nat} {f0:List Int} {f1:Int} {f2:Int} {W1:World} {row:Option Nat} (h:ze w0 W g f0 f1 f2) (hw:W.grownBy W1 row) (hne:some g≠row):ze w0 W1 g f0 f1 f2:=by
 obtain ⟨A0,c0,hb,hg,hr0⟩:=h
 exact ⟨A0,c0,blk_grown hb hw hne,hg,hr0⟩
theorem ze.below {w0 W:World} {g:Nat} {f0:List Int} {f1:Int} {f2:Int} {W1:World} (h:ze w0 W g f0 f1 f2) (hw:Below W.heap.size W W1):ze w0 W1 g f0 f1 f2:=h.grown (grown_of_below hw none) (by simp)
theorem ze.alloc {w0 W:World} {g:Nat} {f0:List Int} {f1:Int} {f2:Int} (h:ze w0 W g f0 f1 f2) (o:Obj):ze w0 (W.alloc o) g f0 f1 f2:=h.below (zk (Below.refl _ _) o)
theorem ze.drewN {w0 W:World} {g:Nat} {f0:List Int} {f1:Int} {f2:Int} (h:ze w0 W g f0 f1 f2) (m:Nat):ze w0 (W.drewN m) g f0 f1 f2:=h
theorem ze.drew {w0 W:World} {g:Nat} {f0:List Int} {f1:Int} {f2:Int} (h:ze w0 W g f0 f1 f2):ze w0 W.drew g f0 f1 f2:=h
theorem ze.apart {w0 W:World} {g:Nat} {f0:List Int} {f1:Int} {f2:Int} {α:Type} {d:Kd α} {e:Nat} {base:Nat} {ok:Nat->Prop} {v:Value} {xs:List α} (h:ze w0 W g f0 f1 f2) (ho:d.R e W base ok v xs) (ht:∀q,q∈e::d.E->q≠82):d.R e W base (fun k=>ok k/\k≠g) v xs:=by
 obtain ⟨A0,c0,hb,hg,hr0⟩:=h
 exact Kd.R_types ho hb ht
theorem ze.own_ne {w0 W:World} {g:Nat} {f0:List Int} {f1:Int} {f2:Int} {α:Type} {d:Kd α} {e:Nat} {base:Nat} {ok:Nat->Prop} {v:Value} {xs:List α} (h:ze w0 W g f0 f1 f2) (ho:d.R e W base ok v xs) (ht:e≠82):some g≠v.ownBlock:=by
 obtain ⟨A0,c0,hb,hg,hr0⟩:=h
 exact Kd.R_ne ho hb ht
theorem ze.lt {w0 W:World} {g:Nat} {f0:List Int} {f1:Int} {f2:Int} (h:ze w0 W g f0 f1 f2):g<W.heap.size:=by
 obtain ⟨A0,c0,hb,hg,hr0⟩:=h
 exact blk_lt hb
theorem ze.ge {w0 W:World} {g:Nat} {f0:List Int} {f1:Int} {f2:Int} (h:ze w0 W g f0 f1 f2):w0.heap.size<=g:=by
 obtain ⟨A0,c0,hb,hg,hr0⟩:=h
 exact hg
theorem ze.ne_blk {w0 W:World} {g:Nat} {f0:List Int} {f1:Int} {f2:Int} {a:Nat} {cs:Array Value} {t:TypeId} {fr:Nat×Nat} (h:ze w0 W g f0 f1 f2) (hb2:W.heap[a]?=some (.cells cs t fr)) (ht:t≠82):g≠a:=by
 obtain ⟨A0,c0,hb,hg,hr0⟩:=h
 rintro rfl
 rw [hb] at hb2
 injection hb2 with hb2
 injection hb2 with _ ht2
 exact ht ht2.symm
theorem ze.far {w0 W:World} {g:Nat} {f0:List Int} {f1:Int} {f2:Int} {p:Addr} (h:ze w0 W g f0 f1 f2) (hne:g≠p.block) (u:Value):ze w0 (W.setCell p u) g f0 f1 f2:=by
 obtain ⟨A0,c0,hb,hg,hr0⟩:=h
 exact ⟨A0,c0,blk_far hb hne u,hg,hr0⟩
theorem cellS82_0 {W:World} {g:Nat} {A0:Option Addr} {c0:Nat} {f0:List Int} {f1:Int} {f2:Int} (h:W.heap[g]?=some (.cells #[.slice A0 f0.length c0,.int .i64 f1,.int .u64 f2] 82 (0,0))):W.cell? ⟨g,0,none⟩=some (.slice A0 f0.length c0):=(zao h 0).trans rfl
theorem cellS82_1 {W:World} {g:Nat} {A0:Option Addr} {c0:Nat} {f0:List Int} {f1:Int} {f2:Int} (h:W.heap[g]?=some (.cells #[.slice A0 f0.length c0,.int .i64 f1,.int .u64 f2] 82 (0,0))):W.cell? ⟨g,1,none⟩=some (.int .i64 f1):=(zao h 1).trans rfl
theorem ze.set_1 {w0 W:World} {g:Nat} {f0:List Int} {f1:Int} {f2:Int} (h:ze w0 W g f0 f1 f2) (x:Int):ze w0 (W.setCell ⟨g,1,none⟩ (.int .i64 x)) g f0 x f2:=by
 obtain ⟨A0,c0,hb,hg,hr0⟩:=h
 exact ⟨A0,c0,by simpa using blk_set hb 1 (.int .i64 x),hg,hr0⟩
theorem cellS82_2 {W:World} {g:Nat} {A0:Option Addr} {c0:Nat} {f0:List Int} {f1:Int} {f2:Int} (h:W.heap[g]?=some (.cells #[.slice A0 f0.length c0,.int .i64 f1,.int .u64 f2] 82 (0,0))):W.cell? ⟨g,2,none⟩=some (.int .u64 f2):=(zao h 2).trans rfl
theorem ze.set_2 {w0 W:World} {g:Nat} {f0:List Int} {f1:Int} {f2:Int} (h:ze w0 W g f0 f1 f2) (x:Int):ze w0 (W.setCell ⟨g,2,none⟩ (.int .u64 x)) g f0 f1 x:=by
 obtain ⟨A0,c0,hb,hg,hr0⟩:=h
 exact ⟨A0,c0,by simpa using blk_set hb 2 (.int .u64 x),hg,hr0⟩
def zbu.f (l0:List Int):Option (List Int×Int×Int):=some (l0,0,0)
set_option maxHeartbeats 8000000 in
set_option maxRecDepth 100000 in
theorem zbu.calls (A0:Option Addr) (c0:Nat) (l0:List Int) (r1:List Int) (r2:Int) (r3:Int) (w0 w:World) (hB:Below w0.heap.size w0 w) (hr0:Kd.C (Kd.int .u8) w0 A0 l0.length l0) (hc0:l0.length<=c0) (h:zbu.f l0=some (r1,r2,r3)):
  Calls Tryz.prog 15 #[.slice A0 l0.length c0] w fun e w'=>∃g_:Nat,e= .returned (.pointer (some ⟨g_,0,none⟩))/\ze w0 w' g_ r1 r2 r3/\Below w0.heap.size w0 w'/\Below w.heap.size w w':=by
 have hu82:=Tryz.underlying82
 have HR0:=zh.mk hr0
 have HC0:=zh.mk hc0
 clear hr0 hc0
 have HBW:=zh.mk (Below.refl w.heap.size w)
 have HW0:=zh.mk hB.size
 have HB:=zh.mk hB
 clear hB
 have H:(some (l0,0,0))=some (r1,r2,r3):=h
 clear h
 simp only [Option.some.injEq,Prod.mk.injEq] at H
 obtain ⟨rfl,rfl,rfl⟩:=H
 go_enter Tryz.func15,Tryz.ntmps15
 go_wp2_with (first|((with_reducible refine zc3 (N:=5) rfl ?_);refine zdI ?hg (N:=5) ?hd (cs:=#[.slice A0 l0.length c0,.int .i64 0,.int .u64 0]) (t:=82) ?hr ?_;(case hd=>rfl);(case hg=>rfl);(case hr=>first|(go_simp;done)|(go_simp;rfl));intro gb101 hg w2 hbox hb;have n0_:=zh.mk (zbm HBW.out hb);have n1_:=zh.mk (zbm (by repeat (first|(with_reducible first|exact HB.out|apply zk|apply zf|apply zl)|exact HB.out)) hb);have n2_:=zh.mk (hbox);have n3_:=zh.mk ((by rw [hg];exact (za6 (by repeat (first|(with_reducible first|exact HBW.out|apply zk|apply zf|apply zl)|exact HBW.out))):w.heap.size<=gb101));have n4_:=zh.mk ((Nat.le_trans HW0.out (by rw [hg];exact (za6 (by repeat (first|(with_reducible first|exact HBW.out|apply zk|apply zf|apply zl)|exact HBW.out))):w.heap.size<=gb101):w0.heap.size<=gb101));clear HBW;clear HB;have HBW:=n0_;have HB:=n1_;have BK101:=n2_;have GW101:=n3_;have GE101:=n4_;clear n0_ n1_ n2_ n3_ n4_;clear hb hbox hg))
 go_ret
 exact ⟨_,rfl,(show ze w0 _ gb101 l0 0 0 from ⟨_,_,by (with_reducible repeat (first|refine zw ?_ _|refine zC ?_|refine zy ?_ _));exact BK101.out,GE101.out,HR0.out⟩),by repeat (first|(with_reducible first|exact HB.out|apply zk|apply zf|apply zl|refine zm ?_ GE101.out)|exact HB.out),by repeat (first|(with_reducible first|exact HBW.out|apply zk|apply zf|apply zl|refine zm ?_ GW101.out)|exact HBW.out)⟩
def zaH.f (s0_0:List Int) (s0_1:Int) (s0_2:Int):Option (Int×Int×Int):=if s0_1<(s0_0.length:Int) then (if 0<=s0_1 then (if (wrap64 (s0_1+1))<=(s0_0.length:Int) then (some (wrap64 (rd s0_0 s0_1),wrap64 (s0_1+1),IntKind.u64.wrap ((IntKind.u64.wrap ((IntKind.u64.wrap (s0_2*6364136223846793005))+(IntKind.u64.wrap (wrap64 (rd s0_0 s0_1)))))+1442695040888963407))) else (some (wrap64 (Go.bits .and .u64 ((IntKind.u64.wrap ((IntKind.u64.wrap ((IntKind.u64.wrap (s0_2*6364136223846793005))+(IntKind.u64.wrap (wrap64 (rd s0_0 s0_1)))))+1442695040888963407))/1099511627776) 255),wrap64 (s0_1+1),IntKind.u64.wrap ((IntKind.u64.wrap ((IntKind.u64.wrap (s0_2*6364136223846793005))+(IntKind.u64.wrap (wrap64 (rd s0_0 s0_1)))))+1442695040888963407)))) else (none)) else (if (wrap64 (s0_1+1))<=(s0_0.length:Int) then (some (0,wrap64 (s0_1+1),IntKind.u64.wrap ((IntKind.u64.wrap (IntKind.u64.wrap (s0_2*6364136223846793005)))+1442695040888963407))) else (some (wrap64 (Go.bits .and .u64 ((IntKind.u64.wrap ((IntKind.u64.wrap (IntKind.u64.wrap (s0_2*6364136223846793005)))+1442695040888963407))/1099511627776) 255),wrap64 (s0_1+1),IntKind.u64.wrap ((IntKind.u64.wrap (IntKind.u64.wrap (s0_2*6364136223846793005)))+1442695040888963407))))
set_option maxHeartbeats 8000000 in
set_option maxRecDepth 100000 in
theorem zaH.calls (g:Nat) (s0_0:List Int) (s0_1:Int) (s0_2:Int) (r1:Int) (r2:Int) (r3:Int) (w0 w:World) (hI:ze w0 w g s0_0 s0_1 s0_2) (hB:Below w0.heap.size w0 w) (h:zaH.f s0_0 s0_1 s0_2=some (r1,r2,r3)):
  Calls Tryz.prog 51 #[.pointer (some ⟨g,0,none⟩)] w fun e w'=>e= .returned (.int .i64 r1)/\ze w0 w' g s0_0 r2 r3/\Below w0.heap.size w0 w'/\zz w w' g none:=by
 have HI0:=zh.mk hI
 have HK:=zh.mk (zz.refl w g none)
 have HL:=zh.mk hB.size
 clear hI
 have HW0:=zh.mk hB.size
 have HB:=zh.mk hB
 clear hB
 have H:(if s0_1<(s0_0.length:Int) then (if 0<=s0_1 then (if (wrap64 (s0_1+1))<=(s0_0.length:Int) then (some (wrap64 (rd s0_0 s0_1),wrap64 (s0_1+1),IntKind.u64.wrap ((IntKind.u64.wrap ((IntKind.u64.wrap (s0_2*6364136223846793005))+(IntKind.u64.wrap (wrap64 (rd s0_0 s0_1)))))+1442695040888963407))) else (some (wrap64 (Go.bits .and .u64 ((IntKind.u64.wrap ((IntKind.u64.wrap ((IntKind.u64.wrap (s0_2*6364136223846793005))+(IntKind.u64.wrap (wrap64 (rd s0_0 s0_1)))))+1442695040888963407))/1099511627776) 255),wrap64 (s0_1+1),IntKind.u64.wrap ((IntKind.u64.wrap ((IntKind.u64.wrap (s0_2*6364136223846793005))+(IntKind.u64.wrap (wrap64 (rd s0_0 s0_1)))))+1442695040888963407)))) else (none)) else (if (wrap64 (s0_1+1))<=(s0_0.length:Int) then (some (0,wrap64 (s0_1+1),IntKind.u64.wrap ((IntKind.u64.wrap (IntKind.u64.wrap (s0_2*6364136223846793005)))+1442695040888963407))) else (some (wrap64 (Go.bits .and .u64 ((IntKind.u64.wrap ((IntKind.u64.wrap (IntKind.u64.wrap (s0_2*6364136223846793005)))+1442695040888963407))/1099511627776) 255),wrap64 (s0_1+1),IntKind.u64.wrap ((IntKind.u64.wrap (IntKind.u64.wrap (s0_2*6364136223846793005)))+1442695040888963407)))))=some (r1,r2,r3):=h
 clear h
 by_cases c2:s0_1<(s0_0.length:Int)
 ·rw [if_pos c2] at H
  have c2b0:decide (s0_1<(s0_0.length:Int))=true:=decide_eq_true c2
  clear c2
  by_cases c3:0<=s0_1
  ·rw [if_pos c3] at H
   have c3b0:decide (0<=s0_1)=true:=decide_eq_true c3
   clear c3
   by_cases c4:(wrap64 (s0_1+1))<=(s0_0.length:Int)
   ·rw [if_pos c4] at H
    have c4b0:decide ((wrap64 (s0_1+1))<=(s0_0.length:Int))=true:=decide_eq_true c4
    clear c4
    simp only [Option.some.injEq,Prod.mk.injEq] at H
    obtain ⟨rfl,rfl,rfl⟩:=H
    obtain ⟨ASz5_0,cSz5_0,HGz5,hgz5,HSz5_0⟩:=HI0.out
    have hcz5_0:=cellS82_0 HGz5
    have hcz5_1:=cellS82_1 HGz5
    have hcz5_2:=cellS82_2 HGz5
    have hfz5_1:=zQ HGz5 1
    have hfz5_2:=zQ HGz5 2
    clear HGz5 hgz5
    have p102:0<=(s0_1:Int):=of_decide_eq_true (by first|(with_reducible assumption)|assumption)
    have q102:s0_1<(s0_0.length:Int):=of_decide_eq_true (by first|(with_reducible assumption)|assumption)
    obtain ⟨ad102,e102,hx102_0⟩:=Kd.at_int HSz5_0 s0_1 p102 q102
    cases e102
    replace hx102_0:=pw_cell_below HB.out hx102_0
    replace p102:=eq_true p102
    replace q102:=eq_true q102
    go_enter Tryz.func51,Tryz.ntmps51
    go_wp2
    repeat (go_quiet (fail);try go_wp2)
    go_ret
    exact ⟨by first|rfl|(simp [z8,zZ]<;>rfl)|(simp [*,z8,zZ]<;>rfl),by repeat (first|(with_reducible first|exact HI0.out|apply ze.alloc|apply ze.drewN|apply ze.drew|apply ze.set_1|apply ze.set_2)|exact HI0.out),by repeat (first|(with_reducible first|exact HB.out|apply zk|apply zf|apply zl|refine zm ?_ (ze.ge HI0.out))|exact HB.out),by repeat (first|(with_reducible first|exact HK.out|apply zz.set_|apply zK|apply zP|apply zL)|exact HK.out)⟩
   ·rw [if_neg c4] at H
    have c4b0:decide ((wrap64 (s0_1+1))<=(s0_0.length:Int))=false:=decide_eq_false c4
    clear c4
    simp only [Option.some.injEq,Prod.mk.injEq] at H
    obtain ⟨rfl,rfl,rfl⟩:=H
    obtain ⟨ASz6_0,cSz6_0,HGz6,hgz6,HSz6_0⟩:=HI0.out
    have hcz6_0:=cellS82_0 HGz6
    have hcz6_1:=cellS82_1 HGz6
    have hcz6_2:=cellS82_2 HGz6
    have hfz6_1:=zQ HGz6 1
    have hfz6_2:=zQ HGz6 2
    clear HGz6 hgz6
    have p102:0<=(s0_1:Int):=of_decide_eq_true (by first|(with_reducible assumption)|assumption)
    have q102:s0_1<(s0_0.length:Int):=of_decide_eq_true (by first|(with_reducible assumption)|assumption)
    obtain ⟨ad102,e102,hx102_0⟩:=Kd.at_int HSz6_0 s0_1 p102 q102
    cases e102
    replace hx102_0:=pw_cell_below HB.out hx102_0
    replace p102:=eq_true p102
    replace q102:=eq_true q102
    go_enter Tryz.func51,Tryz.ntmps51
    go_wp2
    repeat (go_quiet (fail);try go_wp2)
    go_ret
    exact ⟨by first|rfl|(simp [z8,zZ]<;>rfl)|(simp [*,z8,zZ]<;>rfl),by repeat (first|(with_reducible first|exact HI0.out|apply ze.alloc|apply ze.drewN|apply ze.drew|apply ze.set_1|apply ze.set_2)|exact HI0.out),by repeat (first|(with_reducible first|exact HB.out|apply zk|apply zf|apply zl|refine zm ?_ (ze.ge HI0.out))|exact HB.out),by repeat (first|(with_reducible first|exact HK.out|apply zz.set_|apply zK|apply zP|apply zL)|exact HK.out)⟩
  ·rw [if_neg c3] at H
   exact absurd H (by simp)
 ·rw [if_neg c2] at H
  have c2b0:decide (s0_1<(s0_0.length:Int))=false:=decide_eq_false c2
  clear c2
  by_cases c7:(wrap64 (s0_1+1))<=(s0_0.length:Int)
  ·rw [if_pos c7] at H
   have c7b0:decide ((wrap64 (s0_1+1))<=(s0_0.length:Int))=true:=decide_eq_true c7
   clear c7
   simp only [Option.some.injEq,Prod.mk.injEq] at H
   obtain ⟨rfl,rfl,rfl⟩:=H
   obtain ⟨ASz8_0,cSz8_0,HGz8,hgz8,HSz8_0⟩:=HI0.out
   have hcz8_0:=cellS82_0 HGz8
   have hcz8_1:=cellS82_1 HGz8
   have hcz8_2:=cellS82_2 HGz8
   have hfz8_1:=zQ HGz8 1
   have hfz8_2:=zQ HGz8 2
   clear HGz8 hgz8
   go_enter Tryz.func51,Tryz.ntmps51
   go_wp2
   repeat (go_quiet (fail);try go_wp2)
   go_ret
   exact ⟨by first|rfl|(simp [z8,zZ]<;>rfl)|(simp [*,z8,zZ]<;>rfl),by repeat (first|(with_reducible first|exact HI0.out|apply ze.alloc|apply ze.drewN|apply ze.drew|apply ze.set_1|apply ze.set_2)|exact HI0.out),by repeat (first|(with_reducible first|exact HB.out|apply zk|apply zf|apply zl|refine zm ?_ (ze.ge HI0.out))|exact HB.out),by repeat (first|(with_reducible first|exact HK.out|apply zz.set_|apply zK|apply zP|apply zL)|exact HK.out)⟩
  ·rw [if_neg c7] at H
   have c7b0:decide ((wrap64 (s0_1+1))<=(s0_0.length:Int))=false:=decide_eq_false c7
   clear c7
   simp only [Option.some.injEq,Prod.mk.injEq] at H
   obtain ⟨rfl,rfl,rfl⟩:=H
   obtain ⟨ASz9_0,cSz9_0,HGz9,hgz9,HSz9_0⟩:=HI0.out
   have hcz9_0:=cellS82_0 HGz9
   have hcz9_1:=cellS82_1 HGz9
   have hcz9_2:=cellS82_2 HGz9
   have hfz9_1:=zQ HGz9 1
   have hfz9_2:=zQ HGz9 2
   clear HGz9 hgz9
   go_enter Tryz.func51,Tryz.ntmps51
   go_wp2
   repeat (go_quiet (fail);try go_wp2)
   go_ret
   exact ⟨by first|rfl|(simp [z8,zZ]<;>rfl)|(simp [*,z8,zZ]<;>rfl),by repeat (first|(with_reducible first|exact HI0.out|apply ze.alloc|apply ze.drewN|apply ze.drew|apply ze.set_1|apply ze.set_2)|exact HI0.out),by repeat (first|(with_reducible first|exact HB.out|apply zk|apply zf|apply zl|refine zm ?_ (ze.ge HI0.out))|exact HB.out),by repeat (first|(with_reducible first|exact HK.out|apply zz.set_|apply zK|apply zP|apply zL)|exact HK.out)⟩
def zu.f (s0_0:List Int) (s0_1:Int) (s0_2:Int) (a1:Int):Option (Int×Int×Int):=if a1<=1 then (some (0,s0_1,s0_2)) else ((zaH.f s0_0 s0_1 s0_2).bind fun bt103=>(if a1>200 then ((zaH.f s0_0 bt103.2.1 bt103.2.2).bind fun bt106=>(if a1=0 then (none) else (some (Int.tmod (wrap64 ((wrap64 (bt103.1*256))+bt106.1)) a1,bt106.2.1,bt106.2.2)))) else (if a1=0 then (none) else (some (Int.tmod bt103.1 a1,bt103.2.1,bt103.2.2)))))
set_option maxHeartbeats 8000000 in
set_option maxRecDepth 100000 in
theorem zu.calls (g:Nat) (s0_0:List Int) (s0_1:Int) (s0_2:Int) (a1:Int) (r1:Int) (r2:Int) (r3:Int) (w0 w:World) (hI:ze w0 w g s0_0 s0_1 s0_2) (hB:Below w0.heap.size w0 w) (h:zu.f s0_0 s0_1 s0_2 a1=some (r1,r2,r3)):
  Calls Tryz.prog 16 #[.pointer (some ⟨g,0,none⟩),.int .i64 a1] w fun e w'=>e= .returned (.int .i64 r1)/\ze w0 w' g s0_0 r2 r3/\Below w0.heap.size w0 w'/\zz w w' g none:=by
 have HI0:=zh.mk hI
 have HK:=zh.mk (zz.refl w g none)
 have HL:=zh.mk hB.size
 clear hI
 have HW0:=zh.mk hB.size
 have HB:=zh.mk hB
 clear hB
 have H:(if a1<=1 then (some (0,s0_1,s0_2)) else ((zaH.f s0_0 s0_1 s0_2).bind fun bt103=>(if a1>200 then ((zaH.f s0_0 bt103.2.1 bt103.2.2).bind fun bt106=>(if a1=0 then (none) else (some (Int.tmod (wrap64 ((wrap64 (bt103.1*256))+bt106.1)) a1,bt106.2.1,bt106.2.2)))) else (if a1=0 then (none) else (some (Int.tmod bt103.1 a1,bt103.2.1,bt103.2.2))))))=some (r1,r2,r3):=h
 clear h
 by_cases c3:a1<=1
 ·rw [if_pos c3] at H
  have c3b0:decide (a1<=1)=true:=decide_eq_true c3
  clear c3
  simp only [Option.some.injEq,Prod.mk.injEq] at H
  obtain ⟨rfl,rfl,rfl⟩:=H
  go_enter Tryz.func16,Tryz.ntmps16
  go_wp2
  go_ret
  exact ⟨by first|rfl|(simp [z8,zZ]<;>rfl)|(simp [*,z8,zZ]<;>rfl),by repeat (first|(with_reducible first|exact HI0.out|apply ze.alloc|apply ze.drewN|apply ze.drew|apply ze.set_1|apply ze.set_2)|exact HI0.out),by repeat (first|(with_reducible first|exact HB.out|apply zk|apply zf|apply zl|refine zm ?_ (ze.ge HI0.out))|exact HB.out),by repeat (first|(with_reducible first|exact HK.out|apply zz.set_|apply zK|apply zP|apply zL)|exact HK.out)⟩
 ·rw [if_neg c3] at H
  have c3b0:decide (a1<=1)=false:=decide_eq_false c3
  clear c3
  replace H:=Option.bind_eq_some_iff.mp H
  obtain ⟨⟨t103,t104,t105⟩,A40,H⟩:=H
  replace H:(if a1>200 then ((zaH.f s0_0 t104 t105).bind fun bt106=>(if a1=0 then (none) else (some (Int.tmod (wrap64 ((wrap64 (t103*256))+bt106.1)) a1,bt106.2.1,bt106.2.2)))) else (if a1=0 then (none) else (some (Int.tmod t103 a1,t104,t105))))=some (r1,r2,r3):=H
  have A4:=zh.mk A40
  clear A40
  by_cases c5:a1>200
  ·rw [if_pos c5] at H
   have c5b0:decide (200<a1)=true:=decide_eq_true c5
   clear c5
   replace H:=Option.bind_eq_some_iff.mp H
   obtain ⟨⟨t106,t107,t108⟩,A60,H⟩:=H
   replace H:(if a1=0 then (none) else (some (Int.tmod (wrap64 ((wrap64 (t103*256))+t106)) a1,t107,t108)))=some (r1,r2,r3):=H
   have A6:=zh.mk A60
   clear A60
   by_cases c7:a1=0
   ·rw [if_pos c7] at H
    exact absurd H (by simp)
   ·rw [if_neg c7] at H
    have c7b0:(a1==0)=false:=beq_eq_false_iff_ne.mpr c7
    have c7b1:(a1 != 0)=true:=bne_iff_ne.mpr c7
    simp only [Option.some.injEq,Prod.mk.injEq] at H
    obtain ⟨rfl,rfl,rfl⟩:=H
    go_enter Tryz.func16,Tryz.ntmps16
    go_wp2_with (first|((with_reducible refine zR (f:=51) rfl ?_);refine zbd (some 9) rfl rfl Tryz.func51 (by kernel_rfl) rfl #[.pointer (some ⟨g,0,none⟩)] rfl (by (try simp only [List.map_toArray,List.map_cons,List.map_nil]);first|done|rfl|(simp only [List.length_drop,List.length_take];rfl)) ?_;(with_reducible refine (zaH.calls g s0_0 s0_1 s0_2 t103 t104 t105 w0 _ ?side1 ?side2 A4.out).mono ?_);(case side1=>repeat (first|(with_reducible first|exact HI0.out|apply ze.alloc|apply ze.drewN|apply ze.drew|apply ze.set_1|apply ze.set_2)|exact HI0.out));(case side2=>repeat (first|(with_reducible first|exact HB.out|apply zk|apply zf|apply zl|refine zm ?_ (ze.ge HI0.out))|exact HB.out));rintro e w8 ⟨rfl,hi,hb,hk⟩;refine ⟨_,rfl,?_⟩;have n0_:=zh.mk (zz.trans (by repeat (first|(with_reducible first|exact HK.out|apply zz.set_|apply zK|apply zP|apply zL)|exact HK.out)) hk (.inl rfl));have n1_:=zh.mk (hb);have n2_:=zh.mk (hi);clear HK;clear HB;clear HI0;have HK:=n0_;have HB:=n1_;have HI0:=n2_;clear n0_ n1_ n2_;(try clear hb);(try clear hb2);(try clear hk);(try clear hi))|((with_reducible refine zR (f:=51) rfl ?_);refine zbd (some 15) rfl rfl Tryz.func51 (by kernel_rfl) rfl #[.pointer (some ⟨g,0,none⟩)] rfl (by (try simp only [List.map_toArray,List.map_cons,List.map_nil]);first|done|rfl|(simp only [List.length_drop,List.length_take];rfl)) ?_;(with_reducible refine (zaH.calls g s0_0 t104 t105 t106 t107 t108 w0 _ ?side1 ?side2 A6.out).mono ?_);(case side1=>repeat (first|(with_reducible first|exact HI0.out|apply ze.alloc|apply ze.drewN|apply ze.drew|apply ze.set_1|apply ze.set_2)|exact HI0.out));(case side2=>repeat (first|(with_reducible first|exact HB.out|apply zk|apply zf|apply zl|refine zm ?_ (ze.ge HI0.out))|exact HB.out));rintro e w9 ⟨rfl,hi,hb,hk⟩;refine ⟨_,rfl,?_⟩;have n0_:=zh.mk (zz.trans (by repeat (first|(with_reducible first|exact HK.out|apply zz.set_|apply zK|apply zP|apply zL)|exact HK.out)) hk (.inl rfl));have n1_:=zh.mk (hb);have n2_:=zh.mk (hi);clear HK;clear HB;clear HI0;have HK:=n0_;have HB:=n1_;have HI0:=n2_;clear n0_ n1_ n2_;(try clear hb);(try clear hb2);(try clear hk);(try clear hi)))
    go_ret
    exact ⟨by first|rfl|(simp [z8,zZ]<;>rfl)|(simp [*,z8,zZ]<;>rfl),by repeat (first|(with_reducible first|exact HI0.out|apply ze.alloc|apply ze.drewN|apply ze.drew|apply ze.set_1|apply ze.set_2)|exact HI0.out),by repeat (first|(with_reducible first|exact HB.out|apply zk|apply zf|apply zl|refine zm ?_ (ze.ge HI0.out))|exact HB.out),by repeat (first|(with_reducible first|exact HK.out|apply zz.set_|apply zK|apply zP|apply zL)|exact HK.out)⟩
  ·rw [if_neg c5] at H
   have c5b0:decide (200<a1)=false:=decide_eq_false c5
   clear c5
   by_cases c10:a1=0
   ·rw [if_pos c10] at H
    exact absurd H (by simp)
   ·rw [if_neg c10] at H
    have c10b0:(a1==0)=false:=beq_eq_false_iff_ne.mpr c10
    have c10b1:(a1 != 0)=true:=bne_iff_ne.mpr c10
    simp only [Option.some.injEq,Prod.mk.injEq] at H
    obtain ⟨rfl,rfl,rfl⟩:=H
    go_enter Tryz.func16,Tryz.ntmps16
    go_wp2_with (first|((with_reducible refine zR (f:=51) rfl ?_);refine zbd (some 9) rfl rfl Tryz.func51 (by kernel_rfl) rfl #[.pointer (some ⟨g,0,none⟩)] rfl (by (try simp only [List.map_toArray,List.map_cons,List.map_nil]);first|done|rfl|(simp only [List.length_drop,List.length_take];rfl)) ?_;(with_reducible refine (zaH.calls g s0_0 s0_1 s0_2 t103 t104 t105 w0 _ ?side1 ?side2 A4.out).mono ?_);(case side1=>repeat (first|(with_reducible first|exact HI0.out|apply ze.alloc|apply ze.drewN|apply ze.drew|apply ze.set_1|apply ze.set_2)|exact HI0.out));(case side2=>repeat (first|(with_reducible first|exact HB.out|apply zk|apply zf|apply zl|refine zm ?_ (ze.ge HI0.out))|exact HB.out));rintro e w11 ⟨rfl,hi,hb,hk⟩;refine ⟨_,rfl,?_⟩;have n0_:=zh.mk (zz.trans (by repeat (first|(with_reducible first|exact HK.out|apply zz.set_|apply zK|apply zP|apply zL)|exact HK.out)) hk (.inl rfl));have n1_:=zh.mk (hb);have n2_:=zh.mk (hi);clear HK;clear HB;clear HI0;have HK:=n0_;have HB:=n1_;have HI0:=n2_;clear n0_ n1_ n2_;(try clear hb);(try clear hb2);(try clear hk);(try clear hi)))
    go_ret
    exact ⟨by first|rfl|(simp [z8,zZ]<;>rfl)|(simp [*,z8,zZ]<;>rfl),by repeat (first|(with_reducible first|exact HI0.out|apply ze.alloc|apply ze.drewN|apply ze.drew|apply ze.set_1|apply ze.set_2)|exact HI0.out),by repeat (first|(with_reducible first|exact HB.out|apply zk|apply zf|apply zl|refine zm ?_ (ze.ge HI0.out))|exact HB.out),by repeat (first|(with_reducible first|exact HK.out|apply zz.set_|apply zK|apply zP|apply zL)|exact HK.out)⟩
def zfi.f  : Option (Int×Int×Int):=some (6378137000,1000000000,298257223563)
set_option maxHeartbeats 8000000 in
set_option maxRecDepth 100000 in
theorem zfi.calls  (r1:Int) (r2:Int) (r3:Int) (w:World) (h:zfi.f  = some (r1,r2,r3)):
  Calls Tryz.prog 17 #[] w fun e w'=>e= .returned (.agg #[.int .i64 r1,.int .i64 r2,.int .i64 r3])/\Below w.heap.size w w':=by
 have hu25:=Tryz.underlying25
 have HB:=zh.mk (Below.refl w.heap.size w)
 have H:(some (6378137000,1000000000,298257223563))=some (r1,r2,r3):=h
 clear h
 simp only [Option.some.injEq,Prod.mk.injEq] at H
 obtain ⟨rfl,rfl,rfl⟩:=H
 go_enter Tryz.func17,Tryz.ntmps17
 go_wp2_with (first|((with_reducible refine zc3 (N:=0) rfl ?_);refine zdI ?hg (N:=0) ?hd (cs:=#[.int .i64 0,.int .i64 0,.int .i64 0]) (t:=25) ?hr ?_;(case hd=>rfl);(case hg=>rfl);(case hr=>first|(go_simp;done)|(go_simp;rfl));intro gb109 hg w1 hbox hb;have n0_:=zh.mk (zbm (by repeat (first|(with_reducible first|exact HB.out|apply zk|apply zf|apply zl)|exact HB.out)) hb);have n1_:=zh.mk (hbox);have n2_:=zh.mk ((by rw [hg];exact (za6 (by repeat (first|(with_reducible first|exact HB.out|apply zk|apply zf|apply zl)|exact HB.out))):w.heap.size<=gb109));have n3_:=zh.mk ((by rw [hg];exact (za6 (by repeat (first|(with_reducible first|exact HB.out|apply zk|apply zf|apply zl)|exact HB.out))):w.heap.size<=gb109));clear HB;have HB:=n0_;have BK109:=n1_;have GW109:=n2_;have GE109:=n3_;clear n0_ n1_ n2_ n3_;clear hb hbox hg;have hcz2_0:w1.cell? ⟨gb109,0,none⟩=some (.int .i64 0):=(zao BK109.out 0).trans rfl;have hcz2_1:w1.cell? ⟨gb109,1,none⟩=some (.int .i64 0):=(zao BK109.out 1).trans rfl;have hcz2_2:w1.cell? ⟨gb109,2,none⟩=some (.int .i64 0):=(zao BK109.out 2).trans rfl;have hfz2_0:=zQ BK109.out 0;have hfz2_1:=zQ BK109.out 1;have hfz2_2:=zQ BK109.out 2))
 refine bodyPost_ret (results_cell_row rfl _ _ gb109 25 #[.int .i64 6378137000,.int .i64 1000000000,.int .i64 298257223563] (0,0) _ rfl (by (with_reducible repeat (first|refine zw ?_ _|refine zC ?_|refine zy ?_ _));refine zbe (cs:=#[.int .i64 6378137000,.int .i64 1000000000,.int .i64 0]) ?_ 2 _ rfl;(with_reducible repeat (first|refine zw ?_ _|refine zC ?_|refine zy ?_ _));refine zbe (cs:=#[.int .i64 6378137000,.int .i64 0,.int .i64 0]) ?_ 1 _ rfl;(with_reducible repeat (first|refine zw ?_ _|refine zC ?_|refine zy ?_ _));refine zbe (cs:=#[.int .i64 0,.int .i64 0,.int .i64 0]) ?_ 0 _ rfl;(with_reducible repeat (first|refine zw ?_ _|refine zC ?_|refine zy ?_ _));exact BK109.out) Tryz.underlying25 rfl (by kernel_rfl)) rfl ?_
 exact ⟨by first|rfl|(simp [z8,zZ]<;>rfl)|(simp [*,z8,zZ]<;>rfl),by repeat (first|(with_reducible first|exact HB.out|apply zk|apply zf|apply zl|refine zm ?_ GE109.out)|exact HB.out)⟩
def zdG.f (l0:List Int):Option (Int×Int×Int):=(zbu.f l0).bind fun bt111=>((zu.f bt111.1 bt111.2.1 bt111.2.2 4).bind fun bt115=>(if bt115.1=0 then (some (6371000000,0,1)) else (if bt115.1=1 then (some (6377397155,10000000,2991528128)) else (if bt115.1=2 then ((zu.f bt111.1 bt115.2.1 bt115.2.2 400).bind fun bt118=>((zu.f bt111.1 bt118.2.1 bt118.2.2 2).bind fun bt121=>((zu.f bt111.1 bt121.2.1 bt121.2.2 300).bind fun bt124=>(some (wrap64 (6000000000+(wrap64 (bt118.1*1000000))),bt121.1,wrap64 (100+bt124.1)))))) else ((zfi.f).bind fun bt127=>(some (bt127.1,bt127.2.1,bt127.2.2)))))))
set_option maxHeartbeats 8000000 in
set_option maxRecDepth 100000 in
theorem zdG.calls (A0:Option Addr) (c0:Nat) (l0:List Int) (r1:Int) (r2:Int) (r3:Int) (w:World) (hr0:Kd.C (Kd.int .u8) w A0 l0.length l0) (hc0:l0.length<=c0) (h:zdG.f l0=some (r1,r2,r3)):
  Calls Tryz.prog 5 #[.slice A0 l0.length c0] w fun e w'=>e= .returned (.agg #[.int .i64 r1,.int .i64 r2,.int .i64 r3])/\Below w.heap.size w w':=by
 have hu25:=Tryz.underlying25
 have HR0:=zh.mk hr0
 have HC0:=zh.mk hc0
 clear hr0 hc0
 have HB:=zh.mk (Below.refl w.heap.size w)
 have H:((zbu.f l0).bind fun bt111=>((zu.f bt111.1 bt111.2.1 bt111.2.2 4).bind fun bt115=>(if bt115.1=0 then (some (6371000000,0,1)) else (if bt115.1=1 then (some (6377397155,10000000,2991528128)) else (if bt115.1=2 then ((zu.f bt111.1 bt115.2.1 bt115.2.2 400).bind fun bt118=>((zu.f bt111.1 bt118.2.1 bt118.2.2 2).bind fun bt121=>((zu.f bt111.1 bt121.2.1 bt121.2.2 300).bind fun bt124=>(some (wrap64 (6000000000+(wrap64 (bt118.1*1000000))),bt121.1,wrap64 (100+bt124.1)))))) else ((zfi.f).bind fun bt127=>(some (bt127.1,bt127.2.1,bt127.2.2))))))))=some (r1,r2,r3):=h
 clear h
 replace H:=Option.bind_eq_some_iff.mp H
 obtain ⟨⟨t111,t112,t113⟩,A20,H⟩:=H
 replace H:((zu.f t111 t112 t113 4).bind fun bt115=>(if bt115.1=0 then (some (6371000000,0,1)) else (if bt115.1=1 then (some (6377397155,10000000,2991528128)) else (if bt115.1=2 then ((zu.f t111 bt115.2.1 bt115.2.2 400).bind fun bt118=>((zu.f t111 bt118.2.1 bt118.2.2 2).bind fun bt121=>((zu.f t111 bt121.2.1 bt121.2.2 300).bind fun bt124=>(some (wrap64 (6000000000+(wrap64 (bt118.1*1000000))),bt121.1,wrap64 (100+bt124.1)))))) else ((zfi.f).bind fun bt127=>(some (bt127.1,bt127.2.1,bt127.2.2)))))))=some (r1,r2,r3):=H
 have A2:=zh.mk A20
 clear A20
 replace H:=Option.bind_eq_some_iff.mp H
 obtain ⟨⟨t115,t116,t117⟩,A30,H⟩:=H
 replace H:(if t115=0 then (some (6371000000,0,1)) else (if t115=1 then (some (6377397155,10000000,2991528128)) else (if t115=2 then ((zu.f t111 t116 t117 400).bind fun bt118=>((zu.f t111 bt118.2.1 bt118.2.2 2).bind fun bt121=>((zu.f t111 bt121.2.1 bt121.2.2 300).bind fun bt124=>(some (wrap64 (6000000000+(wrap64 (bt118.1*1000000))),bt121.1,wrap64 (100+bt124.1)))))) else ((zfi.f).bind fun bt127=>(some (bt127.1,bt127.2.1,bt127.2.2))))))=some (r1,r2,r3):=H
 have A3:=zh.mk A30
 clear A30
 by_cases c4:t115=0
 ·rw [if_pos c4] at H
  have c4b0:(t115==0)=true:=beq_iff_eq.mpr c4
  have c4b1:(t115 != 0)=false:=bne_eq_false_iff_eq.mpr c4
  clear c4
  simp only [Option.some.injEq,Prod.mk.injEq] at H
  obtain ⟨rfl,rfl,rfl⟩:=H
  go_enter Tryz.func5,Tryz.ntmps5
  go_wp2_with (first|((with_reducible refine zc3 (N:=2) rfl ?_);refine zdI ?hg (N:=2) ?hd (cs:=#[.int .i64 0,.int .i64 0,.int .i64 0]) (t:=25) ?hr ?_;(case hd=>rfl);(case hg=>rfl);(case hr=>first|(go_simp;done)|(go_simp;rfl));intro gb110 hg w5 hbox hb;have n0_:=zh.mk (zbm (by repeat (first|(with_reducible first|exact HB.out|apply zk|apply zf|apply zl)|exact HB.out)) hb);have n1_:=zh.mk (hbox);have n2_:=zh.mk ((by rw [hg];exact (za6 (by repeat (first|(with_reducible first|exact HB.out|apply zk|apply zf|apply zl)|exact HB.out))):w.heap.size<=gb110));have n3_:=zh.mk ((by rw [hg];exact (za6 (by repeat (first|(with_reducible first|exact HB.out|apply zk|apply zf|apply zl)|exact HB.out))):w.heap.size<=gb110));clear HB;have HB:=n0_;have BK110:=n1_;have GW110:=n2_;have GE110:=n3_;clear n0_ n1_ n2_ n3_;clear hb hbox hg)|((with_reducible refine zR (f:=15) rfl ?_);refine zbd (some 5) rfl rfl Tryz.func15 (by kernel_rfl) rfl #[.slice A0 l0.length c0] rfl (by (try simp only [List.map_toArray,List.map_cons,List.map_nil]);first|done|rfl|(simp only [List.length_drop,List.length_take];rfl)) ?_;(with_reducible refine (zbu.calls _ _ l0 t111 t112 t113 w _ ?side1 ?side2 ?side3 A2.out).mono ?_);(case side1=>repeat (first|(with_reducible first|exact HB.out|apply zk|apply zf|apply zl|refine zm ?_ GE110.out)|exact HB.out));(case side2=>exact HR0.out);(case side3=>exact HC0.out);rintro e w6 ⟨g114,rfl,hi,hb,hb2⟩;refine ⟨_,rfl,?_⟩;have n0_:=zh.mk (zaX (g:=gb110) (o:= .cells #[.int .i64 0,.int .i64 0,.int .i64 0] 25 (0,0)) (by (with_reducible repeat (first|refine zw ?_ _|refine zC ?_|refine zy ?_ _));exact BK110.out) hb2);have n1_:=zh.mk (hb);have n2_:=zh.mk (hi);have n3_:=zh.mk (ze.ne_blk hi (zaX (g:=gb110) (o:= .cells #[.int .i64 0,.int .i64 0,.int .i64 0] 25 (0,0)) (by (with_reducible repeat (first|refine zw ?_ _|refine zC ?_|refine zy ?_ _));exact BK110.out) hb2) (by decide));have n4_:=zh.mk (Ne.symm (ze.ne_blk hi (zaX (g:=gb110) (o:= .cells #[.int .i64 0,.int .i64 0,.int .i64 0] 25 (0,0)) (by (with_reducible repeat (first|refine zw ?_ _|refine zC ?_|refine zy ?_ _));exact BK110.out) hb2) (by decide)));clear BK110;clear HB;have BK110:=n0_;have HB:=n1_;have HI114:=n2_;have NB114_110:=n3_;have NB110_114:=n4_;clear n0_ n1_ n2_ n3_ n4_;(try clear hb);(try clear hb2);(try clear hk);(try clear hi))|((with_reducible refine zR (f:=16) rfl ?_);refine zbd (some 7) rfl rfl Tryz.func16 (by kernel_rfl) rfl #[.pointer (some ⟨g114,0,none⟩),.int .i64 4] rfl (by (try simp only [List.map_toArray,List.map_cons,List.map_nil]);first|done|rfl|(simp only [List.length_drop,List.length_take];rfl)) ?_;(with_reducible refine (zu.calls g114 t111 t112 t113 4 t115 t116 t117 w _ ?side1 ?side2 A3.out).mono ?_);(case side1=>repeat (first|(with_reducible first|exact HI114.out|apply ze.alloc|apply ze.drewN|apply ze.drew|apply ze.set_1|apply ze.set_2|refine ze.far ?_ NB114_110.out _)|exact HI114.out));(case side2=>repeat (first|(with_reducible first|exact HB.out|apply zk|apply zf|apply zl|refine zm ?_ (ze.ge HI114.out)|refine zm ?_ GE110.out)|exact HB.out));rintro e w7 ⟨rfl,hi,hb,hk⟩;refine ⟨_,rfl,?_⟩;have n0_:=zh.mk (zz.blk hk (g':=gb110) (o:= .cells #[.int .i64 0,.int .i64 0,.int .i64 0] 25 (0,0)) (by (with_reducible repeat (first|refine zw ?_ _|refine zC ?_|refine zy ?_ _));exact BK110.out) NB110_114.out (by simp));have n1_:=zh.mk (hb);have n2_:=zh.mk (hi);clear BK110;clear HB;clear HI114;have BK110:=n0_;have HB:=n1_;have HI114:=n2_;clear n0_ n1_ n2_;(try clear hb);(try clear hb2);(try clear hk);(try clear hi);have hnb8:=NB110_114.out;have hnc8:=NB114_110.out;have hcz9_0:w7.cell? ⟨gb110,0,none⟩=some (.int .i64 0):=(zao BK110.out 0).trans rfl;have hcz9_1:w7.cell? ⟨gb110,1,none⟩=some (.int .i64 0):=(zao BK110.out 1).trans rfl;have hcz9_2:w7.cell? ⟨gb110,2,none⟩=some (.int .i64 0):=(zao BK110.out 2).trans rfl;have hfz9_0:=zQ BK110.out 0;have hfz9_1:=zQ BK110.out 1;have hfz9_2:=zQ BK110.out 2))
  refine bodyPost_ret (results_cell_row rfl _ _ gb110 25 #[.int .i64 6371000000,.int .i64 0,.int .i64 1] (0,0) _ rfl (by (with_reducible repeat (first|refine zw ?_ _|refine zC ?_|refine zy ?_ _));refine zbe (cs:=#[.int .i64 6371000000,.int .i64 0,.int .i64 0]) ?_ 2 _ rfl;(with_reducible repeat (first|refine zw ?_ _|refine zC ?_|refine zy ?_ _));refine zbe (cs:=#[.int .i64 6371000000,.int .i64 0,.int .i64 0]) ?_ 1 _ rfl;(with_reducible repeat (first|refine zw ?_ _|refine zC ?_|refine zy ?_ _));refine zbe (cs:=#[.int .i64 0,.int .i64 0,.int .i64 0]) ?_ 0 _ rfl;(with_reducible repeat (first|refine zw ?_ _|refine zC ?_|refine zy ?_ _));exact BK110.out) Tryz.underlying25 rfl (by kernel_rfl)) rfl ?_
  exact ⟨by first|rfl|(simp [z8,zZ]<;>rfl)|(simp [*,z8,zZ]<;>rfl),by repeat (first|(with_reducible first|exact HB.out|apply zk|apply zf|apply zl|refine zm ?_ (ze.ge HI114.out)|refine zm ?_ GE110.out)|exact HB.out)⟩
 ·rw [if_neg c4] at H
  have c4b0:(t115==0)=false:=beq_eq_false_iff_ne.mpr c4
  have c4b1:(t115 != 0)=true:=bne_iff_ne.mpr c4
  by_cases c10:t115=1
  ·rw [if_pos c10] at H
   have c10b0:(t115==1)=true:=beq_iff_eq.mpr c10
   have c10b1:(t115 != 1)=false:=bne_eq_false_iff_eq.mpr c10
   clear c10
   simp only [Option.some.injEq,Prod.mk.injEq] at H
   obtain ⟨rfl,rfl,rfl⟩:=H
   go_enter Tryz.func5,Tryz.ntmps5
   go_wp2_with (first|((with_reducible refine zc3 (N:=2) rfl ?_);refine zdI ?hg (N:=2) ?hd (cs:=#[.int .i64 0,.int .i64 0,.int .i64 0]) (t:=25) ?hr ?_;(case hd=>rfl);(case hg=>rfl);(case hr=>first|(go_simp;done)|(go_simp;rfl));intro gb110 hg w11 hbox hb;have n0_:=zh.mk (zbm (by repeat (first|(with_reducible first|exact HB.out|apply zk|apply zf|apply zl)|exact HB.out)) hb);have n1_:=zh.mk (hbox);have n2_:=zh.mk ((by rw [hg];exact (za6 (by repeat (first|(with_reducible first|exact HB.out|apply zk|apply zf|apply zl)|exact HB.out))):w.heap.size<=gb110));have n3_:=zh.mk ((by rw [hg];exact (za6 (by repeat (first|(with_reducible first|exact HB.out|apply zk|apply zf|apply zl)|exact HB.out))):w.heap.size<=gb110));clear HB;have HB:=n0_;have BK110:=n1_;have GW110:=n2_;have GE110:=n3_;clear n0_ n1_ n2_ n3_;clear hb hbox hg)|((with_reducible refine zR (f:=15) rfl ?_);refine zbd (some 5) rfl rfl Tryz.func15 (by kernel_rfl) rfl #[.slice A0 l0.length c0] rfl (by (try simp only [List.map_toArray,List.map_cons,List.map_nil]);first|done|rfl|(simp only [List.length_drop,List.length_take];rfl)) ?_;(with_reducible refine (zbu.calls _ _ l0 t111 t112 t113 w _ ?side1 ?side2 ?side3 A2.out).mono ?_);(case side1=>repeat (first|(with_reducible first|exact HB.out|apply zk|apply zf|apply zl|refine zm ?_ GE110.out)|exact HB.out));(case side2=>exact HR0.out);(case side3=>exact HC0.out);rintro e w12 ⟨g114,rfl,hi,hb,hb2⟩;refine ⟨_,rfl,?_⟩;have n0_:=zh.mk (zaX (g:=gb110) (o:= .cells #[.int .i64 0,.int .i64 0,.int .i64 0] 25 (0,0)) (by (with_reducible repeat (first|refine zw ?_ _|refine zC ?_|refine zy ?_ _));exact BK110.out) hb2);have n1_:=zh.mk (hb);have n2_:=zh.mk (hi);have n3_:=zh.mk (ze.ne_blk hi (zaX (g:=gb110) (o:= .cells #[.int .i64 0,.int .i64 0,.int .i64 0] 25 (0,0)) (by (with_reducible repeat (first|refine zw ?_ _|refine zC ?_|refine zy ?_ _));exact BK110.out) hb2) (by decide));have n4_:=zh.mk (Ne.symm (ze.ne_blk hi (zaX (g:=gb110) (o:= .cells #[.int .i64 0,.int .i64 0,.int .i64 0] 25 (0,0)) (by (with_reducible repeat (first|refine zw ?_ _|refine zC ?_|refine zy ?_ _));exact BK110.out) hb2) (by decide)));clear BK110;clear HB;have BK110:=n0_;have HB:=n1_;have HI114:=n2_;have NB114_110:=n3_;have NB110_114:=n4_;clear n0_ n1_ n2_ n3_ n4_;(try clear hb);(try clear hb2);(try clear hk);(try clear hi))|((with_reducible refine zR (f:=16) rfl ?_);refine zbd (some 7) rfl rfl Tryz.func16 (by kernel_rfl) rfl #[.pointer (some ⟨g114,0,none⟩),.int .i64 4] rfl (by (try simp only [List.map_toArray,List.map_cons,List.map_nil]);first|done|rfl|(simp only [List.length_drop,List.length_take];rfl)) ?_;(with_reducible refine (zu.calls g114 t111 t112 t113 4 t115 t116 t117 w _ ?side1 ?side2 A3.out).mono ?_);(case side1=>repeat (first|(with_reducible first|exact HI114.out|apply ze.alloc|apply ze.drewN|apply ze.drew|apply ze.set_1|apply ze.set_2|refine ze.far ?_ NB114_110.out _)|exact HI114.out));(case side2=>repeat (first|(with_reducible first|exact HB.out|apply zk|apply zf|apply zl|refine zm ?_ (ze.ge HI114.out)|refine zm ?_ GE110.out)|exact HB.out));rintro e w13 ⟨rfl,hi,hb,hk⟩;refine ⟨_,rfl,?_⟩;have n0_:=zh.mk (zz.blk hk (g':=gb110) (o:= .cells #[.int .i64 0,.int .i64 0,.int .i64 0] 25 (0,0)) (by (with_reducible repeat (first|refine zw ?_ _|refine zC ?_|refine zy ?_ _));exact BK110.out) NB110_114.out (by simp));have n1_:=zh.mk (hb);have n2_:=zh.mk (hi);clear BK110;clear HB;clear HI114;have BK110:=n0_;have HB:=n1_;have HI114:=n2_;clear n0_ n1_ n2_;(try clear hb);(try clear hb2);(try clear hk);(try clear hi);have hnb14:=NB110_114.out;have hnc14:=NB114_110.out;have hcz15_0:w13.cell? ⟨gb110,0,none⟩=some (.int .i64 0):=(zao BK110.out 0).trans rfl;have hcz15_1:w13.cell? ⟨gb110,1,none⟩=some (.int .i64 0):=(zao BK110.out 1).trans rfl;have hcz15_2:w13.cell? ⟨gb110,2,none⟩=some (.int .i64 0):=(zao BK110.out 2).trans rfl;have hfz15_0:=zQ BK110.out 0;have hfz15_1:=zQ BK110.out 1;have hfz15_2:=zQ BK110.out 2))
   refine bodyPost_ret (results_cell_row rfl _ _ gb110 25 #[.int .i64 6377397155,.int .i64 10000000,.int .i64 2991528128] (0,0) _ rfl (by (with_reducible repeat (first|refine zw ?_ _|refine zC ?_|refine zy ?_ _));refine zbe (cs:=#[.int .i64 6377397155,.int .i64 10000000,.int .i64 0]) ?_ 2 _ rfl;(with_reducible repeat (first|refine zw ?_ _|refine zC ?_|refine zy ?_ _));refine zbe (cs:=#[.int .i64 6377397155,.int .i64 0,.int .i64 0]) ?_ 1 _ rfl;(with_reducible repeat (first|refine zw ?_ _|refine zC ?_|refine zy ?_ _));refine zbe (cs:=#[.int .i64 0,.int .i64 0,.int .i64 0]) ?_ 0 _ rfl;(with_reducible repeat (first|refine zw ?_ _|refine zC ?_|refine zy ?_ _));exact BK110.out) Tryz.underlying25 rfl (by kernel_rfl)) rfl ?_
   exact ⟨by first|rfl|(simp [z8,zZ]<;>rfl)|(simp [*,z8,zZ]<;>rfl),by repeat (first|(with_reducible first|exact HB.out|apply zk|apply zf|apply zl|refine zm ?_ (ze.ge HI114.out)|refine zm ?_ GE110.out)|exact HB.out)⟩
  ·rw [if_neg c10] at H
   have c10b0:(t115==1)=false:=beq_eq_false_iff_ne.mpr c10
   have c10b1:(t115 != 1)=true:=bne_iff_ne.mpr c10
   by_cases c16:t115=2
   ·rw [if_pos c16] at H
    have c16b0:(t115==2)=true:=beq_iff_eq.mpr c16
    have c16b1:(t115 != 2)=false:=bne_eq_false_iff_eq.mpr c16
    clear c16
    replace H:=Option.bind_eq_some_iff.mp H
    obtain ⟨⟨t118,t119,t120⟩,A170,H⟩:=H
    replace H:((zu.f t111 t119 t120 2).bind fun bt121=>((zu.f t111 bt121.2.1 bt121.2.2 300).bind fun bt124=>(some (wrap64 (6000000000+(wrap64 (t118*1000000))),bt121.1,wrap64 (100+bt124.1)))))=some (r1,r2,r3):=H
    have A17:=zh.mk A170
    clear A170
    replace H:=Option.bind_eq_some_iff.mp H
    obtain ⟨⟨t121,t122,t123⟩,A180,H⟩:=H
    replace H:((zu.f t111 t122 t123 300).bind fun bt124=>(some (wrap64 (6000000000+(wrap64 (t118*1000000))),t121,wrap64 (100+bt124.1))))=some (r1,r2,r3):=H
    have A18:=zh.mk A180
    clear A180
    replace H:=Option.bind_eq_some_iff.mp H
    obtain ⟨⟨t124,t125,t126⟩,A190,H⟩:=H
    replace H:(some (wrap64 (6000000000+(wrap64 (t118*1000000))),t121,wrap64 (100+t124)))=some (r1,r2,r3):=H
    have A19:=zh.mk A190
    clear A190
    simp only [Option.some.injEq,Prod.mk.injEq] at H
    obtain ⟨rfl,rfl,rfl⟩:=H
    go_enter Tryz.func5,Tryz.ntmps5
    go_wp2_with (first|((with_reducible refine zc3 (N:=2) rfl ?_);refine zdI ?hg (N:=2) ?hd (cs:=#[.int .i64 0,.int .i64 0,.int .i64 0]) (t:=25) ?hr ?_;(case hd=>rfl);(case hg=>rfl);(case hr=>first|(go_simp;done)|(go_simp;rfl));intro gb110 hg w20 hbox hb;have n0_:=zh.mk (zbm (by repeat (first|(with_reducible first|exact HB.out|apply zk|apply zf|apply zl)|exact HB.out)) hb);have n1_:=zh.mk (hbox);have n2_:=zh.mk ((by rw [hg];exact (za6 (by repeat (first|(with_reducible first|exact HB.out|apply zk|apply zf|apply zl)|exact HB.out))):w.heap.size<=gb110));have n3_:=zh.mk ((by rw [hg];exact (za6 (by repeat (first|(with_reducible first|exact HB.out|apply zk|apply zf|apply zl)|exact HB.out))):w.heap.size<=gb110));clear HB;have HB:=n0_;have BK110:=n1_;have GW110:=n2_;have GE110:=n3_;clear n0_ n1_ n2_ n3_;clear hb hbox hg)|((with_reducible refine zR (f:=15) rfl ?_);refine zbd (some 5) rfl rfl Tryz.func15 (by kernel_rfl) rfl #[.slice A0 l0.length c0] rfl (by (try simp only [List.map_toArray,List.map_cons,List.map_nil]);first|done|rfl|(simp only [List.length_drop,List.length_take];rfl)) ?_;(with_reducible refine (zbu.calls _ _ l0 t111 t112 t113 w _ ?side1 ?side2 ?side3 A2.out).mono ?_);(case side1=>repeat (first|(with_reducible first|exact HB.out|apply zk|apply zf|apply zl|refine zm ?_ GE110.out)|exact HB.out));(case side2=>exact HR0.out);(case side3=>exact HC0.out);rintro e w21 ⟨g114,rfl,hi,hb,hb2⟩;refine ⟨_,rfl,?_⟩;have n0_:=zh.mk (zaX (g:=gb110) (o:= .cells #[.int .i64 0,.int .i64 0,.int .i64 0] 25 (0,0)) (by (with_reducible repeat (first|refine zw ?_ _|refine zC ?_|refine zy ?_ _));exact BK110.out) hb2);have n1_:=zh.mk (hb);have n2_:=zh.mk (hi);have n3_:=zh.mk (ze.ne_blk hi (zaX (g:=gb110) (o:= .cells #[.int .i64 0,.int .i64 0,.int .i64 0] 25 (0,0)) (by (with_reducible repeat (first|refine zw ?_ _|refine zC ?_|refine zy ?_ _));exact BK110.out) hb2) (by decide));have n4_:=zh.mk (Ne.symm (ze.ne_blk hi (zaX (g:=gb110) (o:= .cells #[.int .i64 0,.int .i64 0,.int .i64 0] 25 (0,0)) (by (with_reducible repeat (first|refine zw ?_ _|refine zC ?_|refine zy ?_ _));exact BK110.out) hb2) (by decide)));clear BK110;clear HB;have BK110:=n0_;have HB:=n1_;have HI114:=n2_;have NB114_110:=n3_;have NB110_114:=n4_;clear n0_ n1_ n2_ n3_ n4_;(try clear hb);(try clear hb2);(try clear hk);(try clear hi))|((with_reducible refine zR (f:=16) rfl ?_);refine zbd (some 7) rfl rfl Tryz.func16 (by kernel_rfl) rfl #[.pointer (some ⟨g114,0,none⟩),.int .i64 4] rfl (by (try simp only [List.map_toArray,List.map_cons,List.map_nil]);first|done|rfl|(simp only [List.length_drop,List.length_take];rfl)) ?_;(with_reducible refine (zu.calls g114 t111 t112 t113 4 t115 t116 t117 w _ ?side1 ?side2 A3.out).mono ?_);(case side1=>repeat (first|(with_reducible first|exact HI114.out|apply ze.alloc|apply ze.drewN|apply ze.drew|apply ze.set_1|apply ze.set_2|refine ze.far ?_ NB114_110.out _)|exact HI114.out));(case side2=>repeat (first|(with_reducible first|exact HB.out|apply zk|apply zf|apply zl|refine zm ?_ (ze.ge HI114.out)|refine zm ?_ GE110.out)|exact HB.out));rintro e w22 ⟨rfl,hi,hb,hk⟩;refine ⟨_,rfl,?_⟩;have n0_:=zh.mk (zz.blk hk (g':=gb110) (o:= .cells #[.int .i64 0,.int .i64 0,.int .i64 0] 25 (0,0)) (by (with_reducible repeat (first|refine zw ?_ _|refine zC ?_|refine zy ?_ _));exact BK110.out) NB110_114.out (by simp));have n1_:=zh.mk (hb);have n2_:=zh.mk (hi);clear BK110;clear HB;clear HI114;have BK110:=n0_;have HB:=n1_;have HI114:=n2_;clear n0_ n1_ n2_;(try clear hb);(try clear hb2);(try clear hk);(try clear hi))|((with_reducible refine zR (f:=16) rfl ?_);refine zbd (some 17) rfl rfl Tryz.func16 (by kernel_rfl) rfl #[.pointer (some ⟨g114,0,none⟩),.int .i64 400] rfl (by (try simp only [List.map_toArray,List.map_cons,List.map_nil]);first|done|rfl|(simp only [List.length_drop,List.length_take];rfl)) ?_;(with_reducible refine (zu.calls g114 t111 t116 t117 400 t118 t119 t120 w _ ?side1 ?side2 A17.out).mono ?_);(case side1=>repeat (first|(with_reducible first|exact HI114.out|apply ze.alloc|apply ze.drewN|apply ze.drew|apply ze.set_1|apply ze.set_2|refine ze.far ?_ NB114_110.out _)|exact HI114.out));(case side2=>repeat (first|(with_reducible first|exact HB.out|apply zk|apply zf|apply zl|refine zm ?_ (ze.ge HI114.out)|refine zm ?_ GE110.out)|exact HB.out));rintro e w23 ⟨rfl,hi,hb,hk⟩;refine ⟨_,rfl,?_⟩;have n0_:=zh.mk (zz.blk hk (g':=gb110) (o:= .cells #[.int .i64 0,.int .i64 0,.int .i64 0] 25 (0,0)) (by (with_reducible repeat (first|refine zw ?_ _|refine zC ?_|refine zy ?_ _));exact BK110.out) NB110_114.out (by simp));have n1_:=zh.mk (hb);have n2_:=zh.mk (hi);clear BK110;clear HB;clear HI114;have BK110:=n0_;have HB:=n1_;have HI114:=n2_;clear n0_ n1_ n2_;(try clear hb);(try clear hb2);(try clear hk);(try clear hi))|((with_reducible refine zR (f:=16) rfl ?_);refine zbd (some 21) rfl rfl Tryz.func16 (by kernel_rfl) rfl #[.pointer (some ⟨g114,0,none⟩),.int .i64 2] rfl (by (try simp only [List.map_toArray,List.map_cons,List.map_nil]);first|done|rfl|(simp only [List.length_drop,List.length_take];rfl)) ?_;(with_reducible refine (zu.calls g114 t111 t119 t120 2 t121 t122 t123 w _ ?side1 ?side2 A18.out).mono ?_);(case side1=>repeat (first|(with_reducible first|exact HI114.out|apply ze.alloc|apply ze.drewN|apply ze.drew|apply ze.set_1|apply ze.set_2|refine ze.far ?_ NB114_110.out _)|exact HI114.out));(case side2=>repeat (first|(with_reducible first|exact HB.out|apply zk|apply zf|apply zl|refine zm ?_ (ze.ge HI114.out)|refine zm ?_ GE110.out)|exact HB.out));rintro e w24 ⟨rfl,hi,hb,hk⟩;refine ⟨_,rfl,?_⟩;have n0_:=zh.mk (zz.blk hk (g':=gb110) (o:= .cells #[.int .i64 0,.int .i64 0,.int .i64 0] 25 (0,0)) (by (with_reducible repeat (first|refine zw ?_ _|refine zC ?_|refine zy ?_ _));exact BK110.out) NB110_114.out (by simp));have n1_:=zh.mk (hb);have n2_:=zh.mk (hi);clear BK110;clear HB;clear HI114;have BK110:=n0_;have HB:=n1_;have HI114:=n2_;clear n0_ n1_ n2_;(try clear hb);(try clear hb2);(try clear hk);(try clear hi))|((with_reducible refine zR (f:=16) rfl ?_);refine zbd (some 23) rfl rfl Tryz.func16 (by kernel_rfl) rfl #[.pointer (some ⟨g114,0,none⟩),.int .i64 300] rfl (by (try simp only [List.map_toArray,List.map_cons,List.map_nil]);first|done|rfl|(simp only [List.length_drop,List.length_take];rfl)) ?_;(with_reducible refine (zu.calls g114 t111 t122 t123 300 t124 t125 t126 w _ ?side1 ?side2 A19.out).mono ?_);(case side1=>repeat (first|(with_reducible first|exact HI114.out|apply ze.alloc|apply ze.drewN|apply ze.drew|apply ze.set_1|apply ze.set_2|refine ze.far ?_ NB114_110.out _)|exact HI114.out));(case side2=>repeat (first|(with_reducible first|exact HB.out|apply zk|apply zf|apply zl|refine zm ?_ (ze.ge HI114.out)|refine zm ?_ GE110.out)|exact HB.out));rintro e w25 ⟨rfl,hi,hb,hk⟩;refine ⟨_,rfl,?_⟩;have n0_:=zh.mk (zz.blk hk (g':=gb110) (o:= .cells #[.int .i64 0,.int .i64 0,.int .i64 0] 25 (0,0)) (by (with_reducible repeat (first|refine zw ?_ _|refine zC ?_|refine zy ?_ _));exact BK110.out) NB110_114.out (by simp));have n1_:=zh.mk (hb);have n2_:=zh.mk (hi);clear BK110;clear HB;clear HI114;have BK110:=n0_;have HB:=n1_;have HI114:=n2_;clear n0_ n1_ n2_;(try clear hb);(try clear hb2);(try clear hk);(try clear hi);have hnb26:=NB110_114.out;have hnc26:=NB114_110.out;have hcz27_0:w25.cell? ⟨gb110,0,none⟩=some (.int .i64 0):=(zao BK110.out 0).trans rfl;have hcz27_1:w25.cell? ⟨gb110,1,none⟩=some (.int .i64 0):=(zao BK110.out 1).trans rfl;have hcz27_2:w25.cell? ⟨gb110,2,none⟩=some (.int .i64 0):=(zao BK110.out 2).trans rfl;have hfz27_0:=zQ BK110.out 0;have hfz27_1:=zQ BK110.out 1;have hfz27_2:=zQ BK110.out 2))
    refine bodyPost_ret (results_cell_row rfl _ _ gb110 25 #[.int .i64 (wrap64 (6000000000+(wrap64 (t118*1000000)))),.int .i64 t121,.int .i64 (wrap64 (100+t124))] (0,0) _ rfl (by (with_reducible repeat (first|refine zw ?_ _|refine zC ?_|refine zy ?_ _));refine zbe (cs:=#[.int .i64 (wrap64 (6000000000+(wrap64 (t118*1000000)))),.int .i64 t121,.int .i64 0]) ?_ 2 _ rfl;(with_reducible repeat (first|refine zw ?_ _|refine zC ?_|refine zy ?_ _));refine zbe (cs:=#[.int .i64 (wrap64 (6000000000+(wrap64 (t118*1000000)))),.int .i64 0,.int .i64 0]) ?_ 1 _ rfl;(with_reducible repeat (first|refine zw ?_ _|refine zC ?_|refine zy ?_ _));refine zbe (cs:=#[.int .i64 0,.int .i64 0,.int .i64 0]) ?_ 0 _ rfl;(with_reducible repeat (first|refine zw ?_ _|refine zC ?_|refine zy ?_ _));exact BK110.out) Tryz.underlying25 rfl (by kernel_rfl)) rfl ?_
    exact ⟨by first|rfl|(simp [z8,zZ]<;>rfl)|(simp [*,z8,zZ]<;>rfl),by repeat (first|(with_reducible first|exact HB.out|apply zk|apply zf|apply zl|refine zm ?_ (ze.ge HI114.out)|refine zm ?_ GE110.out)|exact HB.out)⟩
   ·rw [if_neg c16] at H
    have c16b0:(t115==2)=false:=beq_eq_false_iff_ne.mpr c16
    have c16b1:(t115 != 2)=true:=bne_iff_ne.mpr c16
    replace H:=Option.bind_eq_some_iff.mp H
    obtain ⟨⟨t127,t128,t129⟩,A280,H⟩:=H
    replace H:(some (t127,t128,t129))=some (r1,r2,r3):=H
    have A28:=zh.mk A280
    clear A280
    simp only [Option.some.injEq,Prod.mk.injEq] at H
    obtain ⟨rfl,rfl,rfl⟩:=H
    go_enter Tryz.func5,Tryz.ntmps5
    go_wp2_with (first|((with_reducible refine zc3 (N:=2) rfl ?_);refine zdI ?hg (N:=2) ?hd (cs:=#[.int .i64 0,.int .i64 0,.int .i64 0]) (t:=25) ?hr ?_;(case hd=>rfl);(case hg=>rfl);(case hr=>first|(go_simp;done)|(go_simp;rfl));intro gb110 hg w29 hbox hb;have n0_:=zh.mk (zbm (by repeat (first|(with_reducible first|exact HB.out|apply zk|apply zf|apply zl)|exact HB.out)) hb);have n1_:=zh.mk (hbox);have n2_:=zh.mk ((by rw [hg];exact (za6 (by repeat (first|(with_reducible first|exact HB.out|apply zk|apply zf|apply zl)|exact HB.out))):w.heap.size<=gb110));have n3_:=zh.mk ((by rw [hg];exact (za6 (by repeat (first|(with_reducible first|exact HB.out|apply zk|apply zf|apply zl)|exact HB.out))):w.heap.size<=gb110));clear HB;have HB:=n0_;have BK110:=n1_;have GW110:=n2_;have GE110:=n3_;clear n0_ n1_ n2_ n3_;clear hb hbox hg)|((with_reducible refine zR (f:=15) rfl ?_);refine zbd (some 5) rfl rfl Tryz.func15 (by kernel_rfl) rfl #[.slice A0 l0.length c0] rfl (by (try simp only [List.map_toArray,List.map_cons,List.map_nil]);first|done|rfl|(simp only [List.length_drop,List.length_take];rfl)) ?_;(with_reducible refine (zbu.calls _ _ l0 t111 t112 t113 w _ ?side1 ?side2 ?side3 A2.out).mono ?_);(case side1=>repeat (first|(with_reducible first|exact HB.out|apply zk|apply zf|apply zl|refine zm ?_ GE110.out)|exact HB.out));(case side2=>exact HR0.out);(case side3=>exact HC0.out);rintro e w30 ⟨g114,rfl,hi,hb,hb2⟩;refine ⟨_,rfl,?_⟩;have n0_:=zh.mk (zaX (g:=gb110) (o:= .cells #[.int .i64 0,.int .i64 0,.int .i64 0] 25 (0,0)) (by (with_reducible repeat (first|refine zw ?_ _|refine zC ?_|refine zy ?_ _));exact BK110.out) hb2);have n1_:=zh.mk (hb);have n2_:=zh.mk (hi);have n3_:=zh.mk (ze.ne_blk hi (zaX (g:=gb110) (o:= .cells #[.int .i64 0,.int .i64 0,.int .i64 0] 25 (0,0)) (by (with_reducible repeat (first|refine zw ?_ _|refine zC ?_|refine zy ?_ _));exact BK110.out) hb2) (by decide));have n4_:=zh.mk (Ne.symm (ze.ne_blk hi (zaX (g:=gb110) (o:= .cells #[.int .i64 0,.int .i64 0,.int .i64 0] 25 (0,0)) (by (with_reducible repeat (first|refine zw ?_ _|refine zC ?_|refine zy ?_ _));exact BK110.out) hb2) (by decide)));clear BK110;clear HB;have BK110:=n0_;have HB:=n1_;have HI114:=n2_;have NB114_110:=n3_;have NB110_114:=n4_;clear n0_ n1_ n2_ n3_ n4_;(try clear hb);(try clear hb2);(try clear hk);(try clear hi))|((with_reducible refine zR (f:=16) rfl ?_);refine zbd (some 7) rfl rfl Tryz.func16 (by kernel_rfl) rfl #[.pointer (some ⟨g114,0,none⟩),.int .i64 4] rfl (by (try simp only [List.map_toArray,List.map_cons,List.map_nil]);first|done|rfl|(simp only [List.length_drop,List.length_take];rfl)) ?_;(with_reducible refine (zu.calls g114 t111 t112 t113 4 t115 t116 t117 w _ ?side1 ?side2 A3.out).mono ?_);(case side1=>repeat (first|(with_reducible first|exact HI114.out|apply ze.alloc|apply ze.drewN|apply ze.drew|apply ze.set_1|apply ze.set_2|refine ze.far ?_ NB114_110.out _)|exact HI114.out));(case side2=>repeat (first|(with_reducible first|exact HB.out|apply zk|apply zf|apply zl|refine zm ?_ (ze.ge HI114.out)|refine zm ?_ GE110.out)|exact HB.out));rintro e w31 ⟨rfl,hi,hb,hk⟩;refine ⟨_,rfl,?_⟩;have n0_:=zh.mk (zz.blk hk (g':=gb110) (o:= .cells #[.int .i64 0,.int .i64 0,.int .i64 0] 25 (0,0)) (by (with_reducible repeat (first|refine zw ?_ _|refine zC ?_|refine zy ?_ _));exact BK110.out) NB110_114.out (by simp));have n1_:=zh.mk (hb);have n2_:=zh.mk (hi);clear BK110;clear HB;clear HI114;have BK110:=n0_;have HB:=n1_;have HI114:=n2_;clear n0_ n1_ n2_;(try clear hb);(try clear hb2);(try clear hk);(try clear hi))|((with_reducible refine zR (f:=17) rfl ?_);refine zbd (some 26) rfl rfl Tryz.func17 (by kernel_rfl) rfl #[] rfl (by (try simp only [List.map_toArray,List.map_cons,List.map_nil]);first|done|rfl|(simp only [List.length_drop,List.length_take];rfl)) ?_;(with_reducible refine (zfi.calls  t127 t128 t129 _ A28.out).mono ?_);rintro e w32 ⟨rfl,hb⟩;refine ⟨_,rfl,?_⟩;have n0_:=zh.mk (zaX (g:=gb110) (o:= .cells #[.int .i64 0,.int .i64 0,.int .i64 0] 25 (0,0)) (by (with_reducible repeat (first|refine zw ?_ _|refine zC ?_|refine zy ?_ _));exact BK110.out) hb);have n1_:=zh.mk (ze.below (by repeat (first|(with_reducible first|exact HI114.out|apply ze.alloc|apply ze.drewN|apply ze.drew|apply ze.set_1|apply ze.set_2|refine ze.far ?_ NB114_110.out _)|exact HI114.out)) hb);have n2_:=zh.mk (zbm (by repeat (first|(with_reducible first|exact HB.out|apply zk|apply zf|apply zl|refine zm ?_ (ze.ge HI114.out)|refine zm ?_ GE110.out)|exact HB.out)) hb);clear BK110;clear HI114;clear HB;have BK110:=n0_;have HI114:=n1_;have HB:=n2_;clear n0_ n1_ n2_;(try clear hb);(try clear hb2);(try clear hk);(try clear hi);have hnb33:=NB110_114.out;have hnc33:=NB114_110.out;have hcz34_0:w32.cell? ⟨gb110,0,none⟩=some (.int .i64 0):=(zao BK110.out 0).trans rfl;have hcz34_1:w32.cell? ⟨gb110,1,none⟩=some (.int .i64 0):=(zao BK110.out 1).trans rfl;have hcz34_2:w32.cell? ⟨gb110,2,none⟩=some (.int .i64 0):=(zao BK110.out 2).trans rfl;have hfz34_0:=zQ BK110.out 0;have hfz34_1:=zQ BK110.out 1;have hfz34_2:=zQ BK110.out 2))
    refine bodyPost_ret (results_cell_row rfl _ _ gb110 25 #[.int .i64 t127,.int .i64 t128,.int .i64 t129] (0,0) _ rfl (by (with_reducible repeat (first|refine zw ?_ _|refine zC ?_|refine zy ?_ _));refine zbe (cs:=#[.int .i64 t127,.int .i64 t128,.int .i64 0]) ?_ 2 _ rfl;(with_reducible repeat (first|refine zw ?_ _|refine zC ?_|refine zy ?_ _));refine zbe (cs:=#[.int .i64 t127,.int .i64 0,.int .i64 0]) ?_ 1 _ rfl;(with_reducible repeat (first|refine zw ?_ _|refine zC ?_|refine zy ?_ _));refine zbe (cs:=#[.int .i64 0,.int .i64 0,.int .i64 0]) ?_ 0 _ rfl;(with_reducible repeat (first|refine zw ?_ _|refine zC ?_|refine zy ?_ _));exact BK110.out) Tryz.underlying25 rfl (by kernel_rfl)) rfl ?_
    exact ⟨by first|rfl|(simp [z8,zZ]<;>rfl)|(simp [*,z8,zZ]<;>rfl),by repeat (first|(with_reducible first|exact HB.out|apply zk|apply zf|apply zl|refine zm ?_ (ze.ge HI114.out)|refine zm ?_ GE110.out)|exact HB.out)⟩
def zau.f (s0_0:List Int) (s0_1:Int) (s0_2:Int) (l1:List Int):Option (Int×Int×Int):=(zu.f s0_0 s0_1 s0_2 (l1.length:Int)).bind fun bt130=>(if 0<=bt130.1 then (if bt130.1<(l1.length:Int) then (some (rd l1 bt130.1,bt130.2.1,bt130.2.2)) else (none)) else (none))
set_option maxHeartbeats 8000000 in
set_option maxRecDepth 100000 in
theorem zau.calls (g:Nat) (s0_0:List Int) (s0_1:Int) (s0_2:Int) (A1:Option Addr) (c1:Nat) (l1:List Int) (r1:Int) (r2:Int) (r3:Int) (w0 w:World) (hI:ze w0 w g s0_0 s0_1 s0_2) (hB:Below w0.heap.size w0 w) (hr1:Kd.C (Kd.int .i64) w A1 l1.length l1) (hc1:l1.length<=c1) (hf1:∀ad,A1=some ad->0<l1.length->ad.block≠g) (h:zau.f s0_0 s0_1 s0_2 l1=some (r1,r2,r3)):
  Calls Tryz.prog 53 #[.pointer (some ⟨g,0,none⟩),.slice A1 l1.length c1] w fun e w'=>e= .returned (.int .i64 r1)/\ze w0 w' g s0_0 r2 r3/\Below w0.heap.size w0 w'/\zz w w' g none:=by
 have HR1:=zh.mk hr1
 have HC1:=zh.mk hc1
 clear hr1 hc1
 have HI0:=zh.mk hI
 have HK:=zh.mk (zz.refl w g none)
 have HL:=zh.mk hB.size
 clear hI
 have HW0:=zh.mk hB.size
 have HB:=zh.mk hB
 clear hB
 have H:((zu.f s0_0 s0_1 s0_2 (l1.length:Int)).bind fun bt130=>(if 0<=bt130.1 then (if bt130.1<(l1.length:Int) then (some (rd l1 bt130.1,bt130.2.1,bt130.2.2)) else (none)) else (none)))=some (r1,r2,r3):=h
 clear h
 replace H:=Option.bind_eq_some_iff.mp H
 obtain ⟨⟨t130,t131,t132⟩,A30,H⟩:=H
 replace H:(if 0<=t130 then (if t130<(l1.length:Int) then (some (rd l1 t130,t131,t132)) else (none)) else (none))=some (r1,r2,r3):=H
 have A3:=zh.mk A30
 clear A30
 by_cases c4:0<=t130
 ·rw [if_pos c4] at H
  have c4b0:decide (0<=t130)=true:=decide_eq_true c4
  clear c4
  by_cases c5:t130<(l1.length:Int)
  ·rw [if_pos c5] at H
   have c5b0:decide (t130<(l1.length:Int))=true:=decide_eq_true c5
   clear c5
   simp only [Option.some.injEq,Prod.mk.injEq] at H
   obtain ⟨rfl,rfl,rfl⟩:=H
   go_enter Tryz.func53,Tryz.ntmps53
   go_wp2_with (first|((with_reducible refine zR (f:=16) rfl ?_);refine zbd (some 9) rfl rfl Tryz.func16 (by kernel_rfl) rfl #[.pointer (some ⟨g,0,none⟩),.int .i64 (l1.length:Int)] rfl (by (try simp only [List.map_toArray,List.map_cons,List.map_nil]);first|done|rfl|(simp only [List.length_drop,List.length_take];rfl)) ?_;(with_reducible refine (zu.calls g s0_0 s0_1 s0_2 (l1.length:Int) t130 t131 t132 w0 _ ?side1 ?side2 A3.out).mono ?_);(case side1=>repeat (first|(with_reducible first|exact HI0.out|apply ze.alloc|apply ze.drewN|apply ze.drew|apply ze.set_1|apply ze.set_2)|exact HI0.out));(case side2=>repeat (first|(with_reducible first|exact HB.out|apply zk|apply zf|apply zl|refine zm ?_ (ze.ge HI0.out))|exact HB.out));rintro e w6 ⟨rfl,hi,hb,hk⟩;refine ⟨_,rfl,?_⟩;have n0_:=zh.mk (zz.trans (by repeat (first|(with_reducible first|exact HK.out|apply zz.set_|apply zK|apply zP|apply zL)|exact HK.out)) hk (.inl rfl));have n1_:=zh.mk (hb);have n2_:=zh.mk (hi);clear HK;clear HB;clear HI0;have HK:=n0_;have HB:=n1_;have HI0:=n2_;clear n0_ n1_ n2_;(try clear hb);(try clear hb2);(try clear hk);(try clear hi);have p133:0<=(t130:Int):=of_decide_eq_true (by first|(with_reducible assumption)|assumption);have q133:t130<(l1.length:Int):=of_decide_eq_true (by first|(with_reducible assumption)|assumption);obtain ⟨ad133,e133,hx133_0⟩:=Kd.at_int HR1.out t130 p133 q133;cases e133;replace hx133_0:=keep_cell HK.out hx133_0 (by first|(rw [add_block];exact hf1 _ rfl (by omega))|exact hf1 _ rfl (by omega)|exact hf1 ad133 rfl (by omega));replace p133:=eq_true p133;replace q133:=eq_true q133))
   go_ret
   exact ⟨by first|rfl|(simp [z8,zZ]<;>rfl)|(simp [*,z8,zZ]<;>rfl),by repeat (first|(with_reducible first|exact HI0.out|apply ze.alloc|apply ze.drewN|apply ze.drew|apply ze.set_1|apply ze.set_2)|exact HI0.out),by repeat (first|(with_reducible first|exact HB.out|apply zk|apply zf|apply zl|refine zm ?_ (ze.ge HI0.out))|exact HB.out),by repeat (first|(with_reducible first|exact HK.out|apply zz.set_|apply zK|apply zP|apply zL)|exact HK.out)⟩
  ·rw [if_neg c5] at H
   exact absurd H (by simp)
 ·rw [if_neg c4] at H
  exact absurd H (by simp)
def zaj.f (s0_0:List Int) (s0_1:Int) (s0_2:Int) (a1:Int):Option (Bool×Int×Int):=(zu.f s0_0 s0_1 s0_2 a1).bind fun bt134=>(some ((bt134.1==0),bt134.2.1,bt134.2.2))
set_option maxHeartbeats 8000000 in
set_option maxRecDepth 100000 in
theorem zaj.calls (g:Nat) (s0_0:List Int) (s0_1:Int) (s0_2:Int) (a1:Int) (r1:Bool) (r2:Int) (r3:Int) (w0 w:World) (hI:ze w0 w g s0_0 s0_1 s0_2) (hB:Below w0.heap.size w0 w) (h:zaj.f s0_0 s0_1 s0_2 a1=some (r1,r2,r3)):
  Calls Tryz.prog 54 #[.pointer (some ⟨g,0,none⟩),.int .i64 a1] w fun e w'=>e= .returned (.bool r1)/\ze w0 w' g s0_0 r2 r3/\Below w0.heap.size w0 w'/\zz w w' g none:=by
 have HI0:=zh.mk hI
 have HK:=zh.mk (zz.refl w g none)
 have HL:=zh.mk hB.size
 clear hI
 have HW0:=zh.mk hB.size
 have HB:=zh.mk hB
 clear hB
 have H:((zu.f s0_0 s0_1 s0_2 a1).bind fun bt134=>(some ((bt134.1==0),bt134.2.1,bt134.2.2)))=some (r1,r2,r3):=h
 clear h
 replace H:=Option.bind_eq_some_iff.mp H
 obtain ⟨⟨t134,t135,t136⟩,A30,H⟩:=H
 replace H:(some ((t134==0),t135,t136))=some (r1,r2,r3):=H
 have A3:=zh.mk A30
 clear A30
 simp only [Option.some.injEq,Prod.mk.injEq] at H
 obtain ⟨rfl,rfl,rfl⟩:=H
 go_enter Tryz.func54,Tryz.ntmps54
 go_wp2_with (first|((with_reducible refine zR (f:=16) rfl ?_);refine zbd (some 7) rfl rfl Tryz.func16 (by kernel_rfl) rfl #[.pointer (some ⟨g,0,none⟩),.int .i64 a1] rfl (by (try simp only [List.map_toArray,List.map_cons,List.map_nil]);first|done|rfl|(simp only [List.length_drop,List.length_take];rfl)) ?_;(with_reducible refine (zu.calls g s0_0 s0_1 s0_2 a1 t134 t135 t136 w0 _ ?side1 ?side2 A3.out).mono ?_);(case side1=>repeat (first|(with_reducible first|exact HI0.out|apply ze.alloc|apply ze.drewN|apply ze.drew|apply ze.set_1|apply ze.set_2)|exact HI0.out));(case side2=>repeat (first|(with_reducible first|exact HB.out|apply zk|apply zf|apply zl|refine zm ?_ (ze.ge HI0.out))|exact HB.out));rintro e w4 ⟨rfl,hi,hb,hk⟩;refine ⟨_,rfl,?_⟩;have n0_:=zh.mk (zz.trans (by repeat (first|(with_reducible first|exact HK.out|apply zz.set_|apply zK|apply zP|apply zL)|exact HK.out)) hk (.inl rfl));have n1_:=zh.mk (hb);have n2_:=zh.mk (hi);clear HK;clear HB;clear HI0;have HK:=n0_;have HB:=n1_;have HI0:=n2_;clear n0_ n1_ n2_;(try clear hb);(try clear hb2);(try clear hk);(try clear hi)))
 go_ret
 exact ⟨by first|rfl|(simp [z8,zZ]<;>rfl)|(simp [*,z8,zZ]<;>rfl),by repeat (first|(with_reducible first|exact HI0.out|apply ze.alloc|apply ze.drewN|apply ze.drew|apply ze.set_1|apply ze.set_2)|exact HI0.out),by repeat (first|(with_reducible first|exact HB.out|apply zk|apply zf|apply zl|refine zm ?_ (ze.ge HI0.out))|exact HB.out),by repeat (first|(with_reducible first|exact HK.out|apply zz.set_|apply zK|apply zP|apply zL)|exact HK.out)⟩
def zY.l0:Nat->Int->Int->Int->List Int->Int->Int->Option (Int×Int×Int)
 | 0,_,_,_,_,_,_=>none
 | k+1,x1,x5,x6,x1000,x1001,x1002=>if x6<7 then ((zaH.f x1000 x1001 x1002).bind fun bt137=>(zY.l0 k x1 (Go.bits .xor .i64 (wrap64 (x5*256)) bt137.1) (wrap64 (x6+1)) x1000 bt137.2.1 bt137.2.2)) else (if (wrap64 (x1+1))=0 then (none) else ((zu.f x1000 x1001 x1002 5).bind fun bt140=>(if bt140.1=0 then ((zu.f x1000 bt140.2.1 bt140.2.2 40).bind fun bt143=>(if 0<=(IntKind.u64.wrap (bt143.1)) then ((zaj.f x1000 bt143.2.1 bt143.2.2 2).bind fun bt146=>(if bt146.1=true then (some (wrap64 (-(shr .i64 (Int.tmod x5 (wrap64 (x1+1))) (IntKind.u64.wrap (bt143.1)))),bt146.2.1,bt146.2.2)) else (some (shr .i64 (Int.tmod x5 (wrap64 (x1+1))) (IntKind.u64.wrap (bt143.1)),bt146.2.1,bt146.2.2)))) else (none))) else (if bt140.1=1 then ((zau.f x1000 bt140.2.1 bt140.2.2 (([0,1,x1,wrap64 (Int.tdiv x1 2)]:List Int))).bind fun bt152=>((zaj.f x1000 bt152.2.1 bt152.2.2 2).bind fun bt155=>(if bt155.1=true then (some (wrap64 (-bt152.1),bt155.2.1,bt155.2.2)) else (some (bt152.1,bt155.2.1,bt155.2.2))))) else ((zaj.f x1000 bt140.2.1 bt140.2.2 2).bind fun bt158=>(if bt158.1=true then (some (wrap64 (-(Int.tmod x5 (wrap64 (x1+1)))),bt158.2.1,bt158.2.2)) else (some (Int.tmod x5 (wrap64 (x1+1)),bt158.2.1,bt158.2.2))))))))
def zY.f (k:Nat) (s0_0:List Int) (s0_1:Int) (s0_2:Int) (a1:Int):Option (Int×Int×Int):=zY.l0 k a1 0 0 s0_0 s0_1 s0_2
set_option maxHeartbeats 8000000 in
set_option maxRecDepth 100000 in
theorem zY.calls (k:Nat) (g:Nat) (s0_0:List Int) (s0_1:Int) (s0_2:Int) (a1:Int) (r1:Int) (r2:Int) (r3:Int) (w0 w:World) (hI:ze w0 w g s0_0 s0_1 s0_2) (hB:Below w0.heap.size w0 w) (h:zY.f k s0_0 s0_1 s0_2 a1=some (r1,r2,r3)):
  Calls Tryz.prog 19 #[.pointer (some ⟨g,0,none⟩),.int .i64 a1] w fun e w'=>e= .returned (.int .i64 r1)/\ze w0 w' g s0_0 r2 r3/\Below w0.heap.size w0 w'/\zz w w' g none:=by
 have HI0:=zh.mk hI
 have HK:=zh.mk (zz.refl w g none)
 have HL:=zh.mk hB.size
 clear hI
 have HW0:=zh.mk hB.size
 have HB:=zh.mk hB
 clear hB
 have H:(zY.l0 k a1 0 0 s0_0 s0_1 s0_2)=some (r1,r2,r3):=h
 clear h
 have H':=zh.mk H
 clear H
 go_enter Tryz.func19,Tryz.ntmps19
 go_wp2
 go_loopg [5,6] k (fun kq v5 v6 w'=>∃(x5_1:Int) (x6_1:Int) (x1001_1:Int) (x1002_1:Int),v5= .int .i64 x5_1/\v6= .int .i64 x6_1/\zh (zY.l0 kq a1 x5_1 x6_1 s0_0 x1001_1 x1002_1=some (r1,r2,r3))/\zh (kq<=k)/\zh (ze w0 w' g s0_0 x1001_1 x1002_1)/\zh (zz w w' g none)/\zh (Below w0.heap.size w0 w'))
 case atStart=>exact ⟨(0),(0),(s0_1),(s0_2),(by first|rfl|(simp;done)|(simp [*];done)),(by first|rfl|(simp;done)|(simp [*];done)),H',⟨Nat.le_refl _⟩,⟨by repeat (first|(with_reducible first|exact HI0.out|apply ze.alloc|apply ze.drewN|apply ze.drew|apply ze.set_1|apply ze.set_2)|exact HI0.out)⟩,⟨by repeat (first|(with_reducible first|exact HK.out|apply zz.set_|apply zK|apply zP|apply zL)|exact HK.out)⟩,⟨by repeat (first|(with_reducible first|exact HB.out|apply zk|apply zf|apply zl|refine zm ?_ (ze.ge HI0.out))|exact HB.out)⟩⟩
 case round=>
  clear H'
  try clear c1
  try clear p2
  obtain ⟨x5_1,x6_1,x1001_1,x1002_1,rfl,rfl,HA,HK1,HI0,HK,HB⟩:=hrel
  cases gk with
  | zero=>exact absurd HA.out (by simp [zY.l0])
  | succ k1=>
   have H:=HA.out
   clear HA
   simp only [zY.l0] at H
   by_cases c3:x6_1<7
   ·rw [if_pos c3] at H
    have c3b0:decide (x6_1<7)=true:=decide_eq_true c3
    clear c3
    replace H:=Option.bind_eq_some_iff.mp H
    obtain ⟨⟨t137,t138,t139⟩,A40,H⟩:=H
    replace H:(zY.l0 k1 a1 (Go.bits .xor .i64 (wrap64 (x5_1*256)) t137) (wrap64 (x6_1+1)) s0_0 t138 t139)=some (r1,r2,r3):=H
    have A4:=zh.mk A40
    clear A40
    have H':=zh.mk H
    clear H
    go_wp2_with (first|((with_reducible refine zR (f:=51) rfl ?_);refine zbd (some 14) rfl rfl Tryz.func51 (by kernel_rfl) rfl #[.pointer (some ⟨g,0,none⟩)] rfl (by (try simp only [List.map_toArray,List.map_cons,List.map_nil]);first|done|rfl|(simp only [List.length_drop,List.length_take];rfl)) ?_;(with_reducible refine (zaH.calls g s0_0 x1001_1 x1002_1 t137 t138 t139 w0 _ ?side1 ?side2 A4.out).mono ?_);(case side1=>repeat (first|(with_reducible first|exact HI0.out|apply ze.alloc|apply ze.drewN|apply ze.drew|apply ze.set_1|apply ze.set_2)|exact HI0.out));(case side2=>repeat (first|(with_reducible first|exact HB.out|apply zk|apply zf|apply zl|refine zm ?_ (ze.ge HI0.out))|exact HB.out));rintro e w5 ⟨rfl,hi,hb,hk⟩;refine ⟨_,rfl,?_⟩;have n0_:=zh.mk (zz.trans (by repeat (first|(with_reducible first|exact HK.out|apply zz.set_|apply zK|apply zP|apply zL)|exact HK.out)) hk (.inl rfl));have n1_:=zh.mk (hb);have n2_:=zh.mk (hi);clear HK;clear HB;clear HI0;have HK:=n0_;have HB:=n1_;have HI0:=n2_;clear n0_ n1_ n2_;(try clear hb);(try clear hb2);(try clear hk);(try clear hi)))
    go_roundg k1
    case measure=>have:=HK1.out;omega
    case rel=>exact ⟨(Go.bits .xor .i64 (wrap64 (x5_1*256)) t137),(wrap64 (x6_1+1)),(t138),(t139),(by first|rfl|(simp;done)|(simp [*];done)),(by first|rfl|(simp;done)|(simp [*];done)),H',⟨by have:=HK1.out;omega⟩,⟨by repeat (first|(with_reducible first|exact HI0.out|apply ze.alloc|apply ze.drewN|apply ze.drew|apply ze.set_1|apply ze.set_2)|exact HI0.out)⟩,⟨by repeat (first|(with_reducible first|exact HK.out|apply zz.set_|apply zK|apply zP|apply zL)|exact HK.out)⟩,⟨by repeat (first|(with_reducible first|exact HB.out|apply zk|apply zf|apply zl|refine zm ?_ (ze.ge HI0.out))|exact HB.out)⟩⟩
   ·rw [if_neg c3] at H
    have c3b0:decide (x6_1<7)=false:=decide_eq_false c3
    clear c3
    by_cases c6:(wrap64 (a1+1))=0
    ·rw [if_pos c6] at H
     exact absurd H (by simp)
    ·rw [if_neg c6] at H
     have c6b0:((wrap64 (a1+1))==0)=false:=beq_eq_false_iff_ne.mpr c6
     have c6b1:((wrap64 (a1+1)) != 0)=true:=bne_iff_ne.mpr c6
     replace H:=Option.bind_eq_some_iff.mp H
     obtain ⟨⟨t140,t141,t142⟩,A70,H⟩:=H
     replace H:(if t140=0 then ((zu.f s0_0 t141 t142 40).bind fun bt143=>(if 0<=(IntKind.u64.wrap (bt143.1)) then ((zaj.f s0_0 bt143.2.1 bt143.2.2 2).bind fun bt146=>(if bt146.1=true then (some (wrap64 (-(shr .i64 (Int.tmod x5_1 (wrap64 (a1+1))) (IntKind.u64.wrap (bt143.1)))),bt146.2.1,bt146.2.2)) else (some (shr .i64 (Int.tmod x5_1 (wrap64 (a1+1))) (IntKind.u64.wrap (bt143.1)),bt146.2.1,bt146.2.2)))) else (none))) else (if t140=1 then ((zau.f s0_0 t141 t142 (([0,1,a1,wrap64 (Int.tdiv a1 2)]:List Int))).bind fun bt152=>((zaj.f s0_0 bt152.2.1 bt152.2.2 2).bind fun bt155=>(if bt155.1=true then (some (wrap64 (-bt152.1),bt155.2.1,bt155.2.2)) else (some (bt152.1,bt155.2.1,bt155.2.2))))) else ((zaj.f s0_0 t141 t142 2).bind fun bt158=>(if bt158.1=true then (some (wrap64 (-(Int.tmod x5_1 (wrap64 (a1+1)))),bt158.2.1,bt158.2.2)) else (some (Int.tmod x5_1 (wrap64 (a1+1)),bt158.2.1,bt158.2.2))))))=some (r1,r2,r3):=H
     have A7:=zh.mk A70
     clear A70
     by_cases c8:t140=0
     ·rw [if_pos c8] at H
      have c8b0:(t140==0)=true:=beq_iff_eq.mpr c8
      have c8b1:(t140 != 0)=false:=bne_eq_false_iff_eq.mpr c8
      clear c8
      replace H:=Option.bind_eq_some_iff.mp H
      obtain ⟨⟨t143,t144,t145⟩,A90,H⟩:=H
      replace H:(if 0<=(IntKind.u64.wrap (t143)) then ((zaj.f s0_0 t144 t145 2).bind fun bt146=>(if bt146.1=true then (some (wrap64 (-(shr .i64 (Int.tmod x5_1 (wrap64 (a1+1))) (IntKind.u64.wrap (t143)))),bt146.2.1,bt146.2.2)) else (some (shr .i64 (Int.tmod x5_1 (wrap64 (a1+1))) (IntKind.u64.wrap (t143)),bt146.2.1,bt146.2.2)))) else (none))=some (r1,r2,r3):=H
      have A9:=zh.mk A90
      clear A90
      obtain ⟨ji10,hji10⟩:∃j_:Int,(IntKind.u64.wrap (t143))=j_:=⟨_,rfl⟩
      replace H:(if 0<=(ji10) then ((zaj.f s0_0 t144 t145 2).bind fun bt146=>(if bt146.1=true then (some (wrap64 (-(shr .i64 (Int.tmod x5_1 (wrap64 (a1+1))) (ji10))),bt146.2.1,bt146.2.2)) else (some (shr .i64 (Int.tmod x5_1 (wrap64 (a1+1))) (ji10),bt146.2.1,bt146.2.2)))) else (none))=some (r1,r2,r3):=by first|(rw [hji10] at H;exact H)|(simp only [hji10] at H ⊢;exact H)
      (try rw [hji10] at A7)
      (try rw [hji10] at A9)
      by_cases c11:0<=(ji10)
      ·rw [if_pos c11] at H
       have c11b0:=eq_true c11
       have c11b1:decide (0<=(ji10))=true:=decide_eq_true c11
       clear c11
       obtain ⟨ji12,hji12⟩:∃j_:Int,(shr .i64 (Int.tmod x5_1 (wrap64 (a1+1))) (ji10))=j_:=⟨_,rfl⟩
       replace H:((zaj.f s0_0 t144 t145 2).bind fun bt146=>(if bt146.1=true then (some (wrap64 (-(ji12)),bt146.2.1,bt146.2.2)) else (some (ji12,bt146.2.1,bt146.2.2))))=some (r1,r2,r3):=by first|(rw [hji12] at H;exact H)|(simp only [hji12] at H ⊢;exact H)
       (try rw [hji12] at A7)
       (try rw [hji12] at A9)
       have hji12_:((Int.tmod x5_1 (wrap64 (a1+1)))/2^min (ji10).toNat 64)=ji12:=hji12
       have hji12z:(ji10)<=64->((Int.tmod x5_1 (wrap64 (a1+1)))/2^(ji10).toNat)=ji12:=shr_small hji12
       replace H:=Option.bind_eq_some_iff.mp H
       obtain ⟨⟨t146,t147,t148⟩,A130,H⟩:=H
       replace H:(if t146=true then (some (wrap64 (-(ji12)),t147,t148)) else (some (ji12,t147,t148)))=some (r1,r2,r3):=H
       have A13:=zh.mk A130
       clear A130
       by_cases c14:t146=true
       ·subst c14
        have H1:(some (wrap64 (-(ji12)),t147,t148))=some (r1,r2,r3):=by rw [if_pos rfl] at H;exact H
        clear H
        have H:=H1
        clear H1
        simp only [Option.some.injEq,Prod.mk.injEq] at H
        obtain ⟨rfl,rfl,rfl⟩:=H
        go_wp2_with (first|((with_reducible refine zR (f:=16) rfl ?_);refine zbd (some 21) rfl rfl Tryz.func16 (by kernel_rfl) rfl #[.pointer (some ⟨g,0,none⟩),.int .i64 5] rfl (by (try simp only [List.map_toArray,List.map_cons,List.map_nil]);first|done|rfl|(simp only [List.length_drop,List.length_take];rfl)) ?_;(with_reducible refine (zu.calls g s0_0 x1001_1 x1002_1 5 t140 t141 t142 w0 _ ?side1 ?side2 A7.out).mono ?_);(case side1=>repeat (first|(with_reducible first|exact HI0.out|apply ze.alloc|apply ze.drewN|apply ze.drew|apply ze.set_1|apply ze.set_2)|exact HI0.out));(case side2=>repeat (first|(with_reducible first|exact HB.out|apply zk|apply zf|apply zl|refine zm ?_ (ze.ge HI0.out))|exact HB.out));rintro e w15 ⟨rfl,hi,hb,hk⟩;refine ⟨_,rfl,?_⟩;have n0_:=zh.mk (zz.trans (by repeat (first|(with_reducible first|exact HK.out|apply zz.set_|apply zK|apply zP|apply zL)|exact HK.out)) hk (.inl rfl));have n1_:=zh.mk (hb);have n2_:=zh.mk (hi);clear HK;clear HB;clear HI0;have HK:=n0_;have HB:=n1_;have HI0:=n2_;clear n0_ n1_ n2_;(try clear hb);(try clear hb2);(try clear hk);(try clear hi))|((with_reducible refine zR (f:=16) rfl ?_);refine zbd (some 26) rfl rfl Tryz.func16 (by kernel_rfl) rfl #[.pointer (some ⟨g,0,none⟩),.int .i64 40] rfl (by (try simp only [List.map_toArray,List.map_cons,List.map_nil]);first|done|rfl|(simp only [List.length_drop,List.length_take];rfl)) ?_;(with_reducible refine (zu.calls g s0_0 t141 t142 40 t143 t144 t145 w0 _ ?side1 ?side2 A9.out).mono ?_);(case side1=>repeat (first|(with_reducible first|exact HI0.out|apply ze.alloc|apply ze.drewN|apply ze.drew|apply ze.set_1|apply ze.set_2)|exact HI0.out));(case side2=>repeat (first|(with_reducible first|exact HB.out|apply zk|apply zf|apply zl|refine zm ?_ (ze.ge HI0.out))|exact HB.out));rintro e w16 ⟨rfl,hi,hb,hk⟩;refine ⟨_,rfl,?_⟩;have n0_:=zh.mk (zz.trans (by repeat (first|(with_reducible first|exact HK.out|apply zz.set_|apply zK|apply zP|apply zL)|exact HK.out)) hk (.inl rfl));have n1_:=zh.mk (hb);have n2_:=zh.mk (hi);clear HK;clear HB;clear HI0;have HK:=n0_;have HB:=n1_;have HI0:=n2_;clear n0_ n1_ n2_;(try clear hb);(try clear hb2);(try clear hk);(try clear hi))|((with_reducible refine zR (f:=54) rfl ?_);refine zbd (some 38) rfl rfl Tryz.func54 (by kernel_rfl) rfl #[.pointer (some ⟨g,0,none⟩),.int .i64 2] rfl (by (try simp only [List.map_toArray,List.map_cons,List.map_nil]);first|done|rfl|(simp only [List.length_drop,List.length_take];rfl)) ?_;(with_reducible refine (zaj.calls g s0_0 t144 t145 2 true t147 t148 w0 _ ?side1 ?side2 A13.out).mono ?_);(case side1=>repeat (first|(with_reducible first|exact HI0.out|apply ze.alloc|apply ze.drewN|apply ze.drew|apply ze.set_1|apply ze.set_2)|exact HI0.out));(case side2=>repeat (first|(with_reducible first|exact HB.out|apply zk|apply zf|apply zl|refine zm ?_ (ze.ge HI0.out))|exact HB.out));rintro e w17 ⟨rfl,hi,hb,hk⟩;refine ⟨_,rfl,?_⟩;have n0_:=zh.mk (zz.trans (by repeat (first|(with_reducible first|exact HK.out|apply zz.set_|apply zK|apply zP|apply zL)|exact HK.out)) hk (.inl rfl));have n1_:=zh.mk (hb);have n2_:=zh.mk (hi);clear HK;clear HB;clear HI0;have HK:=n0_;have HB:=n1_;have HI0:=n2_;clear n0_ n1_ n2_;(try clear hb);(try clear hb2);(try clear hk);(try clear hi)))
        go_ret
        exact ⟨by first|rfl|(simp [z8,zZ]<;>rfl)|(simp only [<- hji10,<- hji12];first|rfl|(simp [z8,zZ]<;>rfl))|(simp [*,z8,zZ]<;>rfl),by repeat (first|(with_reducible first|exact HI0.out|apply ze.alloc|apply ze.drewN|apply ze.drew|apply ze.set_1|apply ze.set_2)|exact HI0.out),by repeat (first|(with_reducible first|exact HB.out|apply zk|apply zf|apply zl|refine zm ?_ (ze.ge HI0.out))|exact HB.out),by repeat (first|(with_reducible first|exact HK.out|apply zz.set_|apply zK|apply zP|apply zL)|exact HK.out)⟩
       ·replace c14:=Bool.eq_false_iff.mpr c14
        subst c14
        have H1:(some (ji12,t147,t148))=some (r1,r2,r3):=by rw [if_neg (show ¬(false=true) by decide)] at H;exact H
        clear H
        have H:=H1
        clear H1
        simp only [Option.some.injEq,Prod.mk.injEq] at H
        obtain ⟨rfl,rfl,rfl⟩:=H
        go_wp2_with (first|((with_reducible refine zR (f:=16) rfl ?_);refine zbd (some 21) rfl rfl Tryz.func16 (by kernel_rfl) rfl #[.pointer (some ⟨g,0,none⟩),.int .i64 5] rfl (by (try simp only [List.map_toArray,List.map_cons,List.map_nil]);first|done|rfl|(simp only [List.length_drop,List.length_take];rfl)) ?_;(with_reducible refine (zu.calls g s0_0 x1001_1 x1002_1 5 t140 t141 t142 w0 _ ?side1 ?side2 A7.out).mono ?_);(case side1=>repeat (first|(with_reducible first|exact HI0.out|apply ze.alloc|apply ze.drewN|apply ze.drew|apply ze.set_1|apply ze.set_2)|exact HI0.out));(case side2=>repeat (first|(with_reducible first|exact HB.out|apply zk|apply zf|apply zl|refine zm ?_ (ze.ge HI0.out))|exact HB.out));rintro e w18 ⟨rfl,hi,hb,hk⟩;refine ⟨_,rfl,?_⟩;have n0_:=zh.mk (zz.trans (by repeat (first|(with_reducible first|exact HK.out|apply zz.set_|apply zK|apply zP|apply zL)|exact HK.out)) hk (.inl rfl));have n1_:=zh.mk (hb);have n2_:=zh.mk (hi);clear HK;clear HB;clear HI0;have HK:=n0_;have HB:=n1_;have HI0:=n2_;clear n0_ n1_ n2_;(try clear hb);(try clear hb2);(try clear hk);(try clear hi))|((with_reducible refine zR (f:=16) rfl ?_);refine zbd (some 26) rfl rfl Tryz.func16 (by kernel_rfl) rfl #[.pointer (some ⟨g,0,none⟩),.int .i64 40] rfl (by (try simp only [List.map_toArray,List.map_cons,List.map_nil]);first|done|rfl|(simp only [List.length_drop,List.length_take];rfl)) ?_;(with_reducible refine (zu.calls g s0_0 t141 t142 40 t143 t144 t145 w0 _ ?side1 ?side2 A9.out).mono ?_);(case side1=>repeat (first|(with_reducible first|exact HI0.out|apply ze.alloc|apply ze.drewN|apply ze.drew|apply ze.set_1|apply ze.set_2)|exact HI0.out));(case side2=>repeat (first|(with_reducible first|exact HB.out|apply zk|apply zf|apply zl|refine zm ?_ (ze.ge HI0.out))|exact HB.out));rintro e w19 ⟨rfl,hi,hb,hk⟩;refine ⟨_,rfl,?_⟩;have n0_:=zh.mk (zz.trans (by repeat (first|(with_reducible first|exact HK.out|apply zz.set_|apply zK|apply zP|apply zL)|exact HK.out)) hk (.inl rfl));have n1_:=zh.mk (hb);have n2_:=zh.mk (hi);clear HK;clear HB;clear HI0;have HK:=n0_;have HB:=n1_;have HI0:=n2_;clear n0_ n1_ n2_;(try clear hb);(try clear hb2);(try clear hk);(try clear hi))|((with_reducible refine zR (f:=54) rfl ?_);refine zbd (some 38) rfl rfl Tryz.func54 (by kernel_rfl) rfl #[.pointer (some ⟨g,0,none⟩),.int .i64 2] rfl (by (try simp only [List.map_toArray,List.map_cons,List.map_nil]);first|done|rfl|(simp only [List.length_drop,List.length_take];rfl)) ?_;(with_reducible refine (zaj.calls g s0_0 t144 t145 2 false t147 t148 w0 _ ?side1 ?side2 A13.out).mono ?_);(case side1=>repeat (first|(with_reducible first|exact HI0.out|apply ze.alloc|apply ze.drewN|apply ze.drew|apply ze.set_1|apply ze.set_2)|exact HI0.out));(case side2=>repeat (first|(with_reducible first|exact HB.out|apply zk|apply zf|apply zl|refine zm ?_ (ze.ge HI0.out))|exact HB.out));rintro e w20 ⟨rfl,hi,hb,hk⟩;refine ⟨_,rfl,?_⟩;have n0_:=zh.mk (zz.trans (by repeat (first|(with_reducible first|exact HK.out|apply zz.set_|apply zK|apply zP|apply zL)|exact HK.out)) hk (.inl rfl));have n1_:=zh.mk (hb);have n2_:=zh.mk (hi);clear HK;clear HB;clear HI0;have HK:=n0_;have HB:=n1_;have HI0:=n2_;clear n0_ n1_ n2_;(try clear hb);(try clear hb2);(try clear hk);(try clear hi)))
        go_ret
        exact ⟨by first|rfl|(simp [z8,zZ]<;>rfl)|(simp only [<- hji10,<- hji12];first|rfl|(simp [z8,zZ]<;>rfl))|(simp [*,z8,zZ]<;>rfl),by repeat (first|(with_reducible first|exact HI0.out|apply ze.alloc|apply ze.drewN|apply ze.drew|apply ze.set_1|apply ze.set_2)|exact HI0.out),by repeat (first|(with_reducible first|exact HB.out|apply zk|apply zf|apply zl|refine zm ?_ (ze.ge HI0.out))|exact HB.out),by repeat (first|(with_reducible first|exact HK.out|apply zz.set_|apply zK|apply zP|apply zL)|exact HK.out)⟩
      ·rw [if_neg c11] at H
       exact absurd H (by simp)
     ·rw [if_neg c8] at H
      have c8b0:(t140==0)=false:=beq_eq_false_iff_ne.mpr c8
      have c8b1:(t140 != 0)=true:=bne_iff_ne.mpr c8
      by_cases c21:t140=1
      ·rw [if_pos c21] at H
       have c21b0:(t140==1)=true:=beq_iff_eq.mpr c21
       have c21b1:(t140 != 1)=false:=bne_eq_false_iff_eq.mpr c21
       clear c21
       obtain ⟨y149,hy149⟩:∃y_:List Int,y_=(([0,1,a1,wrap64 (Int.tdiv a1 2)]:List Int)):=⟨_,rfl⟩
       replace H:((zau.f s0_0 t141 t142 y149).bind fun bt152=>((zaj.f s0_0 bt152.2.1 bt152.2.2 2).bind fun bt155=>(if bt155.1=true then (some (wrap64 (-bt152.1),bt155.2.1,bt155.2.2)) else (some (bt152.1,bt155.2.1,bt155.2.2)))))=some (r1,r2,r3):=by first|(rw [hy149];with_reducible exact H)|(have H2_:=(Option.bind_some _ _).symm.trans H;rw [hy149];with_reducible exact H2_)|(have H2_:=(Option.bind_some _ _).symm.trans H;with_reducible exact H2_)|with_reducible exact H|(rw [hy149];exact H)|exact H
       have Ny149:=zh.mk hy149
       clear hy149
       replace H:=Option.bind_eq_some_iff.mp H
       obtain ⟨⟨t152,t153,t154⟩,A220,H⟩:=H
       replace H:((zaj.f s0_0 t153 t154 2).bind fun bt155=>(if bt155.1=true then (some (wrap64 (-t152),bt155.2.1,bt155.2.2)) else (some (t152,bt155.2.1,bt155.2.2))))=some (r1,r2,r3):=H
       have A22:=zh.mk A220
       clear A220
       replace H:=Option.bind_eq_some_iff.mp H
       obtain ⟨⟨t155,t156,t157⟩,A230,H⟩:=H
       replace H:(if t155=true then (some (wrap64 (-t152),t156,t157)) else (some (t152,t156,t157)))=some (r1,r2,r3):=H
       have A23:=zh.mk A230
       clear A230
       by_cases c24:t155=true
       ·subst c24
        have H1:(some (wrap64 (-t152),t156,t157))=some (r1,r2,r3):=by rw [if_pos rfl] at H;exact H
        clear H
        have H:=H1
        clear H1
        simp only [Option.some.injEq,Prod.mk.injEq] at H
        obtain ⟨rfl,rfl,rfl⟩:=H
        go_wp2_with (first|((with_reducible refine zR (f:=16) rfl ?_);refine zbd (some 21) rfl rfl Tryz.func16 (by kernel_rfl) rfl #[.pointer (some ⟨g,0,none⟩),.int .i64 5] rfl (by (try simp only [List.map_toArray,List.map_cons,List.map_nil]);first|done|rfl|(simp only [List.length_drop,List.length_take];rfl)) ?_;(with_reducible refine (zu.calls g s0_0 x1001_1 x1002_1 5 t140 t141 t142 w0 _ ?side1 ?side2 A7.out).mono ?_);(case side1=>repeat (first|(with_reducible first|exact HI0.out|apply ze.alloc|apply ze.drewN|apply ze.drew|apply ze.set_1|apply ze.set_2)|exact HI0.out));(case side2=>repeat (first|(with_reducible first|exact HB.out|apply zk|apply zf|apply zl|refine zm ?_ (ze.ge HI0.out))|exact HB.out));rintro e w25 ⟨rfl,hi,hb,hk⟩;refine ⟨_,rfl,?_⟩;have n0_:=zh.mk (zz.trans (by repeat (first|(with_reducible first|exact HK.out|apply zz.set_|apply zK|apply zP|apply zL)|exact HK.out)) hk (.inl rfl));have n1_:=zh.mk (hb);have n2_:=zh.mk (hi);clear HK;clear HB;clear HI0;have HK:=n0_;have HB:=n1_;have HI0:=n2_;clear n0_ n1_ n2_;(try clear hb);(try clear hb2);(try clear hk);(try clear hi))|((with_reducible refine zc3 (N:=35) rfl ?_);refine Kd.R_lit (Kd.int .i64) _ 2 ?hg (N:=35) ?hd (xs:=([0,1,a1,wrap64 (Int.tdiv a1 2)]:List Int)) (inner:= [.int .i64 0,.int .i64 1,.int .i64 a1,.int .i64 (wrap64 (Int.tdiv a1 2))]) (ok:=fun _=>True) (okp:=fun _=>True) ?hr ?hp (fun _ hk=>hk) trivial (Below.refl _ _) (Nat.le_refl _) (by simp) ?_;(case hd=>rfl);(case hg=>rfl);(case hr=>first|(go_simp;done)|(go_simp;rfl));(case hp=>exact (Reps.one (show Kd.M (Kd.int .i64) _ _ _ 0 [.int .i64 0] from rfl) (Reps.one (show Kd.M (Kd.int .i64) _ _ _ 1 [.int .i64 1] from rfl) (Reps.one (show Kd.M (Kd.int .i64) _ _ _ a1 [.int .i64 a1] from rfl) (Reps.one (show Kd.M (Kd.int .i64) _ _ _ (wrap64 (Int.tdiv a1 2)) [.int .i64 (wrap64 (Int.tdiv a1 2))] from rfl) (Reps.none _ _))))));intro v150 w26 ho27 hb hg_ hnew_;clear hg_ hnew_;(first|rw [<- Ny149.out] at ho27|(simp only [Int.reduceToNat] at ho27;rw [<- Ny149.out] at ho27));have n0_:=zh.mk (Kd.R_lower ho27 (keep_size (w:=w) (g:=g) (row:=none) (by repeat (first|(with_reducible first|exact HK.out|apply zz.set_|apply zK|apply zP|apply zL)|exact HK.out))));have n1_:=zh.mk (ze.below (by repeat (first|(with_reducible first|exact HI0.out|apply ze.alloc|apply ze.drewN|apply ze.drew|apply ze.set_1|apply ze.set_2)|exact HI0.out)) hb);have n2_:=zh.mk (zz.trans (by repeat (first|(with_reducible first|exact HK.out|apply zz.set_|apply zK|apply zP|apply zL)|exact HK.out)) (zz.of_below hb g none) (.inl rfl));have n3_:=zh.mk (zbm (by repeat (first|(with_reducible first|exact HB.out|apply zk|apply zf|apply zl|refine zm ?_ (ze.ge HI0.out))|exact HB.out)) hb);clear HI0;clear HK;clear HB;have HO151:=n0_;have HI0:=n1_;have HK:=n2_;have HB:=n3_;clear n0_ n1_ n2_ n3_;clear hb ho27;obtain ⟨Ao28,co28,eo28⟩:=Kd.R_slice HO151.out;subst eo28)|((with_reducible refine zR (f:=53) rfl ?_);refine zbd (some 36) rfl rfl Tryz.func53 (by kernel_rfl) rfl #[.pointer (some ⟨g,0,none⟩),.slice Ao28 y149.length co28] rfl (by (try simp only [List.map_toArray,List.map_cons,List.map_nil]);first|done|rfl|(simp only [List.length_drop,List.length_take];rfl)) ?_;(with_reducible refine (zau.calls g s0_0 t141 t142 _ _ y149 t152 t153 t154 w0 _ ?side1 ?side2 ?side3 ?side4 ?side5 A22.out).mono ?_);(case side1=>repeat (first|(with_reducible first|exact HI0.out|apply ze.alloc|apply ze.drewN|apply ze.drew|apply ze.set_1|apply ze.set_2)|exact HI0.out));(case side2=>repeat (first|(with_reducible first|exact HB.out|apply zk|apply zf|apply zl|refine zm ?_ (ze.ge HI0.out))|exact HB.out));(case side3=>repeat (first|exact (Kd.R_reads' HO151.out).2.2|(with_reducible refine Kd.C_alloc ?_ _)|(with_reducible refine Kd.C_drewN ?_ _)|(with_reducible refine Kd.C_drew ?_)));(case side4=>exact (Kd.R_reads' HO151.out).2.1);(case side5=>exact far_slice (ze.own_ne HI0.out HO151.out (by decide)));rintro e w29 ⟨rfl,hi,hb,hk⟩;refine ⟨_,rfl,?_⟩;have n0_:=zh.mk (Kd.R_mono (Kd.R_keep (ze.apart (show ze w0 _ g s0_0 t141 t142 from by repeat (first|(with_reducible first|exact HI0.out|apply ze.alloc|apply ze.drewN|apply ze.drew|apply ze.set_1|apply ze.set_2)|exact HI0.out)) (by (with_reducible repeat (first|apply Kd.R_alloc|apply Kd.R_drewN|apply Kd.R_drew));exact HO151.out) (by decide)) hk (fun _ h=>h.2)) (fun _ h=>h.1));have n1_:=zh.mk (zz.trans (by repeat (first|(with_reducible first|exact HK.out|apply zz.set_|apply zK|apply zP|apply zL)|exact HK.out)) hk (.inl rfl));have n2_:=zh.mk (hb);have n3_:=zh.mk (hi);clear HO151;clear HK;clear HB;clear HI0;have HO151:=n0_;have HK:=n1_;have HB:=n2_;have HI0:=n3_;clear n0_ n1_ n2_ n3_;(try clear hb);(try clear hb2);(try clear hk);(try clear hi))|((with_reducible refine zR (f:=54) rfl ?_);refine zbd (some 38) rfl rfl Tryz.func54 (by kernel_rfl) rfl #[.pointer (some ⟨g,0,none⟩),.int .i64 2] rfl (by (try simp only [List.map_toArray,List.map_cons,List.map_nil]);first|done|rfl|(simp only [List.length_drop,List.length_take];rfl)) ?_;(with_reducible refine (zaj.calls g s0_0 t153 t154 2 true t156 t157 w0 _ ?side1 ?side2 A23.out).mono ?_);(case side1=>repeat (first|(with_reducible first|exact HI0.out|apply ze.alloc|apply ze.drewN|apply ze.drew|apply ze.set_1|apply ze.set_2)|exact HI0.out));(case side2=>repeat (first|(with_reducible first|exact HB.out|apply zk|apply zf|apply zl|refine zm ?_ (ze.ge HI0.out))|exact HB.out));rintro e w30 ⟨rfl,hi,hb,hk⟩;refine ⟨_,rfl,?_⟩;have n0_:=zh.mk (Kd.R_mono (Kd.R_keep (ze.apart (show ze w0 _ g s0_0 t153 t154 from by repeat (first|(with_reducible first|exact HI0.out|apply ze.alloc|apply ze.drewN|apply ze.drew|apply ze.set_1|apply ze.set_2)|exact HI0.out)) (by (with_reducible repeat (first|apply Kd.R_alloc|apply Kd.R_drewN|apply Kd.R_drew));exact HO151.out) (by decide)) hk (fun _ h=>h.2)) (fun _ h=>h.1));have n1_:=zh.mk (zz.trans (by repeat (first|(with_reducible first|exact HK.out|apply zz.set_|apply zK|apply zP|apply zL)|exact HK.out)) hk (.inl rfl));have n2_:=zh.mk (hb);have n3_:=zh.mk (hi);clear HO151;clear HK;clear HB;clear HI0;have HO151:=n0_;have HK:=n1_;have HB:=n2_;have HI0:=n3_;clear n0_ n1_ n2_ n3_;(try clear hb);(try clear hb2);(try clear hk);(try clear hi)))
        go_ret
        exact ⟨by first|rfl|(simp [z8,zZ]<;>rfl)|(simp [*,z8,zZ]<;>rfl),by repeat (first|(with_reducible first|exact HI0.out|apply ze.alloc|apply ze.drewN|apply ze.drew|apply ze.set_1|apply ze.set_2)|exact HI0.out),by repeat (first|(with_reducible first|exact HB.out|apply zk|apply zf|apply zl|refine zm ?_ (ze.ge HI0.out))|exact HB.out),by repeat (first|(with_reducible first|exact HK.out|apply zz.set_|apply zK|apply zP|apply zL)|exact HK.out)⟩
       ·replace c24:=Bool.eq_false_iff.mpr c24
        subst c24
        have H1:(some (t152,t156,t157))=some (r1,r2,r3):=by rw [if_neg (show ¬(false=true) by decide)] at H;exact H
        clear H
        have H:=H1
        clear H1
        simp only [Option.some.injEq,Prod.mk.injEq] at H
        obtain ⟨rfl,rfl,rfl⟩:=H
        go_wp2_with (first|((with_reducible refine zR (f:=16) rfl ?_);refine zbd (some 21) rfl rfl Tryz.func16 (by kernel_rfl) rfl #[.pointer (some ⟨g,0,none⟩),.int .i64 5] rfl (by (try simp only [List.map_toArray,List.map_cons,List.map_nil]);first|done|rfl|(simp only [List.length_drop,List.length_take];rfl)) ?_;(with_reducible refine (zu.calls g s0_0 x1001_1 x1002_1 5 t140 t141 t142 w0 _ ?side1 ?side2 A7.out).mono ?_);(case side1=>repeat (first|(with_reducible first|exact HI0.out|apply ze.alloc|apply ze.drewN|apply ze.drew|apply ze.set_1|apply ze.set_2)|exact HI0.out));(case side2=>repeat (first|(with_reducible first|exact HB.out|apply zk|apply zf|apply zl|refine zm ?_ (ze.ge HI0.out))|exact HB.out));rintro e w31 ⟨rfl,hi,hb,hk⟩;refine ⟨_,rfl,?_⟩;have n0_:=zh.mk (zz.trans (by repeat (first|(with_reducible first|exact HK.out|apply zz.set_|apply zK|apply zP|apply zL)|exact HK.out)) hk (.inl rfl));have n1_:=zh.mk (hb);have n2_:=zh.mk (hi);clear HK;clear HB;clear HI0;have HK:=n0_;have HB:=n1_;have HI0:=n2_;clear n0_ n1_ n2_;(try clear hb);(try clear hb2);(try clear hk);(try clear hi))|((with_reducible refine zc3 (N:=35) rfl ?_);refine Kd.R_lit (Kd.int .i64) _ 2 ?hg (N:=35) ?hd (xs:=([0,1,a1,wrap64 (Int.tdiv a1 2)]:List Int)) (inner:= [.int .i64 0,.int .i64 1,.int .i64 a1,.int .i64 (wrap64 (Int.tdiv a1 2))]) (ok:=fun _=>True) (okp:=fun _=>True) ?hr ?hp (fun _ hk=>hk) trivial (Below.refl _ _) (Nat.le_refl _) (by simp) ?_;(case hd=>rfl);(case hg=>rfl);(case hr=>first|(go_simp;done)|(go_simp;rfl));(case hp=>exact (Reps.one (show Kd.M (Kd.int .i64) _ _ _ 0 [.int .i64 0] from rfl) (Reps.one (show Kd.M (Kd.int .i64) _ _ _ 1 [.int .i64 1] from rfl) (Reps.one (show Kd.M (Kd.int .i64) _ _ _ a1 [.int .i64 a1] from rfl) (Reps.one (show Kd.M (Kd.int .i64) _ _ _ (wrap64 (Int.tdiv a1 2)) [.int .i64 (wrap64 (Int.tdiv a1 2))] from rfl) (Reps.none _ _))))));intro v150 w32 ho33 hb hg_ hnew_;clear hg_ hnew_;(first|rw [<- Ny149.out] at ho33|(simp only [Int.reduceToNat] at ho33;rw [<- Ny149.out] at ho33));have n0_:=zh.mk (Kd.R_lower ho33 (keep_size (w:=w) (g:=g) (row:=none) (by repeat (first|(with_reducible first|exact HK.out|apply zz.set_|apply zK|apply zP|apply zL)|exact HK.out))));have n1_:=zh.mk (ze.below (by repeat (first|(with_reducible first|exact HI0.out|apply ze.alloc|apply ze.drewN|apply ze.drew|apply ze.set_1|apply ze.set_2)|exact HI0.out)) hb);have n2_:=zh.mk (zz.trans (by repeat (first|(with_reducible first|exact HK.out|apply zz.set_|apply zK|apply zP|apply zL)|exact HK.out)) (zz.of_below hb g none) (.inl rfl));have n3_:=zh.mk (zbm (by repeat (first|(with_reducible first|exact HB.out|apply zk|apply zf|apply zl|refine zm ?_ (ze.ge HI0.out))|exact HB.out)) hb);clear HI0;clear HK;clear HB;have HO151:=n0_;have HI0:=n1_;have HK:=n2_;have HB:=n3_;clear n0_ n1_ n2_ n3_;clear hb ho33;obtain ⟨Ao34,co34,eo34⟩:=Kd.R_slice HO151.out;subst eo34)|((with_reducible refine zR (f:=53) rfl ?_);refine zbd (some 36) rfl rfl Tryz.func53 (by kernel_rfl) rfl #[.pointer (some ⟨g,0,none⟩),.slice Ao34 y149.length co34] rfl (by (try simp only [List.map_toArray,List.map_cons,List.map_nil]);first|done|rfl|(simp only [List.length_drop,List.length_take];rfl)) ?_;(with_reducible refine (zau.calls g s0_0 t141 t142 _ _ y149 t152 t153 t154 w0 _ ?side1 ?side2 ?side3 ?side4 ?side5 A22.out).mono ?_);(case side1=>repeat (first|(with_reducible first|exact HI0.out|apply ze.alloc|apply ze.drewN|apply ze.drew|apply ze.set_1|apply ze.set_2)|exact HI0.out));(case side2=>repeat (first|(with_reducible first|exact HB.out|apply zk|apply zf|apply zl|refine zm ?_ (ze.ge HI0.out))|exact HB.out));(case side3=>repeat (first|exact (Kd.R_reads' HO151.out).2.2|(with_reducible refine Kd.C_alloc ?_ _)|(with_reducible refine Kd.C_drewN ?_ _)|(with_reducible refine Kd.C_drew ?_)));(case side4=>exact (Kd.R_reads' HO151.out).2.1);(case side5=>exact far_slice (ze.own_ne HI0.out HO151.out (by decide)));rintro e w35 ⟨rfl,hi,hb,hk⟩;refine ⟨_,rfl,?_⟩;have n0_:=zh.mk (Kd.R_mono (Kd.R_keep (ze.apart (show ze w0 _ g s0_0 t141 t142 from by repeat (first|(with_reducible first|exact HI0.out|apply ze.alloc|apply ze.drewN|apply ze.drew|apply ze.set_1|apply ze.set_2)|exact HI0.out)) (by (with_reducible repeat (first|apply Kd.R_alloc|apply Kd.R_drewN|apply Kd.R_drew));exact HO151.out) (by decide)) hk (fun _ h=>h.2)) (fun _ h=>h.1));have n1_:=zh.mk (zz.trans (by repeat (first|(with_reducible first|exact HK.out|apply zz.set_|apply zK|apply zP|apply zL)|exact HK.out)) hk (.inl rfl));have n2_:=zh.mk (hb);have n3_:=zh.mk (hi);clear HO151;clear HK;clear HB;clear HI0;have HO151:=n0_;have HK:=n1_;have HB:=n2_;have HI0:=n3_;clear n0_ n1_ n2_ n3_;(try clear hb);(try clear hb2);(try clear hk);(try clear hi))|((with_reducible refine zR (f:=54) rfl ?_);refine zbd (some 38) rfl rfl Tryz.func54 (by kernel_rfl) rfl #[.pointer (some ⟨g,0,none⟩),.int .i64 2] rfl (by (try simp only [List.map_toArray,List.map_cons,List.map_nil]);first|done|rfl|(simp only [List.length_drop,List.length_take];rfl)) ?_;(with_reducible refine (zaj.calls g s0_0 t153 t154 2 false t156 t157 w0 _ ?side1 ?side2 A23.out).mono ?_);(case side1=>repeat (first|(with_reducible first|exact HI0.out|apply ze.alloc|apply ze.drewN|apply ze.drew|apply ze.set_1|apply ze.set_2)|exact HI0.out));(case side2=>repeat (first|(with_reducible first|exact HB.out|apply zk|apply zf|apply zl|refine zm ?_ (ze.ge HI0.out))|exact HB.out));rintro e w36 ⟨rfl,hi,hb,hk⟩;refine ⟨_,rfl,?_⟩;have n0_:=zh.mk (Kd.R_mono (Kd.R_keep (ze.apart (show ze w0 _ g s0_0 t153 t154 from by repeat (first|(with_reducible first|exact HI0.out|apply ze.alloc|apply ze.drewN|apply ze.drew|apply ze.set_1|apply ze.set_2)|exact HI0.out)) (by (with_reducible repeat (first|apply Kd.R_alloc|apply Kd.R_drewN|apply Kd.R_drew));exact HO151.out) (by decide)) hk (fun _ h=>h.2)) (fun _ h=>h.1));have n1_:=zh.mk (zz.trans (by repeat (first|(with_reducible first|exact HK.out|apply zz.set_|apply zK|apply zP|apply zL)|exact HK.out)) hk (.inl rfl));have n2_:=zh.mk (hb);have n3_:=zh.mk (hi);clear HO151;clear HK;clear HB;clear HI0;have HO151:=n0_;have HK:=n1_;have HB:=n2_;have HI0:=n3_;clear n0_ n1_ n2_ n3_;(try clear hb);(try clear hb2);(try clear hk);(try clear hi)))
        go_ret
        exact ⟨by first|rfl|(simp [z8,zZ]<;>rfl)|(simp [*,z8,zZ]<;>rfl),by repeat (first|(with_reducible first|exact HI0.out|apply ze.alloc|apply ze.drewN|apply ze.drew|apply ze.set_1|apply ze.set_2)|exact HI0.out),by repeat (first|(with_reducible first|exact HB.out|apply zk|apply zf|apply zl|refine zm ?_ (ze.ge HI0.out))|exact HB.out),by repeat (first|(with_reducible first|exact HK.out|apply zz.set_|apply zK|apply zP|apply zL)|exact HK.out)⟩
      ·rw [if_neg c21] at H
       have c21b0:(t140==1)=false:=beq_eq_false_iff_ne.mpr c21
       have c21b1:(t140 != 1)=true:=bne_iff_ne.mpr c21
       replace H:=Option.bind_eq_some_iff.mp H
       obtain ⟨⟨t158,t159,t160⟩,A370,H⟩:=H
       replace H:(if t158=true then (some (wrap64 (-(Int.tmod x5_1 (wrap64 (a1+1)))),t159,t160)) else (some (Int.tmod x5_1 (wrap64 (a1+1)),t159,t160)))=some (r1,r2,r3):=H
       have A37:=zh.mk A370
       clear A370
       by_cases c38:t158=true
       ·subst c38
        have H1:(some (wrap64 (-(Int.tmod x5_1 (wrap64 (a1+1)))),t159,t160))=some (r1,r2,r3):=by rw [if_pos rfl] at H;exact H
        clear H
        have H:=H1
        clear H1
        simp only [Option.some.injEq,Prod.mk.injEq] at H
        obtain ⟨rfl,rfl,rfl⟩:=H
        go_wp2_with (first|((with_reducible refine zR (f:=16) rfl ?_);refine zbd (some 21) rfl rfl Tryz.func16 (by kernel_rfl) rfl #[.pointer (some ⟨g,0,none⟩),.int .i64 5] rfl (by (try simp only [List.map_toArray,List.map_cons,List.map_nil]);first|done|rfl|(simp only [List.length_drop,List.length_take];rfl)) ?_;(with_reducible refine (zu.calls g s0_0 x1001_1 x1002_1 5 t140 t141 t142 w0 _ ?side1 ?side2 A7.out).mono ?_);(case side1=>repeat (first|(with_reducible first|exact HI0.out|apply ze.alloc|apply ze.drewN|apply ze.drew|apply ze.set_1|apply ze.set_2)|exact HI0.out));(case side2=>repeat (first|(with_reducible first|exact HB.out|apply zk|apply zf|apply zl|refine zm ?_ (ze.ge HI0.out))|exact HB.out));rintro e w39 ⟨rfl,hi,hb,hk⟩;refine ⟨_,rfl,?_⟩;have n0_:=zh.mk (zz.trans (by repeat (first|(with_reducible first|exact HK.out|apply zz.set_|apply zK|apply zP|apply zL)|exact HK.out)) hk (.inl rfl));have n1_:=zh.mk (hb);have n2_:=zh.mk (hi);clear HK;clear HB;clear HI0;have HK:=n0_;have HB:=n1_;have HI0:=n2_;clear n0_ n1_ n2_;(try clear hb);(try clear hb2);(try clear hk);(try clear hi))|((with_reducible refine zR (f:=54) rfl ?_);refine zbd (some 38) rfl rfl Tryz.func54 (by kernel_rfl) rfl #[.pointer (some ⟨g,0,none⟩),.int .i64 2] rfl (by (try simp only [List.map_toArray,List.map_cons,List.map_nil]);first|done|rfl|(simp only [List.length_drop,List.length_take];rfl)) ?_;(with_reducible refine (zaj.calls g s0_0 t141 t142 2 true t159 t160 w0 _ ?side1 ?side2 A37.out).mono ?_);(case side1=>repeat (first|(with_reducible first|exact HI0.out|apply ze.alloc|apply ze.drewN|apply ze.drew|apply ze.set_1|apply ze.set_2)|exact HI0.out));(case side2=>repeat (first|(with_reducible first|exact HB.out|apply zk|apply zf|apply zl|refine zm ?_ (ze.ge HI0.out))|exact HB.out));rintro e w40 ⟨rfl,hi,hb,hk⟩;refine ⟨_,rfl,?_⟩;have n0_:=zh.mk (zz.trans (by repeat (first|(with_reducible first|exact HK.out|apply zz.set_|apply zK|apply zP|apply zL)|exact HK.out)) hk (.inl rfl));have n1_:=zh.mk (hb);have n2_:=zh.mk (hi);clear HK;clear HB;clear HI0;have HK:=n0_;have HB:=n1_;have HI0:=n2_;clear n0_ n1_ n2_;(try clear hb);(try clear hb2);(try clear hk);(try clear hi)))
        go_ret
        exact ⟨by first|rfl|(simp [z8,zZ]<;>rfl)|(simp [*,z8,zZ]<;>rfl),by repeat (first|(with_reducible first|exact HI0.out|apply ze.alloc|apply ze.drewN|apply ze.drew|apply ze.set_1|apply ze.set_2)|exact HI0.out),by repeat (first|(with_reducible first|exact HB.out|apply zk|apply zf|apply zl|refine zm ?_ (ze.ge HI0.out))|exact HB.out),by repeat (first|(with_reducible first|exact HK.out|apply zz.set_|apply zK|apply zP|apply zL)|exact HK.out)⟩
       ·replace c38:=Bool.eq_false_iff.mpr c38
        subst c38
        have H1:(some (Int.tmod x5_1 (wrap64 (a1+1)),t159,t160))=some (r1,r2,r3):=by rw [if_neg (show ¬(false=true) by decide)] at H;exact H
        clear H
        have H:=H1
        clear H1
        simp only [Option.some.injEq,Prod.mk.injEq] at H
        obtain ⟨rfl,rfl,rfl⟩:=H
        go_wp2_with (first|((with_reducible refine zR (f:=16) rfl ?_);refine zbd (some 21) rfl rfl Tryz.func16 (by kernel_rfl) rfl #[.pointer (some ⟨g,0,none⟩),.int .i64 5] rfl (by (try simp only [List.map_toArray,List.map_cons,List.map_nil]);first|done|rfl|(simp only [List.length_drop,List.length_take];rfl)) ?_;(with_reducible refine (zu.calls g s0_0 x1001_1 x1002_1 5 t140 t141 t142 w0 _ ?side1 ?side2 A7.out).mono ?_);(case side1=>repeat (first|(with_reducible first|exact HI0.out|apply ze.alloc|apply ze.drewN|apply ze.drew|apply ze.set_1|apply ze.set_2)|exact HI0.out));(case side2=>repeat (first|(with_reducible first|exact HB.out|apply zk|apply zf|apply zl|refine zm ?_ (ze.ge HI0.out))|exact HB.out));rintro e w41 ⟨rfl,hi,hb,hk⟩;refine ⟨_,rfl,?_⟩;have n0_:=zh.mk (zz.trans (by repeat (first|(with_reducible first|exact HK.out|apply zz.set_|apply zK|apply zP|apply zL)|exact HK.out)) hk (.inl rfl));have n1_:=zh.mk (hb);have n2_:=zh.mk (hi);clear HK;clear HB;clear HI0;have HK:=n0_;have HB:=n1_;have HI0:=n2_;clear n0_ n1_ n2_;(try clear hb);(try clear hb2);(try clear hk);(try clear hi))|((with_reducible refine zR (f:=54) rfl ?_);refine zbd (some 38) rfl rfl Tryz.func54 (by kernel_rfl) rfl #[.pointer (some ⟨g,0,none⟩),.int .i64 2] rfl (by (try simp only [List.map_toArray,List.map_cons,List.map_nil]);first|done|rfl|(simp only [List.length_drop,List.length_take];rfl)) ?_;(with_reducible refine (zaj.calls g s0_0 t141 t142 2 false t159 t160 w0 _ ?side1 ?side2 A37.out).mono ?_);(case side1=>repeat (first|(with_reducible first|exact HI0.out|apply ze.alloc|apply ze.drewN|apply ze.drew|apply ze.set_1|apply ze.set_2)|exact HI0.out));(case side2=>repeat (first|(with_reducible first|exact HB.out|apply zk|apply zf|apply zl|refine zm ?_ (ze.ge HI0.out))|exact HB.out));rintro e w42 ⟨rfl,hi,hb,hk⟩;refine ⟨_,rfl,?_⟩;have n0_:=zh.mk (zz.trans (by repeat (first|(with_reducible first|exact HK.out|apply zz.set_|apply zK|apply zP|apply zL)|exact HK.out)) hk (.inl rfl));have n1_:=zh.mk (hb);have n2_:=zh.mk (hi);clear HK;clear HB;clear HI0;have HK:=n0_;have HB:=n1_;have HI0:=n2_;clear n0_ n1_ n2_;(try clear hb);(try clear hb2);(try clear hk);(try clear hi)))
        go_ret
        exact ⟨by first|rfl|(simp [z8,zZ]<;>rfl)|(simp [*,z8,zZ]<;>rfl),by repeat (first|(with_reducible first|exact HI0.out|apply ze.alloc|apply ze.drewN|apply ze.drew|apply ze.set_1|apply ze.set_2)|exact HI0.out),by repeat (first|(with_reducible first|exact HB.out|apply zk|apply zf|apply zl|refine zm ?_ (ze.ge HI0.out))|exact HB.out),by repeat (first|(with_reducible first|exact HK.out|apply zz.set_|apply zK|apply zP|apply zL)|exact HK.out)⟩
def zcN.f (a0:Int):Option (Int):=if (Int.tmod a0 3600000000)>1800000000 then (if (wrap64 ((Int.tmod a0 3600000000)-3600000000))<=(-1800000000) then (some (wrap64 ((wrap64 ((Int.tmod a0 3600000000)-3600000000))+3600000000))) else (some (wrap64 ((Int.tmod a0 3600000000)-3600000000)))) else (if (Int.tmod a0 3600000000)<=(-1800000000) then (some (wrap64 ((Int.tmod a0 3600000000)+3600000000))) else (some (Int.tmod a0 3600000000)))
set_option maxHeartbeats 8000000 in
set_option maxRecDepth 100000 in
theorem zcN.calls (a0:Int) (r:Int) (w:World) (h:zcN.f a0=some r):
  Calls Tryz.prog 52 #[.int .i64 a0] w fun e w'=>e= .returned (.int .i64 r)/\zfT w w':=by
 have H:(if (Int.tmod a0 3600000000)>1800000000 then (if (wrap64 ((Int.tmod a0 3600000000)-3600000000))<=(-1800000000) then (some (wrap64 ((wrap64 ((Int.tmod a0 3600000000)-3600000000))+3600000000))) else (some (wrap64 ((Int.tmod a0 3600000000)-3600000000)))) else (if (Int.tmod a0 3600000000)<=(-1800000000) then (some (wrap64 ((Int.tmod a0 3600000000)+3600000000))) else (some (Int.tmod a0 3600000000))))=some r:=h
 clear h
 by_cases c2:(Int.tmod a0 3600000000)>1800000000
 ·rw [if_pos c2] at H
  have c2b0:decide (1800000000<(Int.tmod a0 3600000000))=true:=decide_eq_true c2
  clear c2
  by_cases c3:(wrap64 ((Int.tmod a0 3600000000)-3600000000))<=(-1800000000)
  ·rw [if_pos c3] at H
   have c3b0:decide ((wrap64 ((Int.tmod a0 3600000000)-3600000000))<=(-1800000000))=true:=decide_eq_true c3
   clear c3
   obtain rfl:=Option.some.inj H
   go_enter Tryz.func52,Tryz.ntmps52
   go_wp2
   go_ret
   exact ⟨by first|rfl|(simp;done)|(simp [*];done),by repeat (first|exact zfT.refl _|apply zfT.step)⟩
  ·rw [if_neg c3] at H
   have c3b0:decide ((wrap64 ((Int.tmod a0 3600000000)-3600000000))<=(-1800000000))=false:=decide_eq_false c3
   clear c3
   obtain rfl:=Option.some.inj H
   go_enter Tryz.func52,Tryz.ntmps52
   go_wp2
   go_ret
   exact ⟨by first|rfl|(simp;done)|(simp [*];done),by repeat (first|exact zfT.refl _|apply zfT.step)⟩
 ·rw [if_neg c2] at H
  have c2b0:decide (1800000000<(Int.tmod a0 3600000000))=false:=decide_eq_false c2
  clear c2
  by_cases c4:(Int.tmod a0 3600000000)<=(-1800000000)
  ·rw [if_pos c4] at H
   have c4b0:decide ((Int.tmod a0 3600000000)<=(-1800000000))=true:=decide_eq_true c4
   clear c4
   obtain rfl:=Option.some.inj H
   go_enter Tryz.func52,Tryz.ntmps52
   go_wp2
   go_ret
   exact ⟨by first|rfl|(simp;done)|(simp [*];done),by repeat (first|exact zfT.refl _|apply zfT.step)⟩
  ·rw [if_neg c4] at H
   have c4b0:decide ((Int.tmod a0 3600000000)<=(-1800000000))=false:=decide_eq_false c4
   clear c4
   obtain rfl:=Option.some.inj H
   go_enter Tryz.func52,Tryz.ntmps52
   go_wp2
   go_ret
   exact ⟨by first|rfl|(simp;done)|(simp [*];done),by repeat (first|exact zfT.refl _|apply zfT.step)⟩
end Go.Proofs.YtlolpmmloolieaaGreatDoor.PFnLocal
