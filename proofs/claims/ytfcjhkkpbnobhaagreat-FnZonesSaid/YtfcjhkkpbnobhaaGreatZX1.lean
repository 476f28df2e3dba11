/- The law FnZones gives true, whatever bytes come in. No conditions. (One of the texts of its proof, put together by a program of this session.) -/
import Derived.Test.YtfcjhkkpbnobhaaGreatZX0
set_option linter.unusedSectionVars false
set_option linter.unusedSimpArgs false
set_option linter.unusedVariables false
namespace Go.Proofs.YtfcjhkkpbnobhaaGreat.PFnZones
open Go.RowKit Go.Proofs.YtfcjhkkpbnobhaaGreatW.PrintWords Go.Proofs.YtfcjhkkpbnobhaaGreatW.PrintLast Go.Proofs.YtfcjhkkpbnobhaaGreatW.PrintMore
def laws_a2Long.f (l0:List Int) (l1:List Int):Option (Bool):=if (l0.length:Int)>3000 then (some true) else (some (decide ((l1.length:Int)>3000)))
set_option maxHeartbeats 8000000 in
set_option maxRecDepth 100000 in
theorem laws_a2Long.calls (A0:Option Addr) (c0:Nat) (l0:List Int) (A1:Option Addr) (c1:Nat) (l1:List Int) (r:Bool) (w:World) (hr0:Kd.C (Kd.int .u8) w A0 l0.length l0) (hc0:l0.length<=c0) (hr1:Kd.C (Kd.int .u8) w A1 l1.length l1) (hc1:l1.length<=c1) (h:laws_a2Long.f l0 l1=some r):
  Calls Tryz.prog 46 #[.slice A0 l0.length c0,.slice A1 l1.length c1] w fun e w'=>e= .returned (.bool r)/\Drawn0 w w':=by
 have HR0:=zh.mk hr0
 have HC0:=zh.mk hc0
 clear hr0 hc0
 have HR1:=zh.mk hr1
 have HC1:=zh.mk hc1
 clear hr1 hc1
 have H:(if (l0.length:Int)>3000 then (some true) else (some (decide ((l1.length:Int)>3000))))=some r:=h
 clear h
 by_cases c3:(l0.length:Int)>3000
 ·rw [if_pos c3] at H
  have c3b0:decide (3000<(l0.length:Int))=true:=decide_eq_true c3
  have c3b1:decide (3000<l0.length)=true:=decide_eq_true (by omega)
  clear c3
  obtain rfl:=Option.some.inj H
  go_enter Tryz.func46,Tryz.ntmps46
  go_wp2
  go_ret
  exact ⟨by first|rfl|(simp;done)|(simp [*];done),by repeat (first|exact Drawn0.refl _|apply Drawn0.step)⟩
 ·rw [if_neg c3] at H
  have c3b0:decide (3000<(l0.length:Int))=false:=decide_eq_false c3
  have c3b1:decide (3000<l0.length)=false:=decide_eq_false (by omega)
  clear c3
  obtain rfl:=Option.some.inj H
  go_enter Tryz.func46,Tryz.ntmps46
  go_wp2
  go_ret
  exact ⟨by first|rfl|(simp;done)|(simp [*];done),by repeat (first|exact Drawn0.refl _|apply Drawn0.step)⟩
def ze (w0 W:World) (g:Nat) (f0:List Int) (f1:Int) (f2:Int):Prop:=∃A0 c0,W.heap[g]?=some (.cells #[.slice A0 f0.length c0,.int .i64 f1,.int .u64 f2] 134 (0,0))/\w0.heap.size<=g/\Kd.C (Kd.int .u8) w0 A0 f0.length f0
theorem ze.grown {w0 W:World} {g:Nat} {f0:List Int} {f1:Int} {f2:Int} {W1:World} {row:Option Nat} (h:ze w0 W g f0 f1 f2) (hw:W.grownBy W1 row) (hne:some g≠row):ze w0 W1 g f0 f1 f2:=by
 obtain ⟨A0,c0,hb,hg,hr0⟩:=h
 exact ⟨A0,c0,blk_grown hb hw hne,hg,hr0⟩
theorem ze.below {w0 W:World} {g:Nat} {f0:List Int} {f1:Int} {f2:Int} {W1:World} (h:ze w0 W g f0 f1 f2) (hw:Below W.heap.size W W1):ze w0 W1 g f0 f1 f2:=h.grown (grown_of_below hw none) (by simp)
theorem ze.alloc {w0 W:World} {g:Nat} {f0:List Int} {f1:Int} {f2:Int} (h:ze w0 W g f0 f1 f2) (o:Obj):ze w0 (W.alloc o) g f0 f1 f2:=h.below (zz (Below.refl _ _) o)
theorem ze.drewN {w0 W:World} {g:Nat} {f0:List Int} {f1:Int} {f2:Int} (h:ze w0 W g f0 f1 f2) (m:Nat):ze w0 (W.drewN m) g f0 f1 f2:=h
theorem ze.drew {w0 W:World} {g:Nat} {f0:List Int} {f1:Int} {f2:Int} (h:ze w0 W g f0 f1 f2):ze w0 W.drew g f0 f1 f2:=h
theorem ze.apart {w0 W:World} {g:Nat} {f0:List Int} {f1:Int} {f2:Int} {α:Type} {d:Kd α} {e:Nat} {base:Nat} {ok:Nat->Prop} {v:Value} {xs:List α} (h:ze w0 W g f0 f1 f2) (ho:d.R e W base ok v xs) (ht:∀q,q∈e::d.E->q≠134):d.R e W base (fun k=>ok k/\k≠g) v xs:=by
 obtain ⟨A0,c0,hb,hg,hr0⟩:=h
 exact Kd.R_types ho hb ht
theorem ze.own_ne {w0 W:World} {g:Nat} {f0:List Int} {f1:Int} {f2:Int} {α:Type} {d:Kd α} {e:Nat} {base:Nat} {ok:Nat->Prop} {v:Value} {xs:List α} (h:ze w0 W g f0 f1 f2) (ho:d.R e W base ok v xs) (ht:e≠134):some g≠v.ownBlock:=by
 obtain ⟨A0,c0,hb,hg,hr0⟩:=h
 exact Kd.R_ne ho hb ht
theorem ze.lt {w0 W:World} {g:Nat} {f0:List Int} {f1:Int} {f2:Int} (h:ze w0 W g f0 f1 f2):g<W.heap.size:=by
 obtain ⟨A0,c0,hb,hg,hr0⟩:=h
 exact zea hb
theorem ze.ge {w0 W:World} {g:Nat} {f0:List Int} {f1:Int} {f2:Int} (h:ze w0 W g f0 f1 f2):w0.heap.size<=g:=by
 obtain ⟨A0,c0,hb,hg,hr0⟩:=h
 exact hg
theorem ze.ne_blk {w0 W:World} {g:Nat} {f0:List Int} {f1:Int} {f2:Int} {a:Nat} {cs:Array Value} {t:TypeId} {fr:Nat×Nat} (h:ze w0 W g f0 f1 f2) (hb2:W.heap[a]?=some (.cells cs t fr)) (ht:t≠134):g≠a:=by
 obtain ⟨A0,c0,hb,hg,hr0⟩:=h
 rintro rfl
 rw [hb] at hb2
 injection hb2 with hb2
 injection hb2 with _ ht2
 exact ht ht2.symm
theorem ze.far {w0 W:World} {g:Nat} {f0:List Int} {f1:Int} {f2:Int} {p:Addr} (h:ze w0 W g f0 f1 f2) (hne:g≠p.block) (u:Value):ze w0 (W.setCell p u) g f0 f1 f2:=by
 obtain ⟨A0,c0,hb,hg,hr0⟩:=h
 exact ⟨A0,c0,zbJ hb hne u,hg,hr0⟩
theorem cellS134_0 {W:World} {g:Nat} {A0:Option Addr} {c0:Nat} {f0:List Int} {f1:Int} {f2:Int} (h:W.heap[g]?=some (.cells #[.slice A0 f0.length c0,.int .i64 f1,.int .u64 f2] 134 (0,0))):W.cell? ⟨g,0,none⟩=some (.slice A0 f0.length c0):=(zaF h 0).trans rfl
theorem cellS134_1 {W:World} {g:Nat} {A0:Option Addr} {c0:Nat} {f0:List Int} {f1:Int} {f2:Int} (h:W.heap[g]?=some (.cells #[.slice A0 f0.length c0,.int .i64 f1,.int .u64 f2] 134 (0,0))):W.cell? ⟨g,1,none⟩=some (.int .i64 f1):=(zaF h 1).trans rfl
theorem ze.set_1 {w0 W:World} {g:Nat} {f0:List Int} {f1:Int} {f2:Int} (h:ze w0 W g f0 f1 f2) (x:Int):ze w0 (W.setCell ⟨g,1,none⟩ (.int .i64 x)) g f0 x f2:=by
 obtain ⟨A0,c0,hb,hg,hr0⟩:=h
 exact ⟨A0,c0,by simpa using blk_set hb 1 (.int .i64 x),hg,hr0⟩
theorem cellS134_2 {W:World} {g:Nat} {A0:Option Addr} {c0:Nat} {f0:List Int} {f1:Int} {f2:Int} (h:W.heap[g]?=some (.cells #[.slice A0 f0.length c0,.int .i64 f1,.int .u64 f2] 134 (0,0))):W.cell? ⟨g,2,none⟩=some (.int .u64 f2):=(zaF h 2).trans rfl
theorem ze.set_2 {w0 W:World} {g:Nat} {f0:List Int} {f1:Int} {f2:Int} (h:ze w0 W g f0 f1 f2) (x:Int):ze w0 (W.setCell ⟨g,2,none⟩ (.int .u64 x)) g f0 f1 x:=by
 obtain ⟨A0,c0,hb,hg,hr0⟩:=h
 exact ⟨A0,c0,by simpa using blk_set hb 2 (.int .u64 x),hg,hr0⟩
def zd6.f (l0:List Int):Option (List Int×Int×Int):=some (l0,0,0)
set_option maxHeartbeats 8000000 in
set_option maxRecDepth 100000 in
theorem zd6.calls (A0:Option Addr) (c0:Nat) (l0:List Int) (r1:List Int) (r2:Int) (r3:Int) (w0 w:World) (hB:Below w0.heap.size w0 w) (hr0:Kd.C (Kd.int .u8) w0 A0 l0.length l0) (hc0:l0.length<=c0) (h:zd6.f l0=some (r1,r2,r3)):
  Calls Tryz.prog 73 #[.slice A0 l0.length c0] w fun e w'=>∃g_:Nat,e= .returned (.pointer (some ⟨g_,0,none⟩))/\ze w0 w' g_ r1 r2 r3/\Below w0.heap.size w0 w'/\Below w.heap.size w w':=by
 have hu134:=Tryz.underlying134
 have HR0:=zh.mk hr0
 have HC0:=zh.mk hc0
 clear hr0 hc0
 have HBW:=zh.mk (Below.refl w.heap.size w)
 have HW0:=zh.mk hB.size
 have HB:=zh.mk hB
 clear hB
 have H:(some (l0,0,0))=some (r1,r2,r3):=h
 clear h
 simp only [Option.some.injEq,Prod.mk.injEq] at H
 obtain ⟨rfl,rfl,rfl⟩:=H
 go_enter Tryz.func73,Tryz.ntmps73
 go_wp2_with (first|((with_reducible refine zcT (N:=5) rfl ?_);refine zdJ ?hg (N:=5) ?hd (cs:=#[.slice A0 l0.length c0,.int .i64 0,.int .u64 0]) (t:=134) ?hr ?_;(case hd=>rfl);(case hg=>rfl);(case hr=>first|(go_simp;done)|(go_simp;rfl));intro gb101 hg w2 hbox hb;have n0_:=zh.mk (zbs HBW.out hb);have n1_:=zh.mk (zbs (by repeat (first|(with_reducible first|exact HB.out|apply zz|apply zl|apply zC)|exact HB.out)) hb);have n2_:=zh.mk (hbox);have n3_:=zh.mk ((by rw [hg];exact (zcB (by repeat (first|(with_reducible first|exact HBW.out|apply zz|apply zl|apply zC)|exact HBW.out))):w.heap.size<=gb101));have n4_:=zh.mk ((Nat.le_trans HW0.out (by rw [hg];exact (zcB (by repeat (first|(with_reducible first|exact HBW.out|apply zz|apply zl|apply zC)|exact HBW.out))):w.heap.size<=gb101):w0.heap.size<=gb101));clear HBW;clear HB;have HBW:=n0_;have HB:=n1_;have BK101:=n2_;have GW101:=n3_;have GE101:=n4_;clear n0_ n1_ n2_ n3_ n4_;clear hb hbox hg))
 go_ret
 exact ⟨_,rfl,(show ze w0 _ gb101 l0 0 0 from ⟨_,_,by (with_reducible repeat (first|refine zo ?_ _|refine zB ?_|refine zt ?_ _));exact BK101.out,GE101.out,HR0.out⟩),by repeat (first|(with_reducible first|exact HB.out|apply zz|apply zl|apply zC|refine zn ?_ GE101.out)|exact HB.out),by repeat (first|(with_reducible first|exact HBW.out|apply zz|apply zl|apply zC|refine zn ?_ GW101.out)|exact HBW.out)⟩
def zbd.f (s0_0:List Int) (s0_1:Int) (s0_2:Int):Option (Int×Int×Int):=if s0_1<(s0_0.length:Int) then (if 0<=s0_1 then (if (wrap64 (s0_1+1))<=(s0_0.length:Int) then (some (wrap64 (rd s0_0 s0_1),wrap64 (s0_1+1),IntKind.u64.wrap ((IntKind.u64.wrap ((IntKind.u64.wrap (s0_2*6364136223846793005))+(IntKind.u64.wrap (wrap64 (rd s0_0 s0_1)))))+1442695040888963407))) else (some (wrap64 (Go.bits .and .u64 ((IntKind.u64.wrap ((IntKind.u64.wrap ((IntKind.u64.wrap (s0_2*6364136223846793005))+(IntKind.u64.wrap (wrap64 (rd s0_0 s0_1)))))+1442695040888963407))/1099511627776) 255),wrap64 (s0_1+1),IntKind.u64.wrap ((IntKind.u64.wrap ((IntKind.u64.wrap (s0_2*6364136223846793005))+(IntKind.u64.wrap (wrap64 (rd s0_0 s0_1)))))+1442695040888963407)))) else (none)) else (if (wrap64 (s0_1+1))<=(s0_0.length:Int) then (some (0,wrap64 (s0_1+1),IntKind.u64.wrap ((IntKind.u64.wrap (IntKind.u64.wrap (s0_2*6364136223846793005)))+1442695040888963407))) else (some (wrap64 (Go.bits .and .u64 ((IntKind.u64.wrap ((IntKind.u64.wrap (IntKind.u64.wrap (s0_2*6364136223846793005)))+1442695040888963407))/1099511627776) 255),wrap64 (s0_1+1),IntKind.u64.wrap ((IntKind.u64.wrap (IntKind.u64.wrap (s0_2*6364136223846793005)))+1442695040888963407))))
set_option maxHeartbeats 8000000 in
set_option maxRecDepth 100000 in
theorem zbd.calls (g:Nat) (s0_0:List Int) (s0_1:Int) (s0_2:Int) (r1:Int) (r2:Int) (r3:Int) (w0 w:World) (hI:ze w0 w g s0_0 s0_1 s0_2) (hB:Below w0.heap.size w0 w) (h:zbd.f s0_0 s0_1 s0_2=some (r1,r2,r3)):
  Calls Tryz.prog 171 #[.pointer (some ⟨g,0,none⟩)] w fun e w'=>e= .returned (.int .i64 r1)/\ze w0 w' g s0_0 r2 r3/\Below w0.heap.size w0 w'/\zA w w' g none:=by
 have HI0:=zh.mk hI
 have HK:=zh.mk (zA.refl w g none)
 have HL:=zh.mk hB.size
 clear hI
 have HW0:=zh.mk hB.size
 have HB:=zh.mk hB
 clear hB
 have H:(if s0_1<(s0_0.length:Int) then (if 0<=s0_1 then (if (wrap64 (s0_1+1))<=(s0_0.length:Int) then (some (wrap64 (rd s0_0 s0_1),wrap64 (s0_1+1),IntKind.u64.wrap ((IntKind.u64.wrap ((IntKind.u64.wrap (s0_2*6364136223846793005))+(IntKind.u64.wrap (wrap64 (rd s0_0 s0_1)))))+1442695040888963407))) else (some (wrap64 (Go.bits .and .u64 ((IntKind.u64.wrap ((IntKind.u64.wrap ((IntKind.u64.wrap (s0_2*6364136223846793005))+(IntKind.u64.wrap (wrap64 (rd s0_0 s0_1)))))+1442695040888963407))/1099511627776) 255),wrap64 (s0_1+1),IntKind.u64.wrap ((IntKind.u64.wrap ((IntKind.u64.wrap (s0_2*6364136223846793005))+(IntKind.u64.wrap (wrap64 (rd s0_0 s0_1)))))+1442695040888963407)))) else (none)) else (if (wrap64 (s0_1+1))<=(s0_0.length:Int) then (some (0,wrap64 (s0_1+1),IntKind.u64.wrap ((IntKind.u64.wrap (IntKind.u64.wrap (s0_2*6364136223846793005)))+1442695040888963407))) else (some (wrap64 (Go.bits .and .u64 ((IntKind.u64.wrap ((IntKind.u64.wrap (IntKind.u64.wrap (s0_2*6364136223846793005)))+1442695040888963407))/1099511627776) 255),wrap64 (s0_1+1),IntKind.u64.wrap ((IntKind.u64.wrap (IntKind.u64.wrap (s0_2*6364136223846793005)))+1442695040888963407)))))=some (r1,r2,r3):=h
 clear h
 by_cases c2:s0_1<(s0_0.length:Int)
 ·rw [if_pos c2] at H
  have c2b0:decide (s0_1<(s0_0.length:Int))=true:=decide_eq_true c2
  clear c2
  by_cases c3:0<=s0_1
  ·rw [if_pos c3] at H
   have c3b0:decide (0<=s0_1)=true:=decide_eq_true c3
   clear c3
   by_cases c4:(wrap64 (s0_1+1))<=(s0_0.length:Int)
   ·rw [if_pos c4] at H
    have c4b0:decide ((wrap64 (s0_1+1))<=(s0_0.length:Int))=true:=decide_eq_true c4
    clear c4
    simp only [Option.some.injEq,Prod.mk.injEq] at H
    obtain ⟨rfl,rfl,rfl⟩:=H
    obtain ⟨ASz5_0,cSz5_0,HGz5,hgz5,HSz5_0⟩:=HI0.out
    have hcz5_0:=cellS134_0 HGz5
    have hcz5_1:=cellS134_1 HGz5
    have hcz5_2:=cellS134_2 HGz5
    have hfz5_1:=zak HGz5 1
    have hfz5_2:=zak HGz5 2
    clear HGz5 hgz5
    have p102:0<=(s0_1:Int):=of_decide_eq_true (by first|(with_reducible assumption)|assumption)
    have q102:s0_1<(s0_0.length:Int):=of_decide_eq_true (by first|(with_reducible assumption)|assumption)
    obtain ⟨ad102,e102,hx102_0⟩:=Kd.at_int HSz5_0 s0_1 p102 q102
    cases e102
    replace hx102_0:=pw_cell_below HB.out hx102_0
    replace p102:=eq_true p102
    replace q102:=eq_true q102
    go_enter Tryz.func171,Tryz.ntmps171
    go_wp2
    repeat (go_quiet (fail);try go_wp2)
    go_ret
    exact ⟨by first|rfl|(simp [zaz,zay]<;>rfl)|(simp [*,zaz,zay]<;>rfl),by repeat (first|(with_reducible first|exact HI0.out|apply ze.alloc|apply ze.drewN|apply ze.drew|apply ze.set_1|apply ze.set_2)|exact HI0.out),by repeat (first|(with_reducible first|exact HB.out|apply zz|apply zl|apply zC|refine zn ?_ (ze.ge HI0.out))|exact HB.out),by repeat (first|(with_reducible first|exact HK.out|apply zA.set_|apply zL|apply zP|apply zM)|exact HK.out)⟩
   ·rw [if_neg c4] at H
    have c4b0:decide ((wrap64 (s0_1+1))<=(s0_0.length:Int))=false:=decide_eq_false c4
    clear c4
    simp only [Option.some.injEq,Prod.mk.injEq] at H
    obtain ⟨rfl,rfl,rfl⟩:=H
    obtain ⟨ASz6_0,cSz6_0,HGz6,hgz6,HSz6_0⟩:=HI0.out
    have hcz6_0:=cellS134_0 HGz6
    have hcz6_1:=cellS134_1 HGz6
    have hcz6_2:=cellS134_2 HGz6
    have hfz6_1:=zak HGz6 1
    have hfz6_2:=zak HGz6 2
    clear HGz6 hgz6
    have p102:0<=(s0_1:Int):=of_decide_eq_true (by first|(with_reducible assumption)|assumption)
    have q102:s0_1<(s0_0.length:Int):=of_decide_eq_true (by first|(with_reducible assumption)|assumption)
    obtain ⟨ad102,e102,hx102_0⟩:=Kd.at_int HSz6_0 s0_1 p102 q102
    cases e102
    replace hx102_0:=pw_cell_below HB.out hx102_0
    replace p102:=eq_true p102
    replace q102:=eq_true q102
    go_enter Tryz.func171,Tryz.ntmps171
    go_wp2
    repeat (go_quiet (fail);try go_wp2)
    go_ret
    exact ⟨by first|rfl|(simp [zaz,zay]<;>rfl)|(simp [*,zaz,zay]<;>rfl),by repeat (first|(with_reducible first|exact HI0.out|apply ze.alloc|apply ze.drewN|apply ze.drew|apply ze.set_1|apply ze.set_2)|exact HI0.out),by repeat (first|(with_reducible first|exact HB.out|apply zz|apply zl|apply zC|refine zn ?_ (ze.ge HI0.out))|exact HB.out),by repeat (first|(with_reducible first|exact HK.out|apply zA.set_|apply zL|apply zP|apply zM)|exact HK.out)⟩
  ·rw [if_neg c3] at H
   exact absurd H (by simp)
 ·rw [if_neg c2] at H
  have c2b0:decide (s0_1<(s0_0.length:Int))=false:=decide_eq_false c2
  clear c2
  by_cases c7:(wrap64 (s0_1+1))<=(s0_0.length:Int)
  ·rw [if_pos c7] at H
   have c7b0:decide ((wrap64 (s0_1+1))<=(s0_0.length:Int))=true:=decide_eq_true c7
   clear c7
   simp only [Option.some.injEq,Prod.mk.injEq] at H
   obtain ⟨rfl,rfl,rfl⟩:=H
   obtain ⟨ASz8_0,cSz8_0,HGz8,hgz8,HSz8_0⟩:=HI0.out
   have hcz8_0:=cellS134_0 HGz8
   have hcz8_1:=cellS134_1 HGz8
   have hcz8_2:=cellS134_2 HGz8
   have hfz8_1:=zak HGz8 1
   have hfz8_2:=zak HGz8 2
   clear HGz8 hgz8
   go_enter Tryz.func171,Tryz.ntmps171
   go_wp2
   repeat (go_quiet (fail);try go_wp2)
   go_ret
   exact ⟨by first|rfl|(simp [zaz,zay]<;>rfl)|(simp [*,zaz,zay]<;>rfl),by repeat (first|(with_reducible first|exact HI0.out|apply ze.alloc|apply ze.drewN|apply ze.drew|apply ze.set_1|apply ze.set_2)|exact HI0.out),by repeat (first|(with_reducible first|exact HB.out|apply zz|apply zl|apply zC|refine zn ?_ (ze.ge HI0.out))|exact HB.out),by repeat (first|(with_reducible first|exact HK.out|apply zA.set_|apply zL|apply zP|apply zM)|exact HK.out)⟩
  ·rw [if_neg c7] at H
   have c7b0:decide ((wrap64 (s0_1+1))<=(s0_0.length:Int))=false:=decide_eq_false c7
   clear c7
   simp only [Option.some.injEq,Prod.mk.injEq] at H
   obtain ⟨rfl,rfl,rfl⟩:=H
   obtain ⟨ASz9_0,cSz9_0,HGz9,hgz9,HSz9_0⟩:=HI0.out
   have hcz9_0:=cellS134_0 HGz9
   have hcz9_1:=cellS134_1 HGz9
   have hcz9_2:=cellS134_2 HGz9
   have hfz9_1:=zak HGz9 1
   have hfz9_2:=zak HGz9 2
   clear HGz9 hgz9
   go_enter Tryz.func171,Tryz.ntmps171
   go_wp2
   repeat (go_quiet (fail);try go_wp2)
   go_ret
   exact ⟨by first|rfl|(simp [zaz,zay]<;>rfl)|(simp [*,zaz,zay]<;>rfl),by repeat (first|(with_reducible first|exact HI0.out|apply ze.alloc|apply ze.drewN|apply ze.drew|apply ze.set_1|apply ze.set_2)|exact HI0.out),by repeat (first|(with_reducible first|exact HB.out|apply zz|apply zl|apply zC|refine zn ?_ (ze.ge HI0.out))|exact HB.out),by repeat (first|(with_reducible first|exact HK.out|apply zA.set_|apply zL|apply zP|apply zM)|exact HK.out)⟩
def zW.f (s0_0:List Int) (s0_1:Int) (s0_2:Int) (a1:Int):Option (Int×Int×Int):=if a1<=1 then (some (0,s0_1,s0_2)) else ((zbd.f s0_0 s0_1 s0_2).bind fun bt103=>(if a1>200 then ((zbd.f s0_0 bt103.2.1 bt103.2.2).bind fun bt106=>(if a1=0 then (none) else (some (Int.tmod (wrap64 ((wrap64 (bt103.1*256))+bt106.1)) a1,bt106.2.1,bt106.2.2)))) else (if a1=0 then (none) else (some (Int.tmod bt103.1 a1,bt103.2.1,bt103.2.2)))))
set_option maxHeartbeats 8000000 in
set_option maxRecDepth 100000 in
theorem zW.calls (g:Nat) (s0_0:List Int) (s0_1:Int) (s0_2:Int) (a1:Int) (r1:Int) (r2:Int) (r3:Int) (w0 w:World) (hI:ze w0 w g s0_0 s0_1 s0_2) (hB:Below w0.heap.size w0 w) (h:zW.f s0_0 s0_1 s0_2 a1=some (r1,r2,r3)):
  Calls Tryz.prog 75 #[.pointer (some ⟨g,0,none⟩),.int .i64 a1] w fun e w'=>e= .returned (.int .i64 r1)/\ze w0 w' g s0_0 r2 r3/\Below w0.heap.size w0 w'/\zA w w' g none:=by
 have HI0:=zh.mk hI
 have HK:=zh.mk (zA.refl w g none)
 have HL:=zh.mk hB.size
 clear hI
 have HW0:=zh.mk hB.size
 have HB:=zh.mk hB
 clear hB
 have H:(if a1<=1 then (some (0,s0_1,s0_2)) else ((zbd.f s0_0 s0_1 s0_2).bind fun bt103=>(if a1>200 then ((zbd.f s0_0 bt103.2.1 bt103.2.2).bind fun bt106=>(if a1=0 then (none) else (some (Int.tmod (wrap64 ((wrap64 (bt103.1*256))+bt106.1)) a1,bt106.2.1,bt106.2.2)))) else (if a1=0 then (none) else (some (Int.tmod bt103.1 a1,bt103.2.1,bt103.2.2))))))=some (r1,r2,r3):=h
 clear h
 by_cases c3:a1<=1
 ·rw [if_pos c3] at H
  have c3b0:decide (a1<=1)=true:=decide_eq_true c3
  clear c3
  simp only [Option.some.injEq,Prod.mk.injEq] at H
  obtain ⟨rfl,rfl,rfl⟩:=H
  go_enter Tryz.func75,Tryz.ntmps75
  go_wp2
  go_ret
  exact ⟨by first|rfl|(simp [zaz,zay]<;>rfl)|(simp [*,zaz,zay]<;>rfl),by repeat (first|(with_reducible first|exact HI0.out|apply ze.alloc|apply ze.drewN|apply ze.drew|apply ze.set_1|apply ze.set_2)|exact HI0.out),by repeat (first|(with_reducible first|exact HB.out|apply zz|apply zl|apply zC|refine zn ?_ (ze.ge HI0.out))|exact HB.out),by repeat (first|(with_reducible first|exact HK.out|apply zA.set_|apply zL|apply zP|apply zM)|exact HK.out)⟩
 ·rw [if_neg c3] at H
  have c3b0:decide (a1<=1)=false:=decide_eq_false c3
  clear c3
  replace H:=Option.bind_eq_some_iff.mp H
  obtain ⟨⟨t103,t104,t105⟩,A40,H⟩:=H
  replace H:(if a1>200 then ((zbd.f s0_0 t104 t105).bind fun bt106=>(if a1=0 then (none) else (some (Int.tmod (wrap64 ((wrap64 (t103*256))+bt106.1)) a1,bt106.2.1,bt106.2.2)))) else (if a1=0 then (none) else (some (Int.tmod t103 a1,t104,t105))))=some (r1,r2,r3):=H
  have A4:=zh.mk A40
  clear A40
  by_cases c5:a1>200
  ·rw [if_pos c5] at H
   have c5b0:decide (200<a1)=true:=decide_eq_true c5
   clear c5
   replace H:=Option.bind_eq_some_iff.mp H
   obtain ⟨⟨t106,t107,t108⟩,A60,H⟩:=H
   replace H:(if a1=0 then (none) else (some (Int.tmod (wrap64 ((wrap64 (t103*256))+t106)) a1,t107,t108)))=some (r1,r2,r3):=H
   have A6:=zh.mk A60
   clear A60
   by_cases c7:a1=0
   ·rw [if_pos c7] at H
    exact absurd H (by simp)
   ·rw [if_neg c7] at H
    have c7b0:(a1==0)=false:=beq_eq_false_iff_ne.mpr c7
    have c7b1:(a1 != 0)=true:=bne_iff_ne.mpr c7
    simp only [Option.some.injEq,Prod.mk.injEq] at H
    obtain ⟨rfl,rfl,rfl⟩:=H
    go_enter Tryz.func75,Tryz.ntmps75
    go_wp2_with (first|((with_reducible refine zat (f:=171) rfl ?_);refine zcf (some 9) rfl rfl Tryz.func171 (by kernel_rfl) rfl #[.pointer (some ⟨g,0,none⟩)] rfl (by (try simp only [List.map_toArray,List.map_cons,List.map_nil]);first|done|rfl|(simp only [List.length_drop,List.length_take];rfl)) ?_;(with_reducible refine (zbd.calls g s0_0 s0_1 s0_2 t103 t104 t105 w0 _ ?side1 ?side2 A4.out).mono ?_);(case side1=>repeat (first|(with_reducible first|exact HI0.out|apply ze.alloc|apply ze.drewN|apply ze.drew|apply ze.set_1|apply ze.set_2)|exact HI0.out));(case side2=>repeat (first|(with_reducible first|exact HB.out|apply zz|apply zl|apply zC|refine zn ?_ (ze.ge HI0.out))|exact HB.out));rintro e w8 ⟨rfl,hi,hb,hk⟩;refine ⟨_,rfl,?_⟩;have n0_:=zh.mk (zA.trans (by repeat (first|(with_reducible first|exact HK.out|apply zA.set_|apply zL|apply zP|apply zM)|exact HK.out)) hk (.inl rfl));have n1_:=zh.mk (hb);have n2_:=zh.mk (hi);clear HK;clear HB;clear HI0;have HK:=n0_;have HB:=n1_;have HI0:=n2_;clear n0_ n1_ n2_;(try clear hb);(try clear hb2);(try clear hk);(try clear hi))|((with_reducible refine zat (f:=171) rfl ?_);refine zcf (some 15) rfl rfl Tryz.func171 (by kernel_rfl) rfl #[.pointer (some ⟨g,0,none⟩)] rfl (by (try simp only [List.map_toArray,List.map_cons,List.map_nil]);first|done|rfl|(simp only [List.length_drop,List.length_take];rfl)) ?_;(with_reducible refine (zbd.calls g s0_0 t104 t105 t106 t107 t108 w0 _ ?side1 ?side2 A6.out).mono ?_);(case side1=>repeat (first|(with_reducible first|exact HI0.out|apply ze.alloc|apply ze.drewN|apply ze.drew|apply ze.set_1|apply ze.set_2)|exact HI0.out));(case side2=>repeat (first|(with_reducible first|exact HB.out|apply zz|apply zl|apply zC|refine zn ?_ (ze.ge HI0.out))|exact HB.out));rintro e w9 ⟨rfl,hi,hb,hk⟩;refine ⟨_,rfl,?_⟩;have n0_:=zh.mk (zA.trans (by repeat (first|(with_reducible first|exact HK.out|apply zA.set_|apply zL|apply zP|apply zM)|exact HK.out)) hk (.inl rfl));have n1_:=zh.mk (hb);have n2_:=zh.mk (hi);clear HK;clear HB;clear HI0;have HK:=n0_;have HB:=n1_;have HI0:=n2_;clear n0_ n1_ n2_;(try clear hb);(try clear hb2);(try clear hk);(try clear hi)))
    go_ret
    exact ⟨by first|rfl|(simp [zaz,zay]<;>rfl)|(simp [*,zaz,zay]<;>rfl),by repeat (first|(with_reducible first|exact HI0.out|apply ze.alloc|apply ze.drewN|apply ze.drew|apply ze.set_1|apply ze.set_2)|exact HI0.out),by repeat (first|(with_reducible first|exact HB.out|apply zz|apply zl|apply zC|refine zn ?_ (ze.ge HI0.out))|exact HB.out),by repeat (first|(with_reducible first|exact HK.out|apply zA.set_|apply zL|apply zP|apply zM)|exact HK.out)⟩
  ·rw [if_neg c5] at H
   have c5b0:decide (200<a1)=false:=decide_eq_false c5
   clear c5
   by_cases c10:a1=0
   ·rw [if_pos c10] at H
    exact absurd H (by simp)
   ·rw [if_neg c10] at H
    have c10b0:(a1==0)=false:=beq_eq_false_iff_ne.mpr c10
    have c10b1:(a1 != 0)=true:=bne_iff_ne.mpr c10
    simp only [Option.some.injEq,Prod.mk.injEq] at H
    obtain ⟨rfl,rfl,rfl⟩:=H
    go_enter Tryz.func75,Tryz.ntmps75
    go_wp2_with (first|((with_reducible refine zat (f:=171) rfl ?_);refine zcf (some 9) rfl rfl Tryz.func171 (by kernel_rfl) rfl #[.pointer (some ⟨g,0,none⟩)] rfl (by (try simp only [List.map_toArray,List.map_cons,List.map_nil]);first|done|rfl|(simp only [List.length_drop,List.length_take];rfl)) ?_;(with_reducible refine (zbd.calls g s0_0 s0_1 s0_2 t103 t104 t105 w0 _ ?side1 ?side2 A4.out).mono ?_);(case side1=>repeat (first|(with_reducible first|exact HI0.out|apply ze.alloc|apply ze.drewN|apply ze.drew|apply ze.set_1|apply ze.set_2)|exact HI0.out));(case side2=>repeat (first|(with_reducible first|exact HB.out|apply zz|apply zl|apply zC|refine zn ?_ (ze.ge HI0.out))|exact HB.out));rintro e w11 ⟨rfl,hi,hb,hk⟩;refine ⟨_,rfl,?_⟩;have n0_:=zh.mk (zA.trans (by repeat (first|(with_reducible first|exact HK.out|apply zA.set_|apply zL|apply zP|apply zM)|exact HK.out)) hk (.inl rfl));have n1_:=zh.mk (hb);have n2_:=zh.mk (hi);clear HK;clear HB;clear HI0;have HK:=n0_;have HB:=n1_;have HI0:=n2_;clear n0_ n1_ n2_;(try clear hb);(try clear hb2);(try clear hk);(try clear hi)))
    go_ret
    exact ⟨by first|rfl|(simp [zaz,zay]<;>rfl)|(simp [*,zaz,zay]<;>rfl),by repeat (first|(with_reducible first|exact HI0.out|apply ze.alloc|apply ze.drewN|apply ze.drew|apply ze.set_1|apply ze.set_2)|exact HI0.out),by repeat (first|(with_reducible first|exact HB.out|apply zz|apply zl|apply zC|refine zn ?_ (ze.ge HI0.out))|exact HB.out),by repeat (first|(with_reducible first|exact HK.out|apply zA.set_|apply zL|apply zP|apply zM)|exact HK.out)⟩
def spec_l12Wgs.f  : Option (Int×Int×Int):=some (6378137000,1000000000,298257223563)
set_option maxHeartbeats 8000000 in
set_option maxRecDepth 100000 in
theorem spec_l12Wgs.calls  (r1:Int) (r2:Int) (r3:Int) (w:World) (h:spec_l12Wgs.f  = some (r1,r2,r3)):
  Calls Tryz.prog 108 #[] w fun e w'=>e= .returned (.agg #[.int .i64 r1,.int .i64 r2,.int .i64 r3])/\Below w.heap.size w w':=by
 have hu57:=Tryz.underlying57
 have HB:=zh.mk (Below.refl w.heap.size w)
 have H:(some (6378137000,1000000000,298257223563))=some (r1,r2,r3):=h
 clear h
 simp only [Option.some.injEq,Prod.mk.injEq] at H
 obtain ⟨rfl,rfl,rfl⟩:=H
 go_enter Tryz.func108,Tryz.ntmps108
 go_wp2_with (first|((with_reducible refine zcT (N:=0) rfl ?_);refine zdJ ?hg (N:=0) ?hd (cs:=#[.int .i64 0,.int .i64 0,.int .i64 0]) (t:=57) ?hr ?_;(case hd=>rfl);(case hg=>rfl);(case hr=>first|(go_simp;done)|(go_simp;rfl));intro gb109 hg w1 hbox hb;have n0_:=zh.mk (zbs (by repeat (first|(with_reducible first|exact HB.out|apply zz|apply zl|apply zC)|exact HB.out)) hb);have n1_:=zh.mk (hbox);have n2_:=zh.mk ((by rw [hg];exact (zcB (by repeat (first|(with_reducible first|exact HB.out|apply zz|apply zl|apply zC)|exact HB.out))):w.heap.size<=gb109));have n3_:=zh.mk ((by rw [hg];exact (zcB (by repeat (first|(with_reducible first|exact HB.out|apply zz|apply zl|apply zC)|exact HB.out))):w.heap.size<=gb109));clear HB;have HB:=n0_;have BK109:=n1_;have GW109:=n2_;have GE109:=n3_;clear n0_ n1_ n2_ n3_;clear hb hbox hg;have hcz2_0:w1.cell? ⟨gb109,0,none⟩=some (.int .i64 0):=(zaF BK109.out 0).trans rfl;have hcz2_1:w1.cell? ⟨gb109,1,none⟩=some (.int .i64 0):=(zaF BK109.out 1).trans rfl;have hcz2_2:w1.cell? ⟨gb109,2,none⟩=some (.int .i64 0):=(zaF BK109.out 2).trans rfl;have hfz2_0:=zak BK109.out 0;have hfz2_1:=zak BK109.out 1;have hfz2_2:=zak BK109.out 2))
 refine bodyPost_ret (results_cell_row rfl _ _ gb109 57 #[.int .i64 6378137000,.int .i64 1000000000,.int .i64 298257223563] (0,0) _ rfl (by (with_reducible repeat (first|refine zo ?_ _|refine zB ?_|refine zt ?_ _));refine zbF (cs:=#[.int .i64 6378137000,.int .i64 1000000000,.int .i64 0]) ?_ 2 _ rfl;(with_reducible repeat (first|refine zo ?_ _|refine zB ?_|refine zt ?_ _));refine zbF (cs:=#[.int .i64 6378137000,.int .i64 0,.int .i64 0]) ?_ 1 _ rfl;(with_reducible repeat (first|refine zo ?_ _|refine zB ?_|refine zt ?_ _));refine zbF (cs:=#[.int .i64 0,.int .i64 0,.int .i64 0]) ?_ 0 _ rfl;(with_reducible repeat (first|refine zo ?_ _|refine zB ?_|refine zt ?_ _));exact BK109.out) Tryz.underlying57 rfl (by kernel_rfl)) rfl ?_
 exact ⟨by first|rfl|(simp [zaz,zay]<;>rfl)|(simp [*,zaz,zay]<;>rfl),by repeat (first|(with_reducible first|exact HB.out|apply zz|apply zl|apply zC|refine zn ?_ GE109.out)|exact HB.out)⟩
def zao.f (s0_0:List Int) (s0_1:Int) (s0_2:Int) (l1:List Int):Option (Int×Int×Int):=(zW.f s0_0 s0_1 s0_2 (l1.length:Int)).bind fun bt110=>(if 0<=bt110.1 then (if bt110.1<(l1.length:Int) then (some (rd l1 bt110.1,bt110.2.1,bt110.2.2)) else (none)) else (none))
set_option maxHeartbeats 8000000 in
set_option maxRecDepth 100000 in
theorem zao.calls (g:Nat) (s0_0:List Int) (s0_1:Int) (s0_2:Int) (A1:Option Addr) (c1:Nat) (l1:List Int) (r1:Int) (r2:Int) (r3:Int) (w0 w:World) (hI:ze w0 w g s0_0 s0_1 s0_2) (hB:Below w0.heap.size w0 w) (hr1:Kd.C (Kd.int .i64) w A1 l1.length l1) (hc1:l1.length<=c1) (hf1:∀ad,A1=some ad->0<l1.length->ad.block≠g) (h:zao.f s0_0 s0_1 s0_2 l1=some (r1,r2,r3)):
  Calls Tryz.prog 170 #[.pointer (some ⟨g,0,none⟩),.slice A1 l1.length c1] w fun e w'=>e= .returned (.int .i64 r1)/\ze w0 w' g s0_0 r2 r3/\Below w0.heap.size w0 w'/\zA w w' g none:=by
 have HR1:=zh.mk hr1
 have HC1:=zh.mk hc1
 clear hr1 hc1
 have HI0:=zh.mk hI
 have HK:=zh.mk (zA.refl w g none)
 have HL:=zh.mk hB.size
 clear hI
 have HW0:=zh.mk hB.size
 have HB:=zh.mk hB
 clear hB
 have H:((zW.f s0_0 s0_1 s0_2 (l1.length:Int)).bind fun bt110=>(if 0<=bt110.1 then (if bt110.1<(l1.length:Int) then (some (rd l1 bt110.1,bt110.2.1,bt110.2.2)) else (none)) else (none)))=some (r1,r2,r3):=h
 clear h
 replace H:=Option.bind_eq_some_iff.mp H
 obtain ⟨⟨t110,t111,t112⟩,A30,H⟩:=H
 replace H:(if 0<=t110 then (if t110<(l1.length:Int) then (some (rd l1 t110,t111,t112)) else (none)) else (none))=some (r1,r2,r3):=H
 have A3:=zh.mk A30
 clear A30
 by_cases c4:0<=t110
 ·rw [if_pos c4] at H
  have c4b0:decide (0<=t110)=true:=decide_eq_true c4
  clear c4
  by_cases c5:t110<(l1.length:Int)
  ·rw [if_pos c5] at H
   have c5b0:decide (t110<(l1.length:Int))=true:=decide_eq_true c5
   clear c5
   simp only [Option.some.injEq,Prod.mk.injEq] at H
   obtain ⟨rfl,rfl,rfl⟩:=H
   go_enter Tryz.func170,Tryz.ntmps170
   go_wp2_with (first|((with_reducible refine zat (f:=75) rfl ?_);refine zcf (some 9) rfl rfl Tryz.func75 (by kernel_rfl) rfl #[.pointer (some ⟨g,0,none⟩),.int .i64 (l1.length:Int)] rfl (by (try simp only [List.map_toArray,List.map_cons,List.map_nil]);first|done|rfl|(simp only [List.length_drop,List.length_take];rfl)) ?_;(with_reducible refine (zW.calls g s0_0 s0_1 s0_2 (l1.length:Int) t110 t111 t112 w0 _ ?side1 ?side2 A3.out).mono ?_);(case side1=>repeat (first|(with_reducible first|exact HI0.out|apply ze.alloc|apply ze.drewN|apply ze.drew|apply ze.set_1|apply ze.set_2)|exact HI0.out));(case side2=>repeat (first|(with_reducible first|exact HB.out|apply zz|apply zl|apply zC|refine zn ?_ (ze.ge HI0.out))|exact HB.out));rintro e w6 ⟨rfl,hi,hb,hk⟩;refine ⟨_,rfl,?_⟩;have n0_:=zh.mk (zA.trans (by repeat (first|(with_reducible first|exact HK.out|apply zA.set_|apply zL|apply zP|apply zM)|exact HK.out)) hk (.inl rfl));have n1_:=zh.mk (hb);have n2_:=zh.mk (hi);clear HK;clear HB;clear HI0;have HK:=n0_;have HB:=n1_;have HI0:=n2_;clear n0_ n1_ n2_;(try clear hb);(try clear hb2);(try clear hk);(try clear hi);have p113:0<=(t110:Int):=of_decide_eq_true (by first|(with_reducible assumption)|assumption);have q113:t110<(l1.length:Int):=of_decide_eq_true (by first|(with_reducible assumption)|assumption);obtain ⟨ad113,e113,hx113_0⟩:=Kd.at_int HR1.out t110 p113 q113;cases e113;replace hx113_0:=keep_cell HK.out hx113_0 (by first|(rw [add_block];exact hf1 _ rfl (by omega))|exact hf1 _ rfl (by omega)|exact hf1 ad113 rfl (by omega));replace p113:=eq_true p113;replace q113:=eq_true q113))
   go_ret
   exact ⟨by first|rfl|(simp [zaz,zay]<;>rfl)|(simp [*,zaz,zay]<;>rfl),by repeat (first|(with_reducible first|exact HI0.out|apply ze.alloc|apply ze.drewN|apply ze.drew|apply ze.set_1|apply ze.set_2)|exact HI0.out),by repeat (first|(with_reducible first|exact HB.out|apply zz|apply zl|apply zC|refine zn ?_ (ze.ge HI0.out))|exact HB.out),by repeat (first|(with_reducible first|exact HK.out|apply zA.set_|apply zL|apply zP|apply zM)|exact HK.out)⟩
  ·rw [if_neg c5] at H
   exact absurd H (by simp)
 ·rw [if_neg c4] at H
  exact absurd H (by simp)
def zeW.f (s0_0:List Int) (s0_1:Int) (s0_2:Int):Option (Int×Int×Int×Int×Int):=(zW.f s0_0 s0_1 s0_2 5).bind fun bt115=>(if bt115.1=0 then ((spec_l12Wgs.f).bind fun bt118=>(some (bt118.1,bt118.2.1,bt118.2.2,bt115.2.1,bt115.2.2))) else (if bt115.1=1 then ((zao.f s0_0 bt115.2.1 bt115.2.2 (([6371000000,1000,1000000,100000000000]:List Int))).bind fun bt124=>(some (bt124.1,0,1,bt124.2.1,bt124.2.2))) else (if bt115.1=2 then (some (6377397155,1000000,299152813,bt115.2.1,bt115.2.2)) else ((zW.f s0_0 bt115.2.1 bt115.2.2 9000000).bind fun bt127=>((zao.f s0_0 bt127.2.1 bt127.2.2 (([100,150,200,300,1000,100000]:List Int))).bind fun bt133=>(some (wrap64 (1000*(wrap64 (1+bt127.1))),1,bt133.1,bt133.2.1,bt133.2.2)))))))
set_option maxHeartbeats 8000000 in
set_option maxRecDepth 100000 in
theorem zeW.calls (g:Nat) (s0_0:List Int) (s0_1:Int) (s0_2:Int) (r1:Int) (r2:Int) (r3:Int) (r4:Int) (r5:Int) (w0 w:World) (hI:ze w0 w g s0_0 s0_1 s0_2) (hB:Below w0.heap.size w0 w) (h:zeW.f s0_0 s0_1 s0_2=some (r1,r2,r3,r4,r5)):
  Calls Tryz.prog 144 #[.pointer (some ⟨g,0,none⟩)] w fun e w'=>e= .returned (.agg #[.int .i64 r1,.int .i64 r2,.int .i64 r3])/\ze w0 w' g s0_0 r4 r5/\Below w0.heap.size w0 w'/\zA w w' g none:=by
 have hu57:=Tryz.underlying57
 have HI0:=zh.mk hI
 have HK:=zh.mk (zA.refl w g none)
 have HL:=zh.mk hB.size
 clear hI
 have HW0:=zh.mk hB.size
 have HB:=zh.mk hB
 clear hB
 have H:((zW.f s0_0 s0_1 s0_2 5).bind fun bt115=>(if bt115.1=0 then ((spec_l12Wgs.f).bind fun bt118=>(some (bt118.1,bt118.2.1,bt118.2.2,bt115.2.1,bt115.2.2))) else (if bt115.1=1 then ((zao.f s0_0 bt115.2.1 bt115.2.2 (([6371000000,1000,1000000,100000000000]:List Int))).bind fun bt124=>(some (bt124.1,0,1,bt124.2.1,bt124.2.2))) else (if bt115.1=2 then (some (6377397155,1000000,299152813,bt115.2.1,bt115.2.2)) else ((zW.f s0_0 bt115.2.1 bt115.2.2 9000000).bind fun bt127=>((zao.f s0_0 bt127.2.1 bt127.2.2 (([100,150,200,300,1000,100000]:List Int))).bind fun bt133=>(some (wrap64 (1000*(wrap64 (1+bt127.1))),1,bt133.1,bt133.2.1,bt133.2.2))))))))=some (r1,r2,r3,r4,r5):=h
 clear h
 replace H:=Option.bind_eq_some_iff.mp H
 obtain ⟨⟨t115,t116,t117⟩,A20,H⟩:=H
 replace H:(if t115=0 then ((spec_l12Wgs.f).bind fun bt118=>(some (bt118.1,bt118.2.1,bt118.2.2,t116,t117))) else (if t115=1 then ((zao.f s0_0 t116 t117 (([6371000000,1000,1000000,100000000000]:List Int))).bind fun bt124=>(some (bt124.1,0,1,bt124.2.1,bt124.2.2))) else (if t115=2 then (some (6377397155,1000000,299152813,t116,t117)) else ((zW.f s0_0 t116 t117 9000000).bind fun bt127=>((zao.f s0_0 bt127.2.1 bt127.2.2 (([100,150,200,300,1000,100000]:List Int))).bind fun bt133=>(some (wrap64 (1000*(wrap64 (1+bt127.1))),1,bt133.1,bt133.2.1,bt133.2.2)))))))=some (r1,r2,r3,r4,r5):=H
 have A2:=zh.mk A20
 clear A20
 by_cases c3:t115=0
 ·rw [if_pos c3] at H
  have c3b0:(t115==0)=true:=beq_iff_eq.mpr c3
  have c3b1:(t115 != 0)=false:=bne_eq_false_iff_eq.mpr c3
  clear c3
  replace H:=Option.bind_eq_some_iff.mp H
  obtain ⟨⟨t118,t119,t120⟩,A40,H⟩:=H
  replace H:(some (t118,t119,t120,t116,t117))=some (r1,r2,r3,r4,r5):=H
  have A4:=zh.mk A40
  clear A40
  simp only [Option.some.injEq,Prod.mk.injEq] at H
  obtain ⟨rfl,rfl,rfl,rfl,rfl⟩:=H
  go_enter Tryz.func144,Tryz.ntmps144
  go_wp2_with (first|((with_reducible refine zcT (N:=2) rfl ?_);refine zdJ ?hg (N:=2) ?hd (cs:=#[.int .i64 0,.int .i64 0,.int .i64 0]) (t:=57) ?hr ?_;(case hd=>rfl);(case hg=>rfl);(case hr=>first|(go_simp;done)|(go_simp;rfl));intro gb114 hg w5 hbox hb;have n0_:=zh.mk (ze.below (by repeat (first|(with_reducible first|exact HI0.out|apply ze.alloc|apply ze.drewN|apply ze.drew|apply ze.set_1|apply ze.set_2)|exact HI0.out)) hb);have n1_:=zh.mk (zA.trans (by repeat (first|(with_reducible first|exact HK.out|apply zA.set_|apply zL|apply zP|apply zM)|exact HK.out)) (zA.of_below hb g none) (.inl rfl));have n2_:=zh.mk (zbs (by repeat (first|(with_reducible first|exact HB.out|apply zz|apply zl|apply zC|refine zn ?_ (ze.ge HI0.out))|exact HB.out)) hb);have n3_:=zh.mk (hbox);have n4_:=zh.mk ((by rw [hg];exact (zce (w:=w) (g:=g) (row:=none) (by repeat (first|(with_reducible first|exact HK.out|apply zA.set_|apply zL|apply zP|apply zM)|exact HK.out))):w.heap.size<=gb114));have n5_:=zh.mk ((Nat.le_trans HW0.out (by rw [hg];exact (zce (w:=w) (g:=g) (row:=none) (by repeat (first|(with_reducible first|exact HK.out|apply zA.set_|apply zL|apply zP|apply zM)|exact HK.out))):w.heap.size<=gb114):w0.heap.size<=gb114));have n6_:=zh.mk ((by rw [hg];exact Nat.ne_of_lt (ze.lt (show ze w0 _ g s0_0 s0_1 s0_2 from by repeat (first|(with_reducible first|exact HI0.out|apply ze.alloc|apply ze.drewN|apply ze.drew|apply ze.set_1|apply ze.set_2)|exact HI0.out))):g≠gb114));have n7_:=zh.mk ((by rw [hg];exact Nat.ne_of_gt (ze.lt (show ze w0 _ g s0_0 s0_1 s0_2 from by repeat (first|(with_reducible first|exact HI0.out|apply ze.alloc|apply ze.drewN|apply ze.drew|apply ze.set_1|apply ze.set_2)|exact HI0.out))):gb114≠g));clear HI0;clear HK;clear HB;have HI0:=n0_;have HK:=n1_;have HB:=n2_;have BK114:=n3_;have GW114:=n4_;have GE114:=n5_;have NB0_114:=n6_;have NB114_0:=n7_;clear n0_ n1_ n2_ n3_ n4_ n5_ n6_ n7_;clear hb hbox hg)|((with_reducible refine zat (f:=75) rfl ?_);refine zcf (some 5) rfl rfl Tryz.func75 (by kernel_rfl) rfl #[.pointer (some ⟨g,0,none⟩),.int .i64 5] rfl (by (try simp only [List.map_toArray,List.map_cons,List.map_nil]);first|done|rfl|(simp only [List.length_drop,List.length_take];rfl)) ?_;(with_reducible refine (zW.calls g s0_0 s0_1 s0_2 5 t115 t116 t117 w0 _ ?side1 ?side2 A2.out).mono ?_);(case side1=>repeat (first|(with_reducible first|exact HI0.out|apply ze.alloc|apply ze.drewN|apply ze.drew|apply ze.set_1|apply ze.set_2|refine ze.far ?_ NB0_114.out _)|exact HI0.out));(case side2=>repeat (first|(with_reducible first|exact HB.out|apply zz|apply zl|apply zC|refine zn ?_ (ze.ge HI0.out)|refine zn ?_ GE114.out)|exact HB.out));rintro e w6 ⟨rfl,hi,hb,hk⟩;refine ⟨_,rfl,?_⟩;have n0_:=zh.mk (zA.blk hk (g':=gb114) (o:= .cells #[.int .i64 0,.int .i64 0,.int .i64 0] 57 (0,0)) (by (with_reducible repeat (first|refine zo ?_ _|refine zB ?_|refine zt ?_ _));exact BK114.out) NB114_0.out (by simp));have n1_:=zh.mk (zA.trans (by repeat (first|(with_reducible first|exact HK.out|apply zA.set_|apply zL|apply zP|apply zM|refine zaN ?_ GW114.out _)|exact HK.out)) hk (.inl rfl));have n2_:=zh.mk (hb);have n3_:=zh.mk (hi);clear BK114;clear HK;clear HB;clear HI0;have BK114:=n0_;have HK:=n1_;have HB:=n2_;have HI0:=n3_;clear n0_ n1_ n2_ n3_;(try clear hb);(try clear hb2);(try clear hk);(try clear hi))|((with_reducible refine zat (f:=108) rfl ?_);refine zcf (some 8) rfl rfl Tryz.func108 (by kernel_rfl) rfl #[] rfl (by (try simp only [List.map_toArray,List.map_cons,List.map_nil]);first|done|rfl|(simp only [List.length_drop,List.length_take];rfl)) ?_;(with_reducible refine (spec_l12Wgs.calls  t118 t119 t120 _ A4.out).mono ?_);rintro e w7 ⟨rfl,hb⟩;refine ⟨_,rfl,?_⟩;have n0_:=zh.mk (ze.below (by repeat (first|(with_reducible first|exact HI0.out|apply ze.alloc|apply ze.drewN|apply ze.drew|apply ze.set_1|apply ze.set_2|refine ze.far ?_ NB0_114.out _)|exact HI0.out)) hb);have n1_:=zh.mk (zbg (g:=gb114) (o:= .cells #[.int .i64 0,.int .i64 0,.int .i64 0] 57 (0,0)) (by (with_reducible repeat (first|refine zo ?_ _|refine zB ?_|refine zt ?_ _));exact BK114.out) hb);have n2_:=zh.mk (zA.trans (by repeat (first|(with_reducible first|exact HK.out|apply zA.set_|apply zL|apply zP|apply zM|refine zaN ?_ GW114.out _)|exact HK.out)) (zA.of_below hb g none) (.inl rfl));have n3_:=zh.mk (zbs (by repeat (first|(with_reducible first|exact HB.out|apply zz|apply zl|apply zC|refine zn ?_ (ze.ge HI0.out)|refine zn ?_ GE114.out)|exact HB.out)) hb);clear HI0;clear BK114;clear HK;clear HB;have HI0:=n0_;have BK114:=n1_;have HK:=n2_;have HB:=n3_;clear n0_ n1_ n2_ n3_;(try clear hb);(try clear hb2);(try clear hk);(try clear hi);have hnb8:=NB114_0.out;have hnc8:=NB0_114.out;have hcz9_0:w7.cell? ⟨gb114,0,none⟩=some (.int .i64 0):=(zaF BK114.out 0).trans rfl;have hcz9_1:w7.cell? ⟨gb114,1,none⟩=some (.int .i64 0):=(zaF BK114.out 1).trans rfl;have hcz9_2:w7.cell? ⟨gb114,2,none⟩=some (.int .i64 0):=(zaF BK114.out 2).trans rfl;have hfz9_0:=zak BK114.out 0;have hfz9_1:=zak BK114.out 1;have hfz9_2:=zak BK114.out 2))
  refine bodyPost_ret (results_cell_row rfl _ _ gb114 57 #[.int .i64 t118,.int .i64 t119,.int .i64 t120] (0,0) _ rfl (by (with_reducible repeat (first|refine zo ?_ _|refine zB ?_|refine zt ?_ _));refine zbF (cs:=#[.int .i64 t118,.int .i64 t119,.int .i64 0]) ?_ 2 _ rfl;(with_reducible repeat (first|refine zo ?_ _|refine zB ?_|refine zt ?_ _));refine zbF (cs:=#[.int .i64 t118,.int .i64 0,.int .i64 0]) ?_ 1 _ rfl;(with_reducible repeat (first|refine zo ?_ _|refine zB ?_|refine zt ?_ _));refine zbF (cs:=#[.int .i64 0,.int .i64 0,.int .i64 0]) ?_ 0 _ rfl;(with_reducible repeat (first|refine zo ?_ _|refine zB ?_|refine zt ?_ _));exact BK114.out) Tryz.underlying57 rfl (by kernel_rfl)) rfl ?_
  exact ⟨by first|rfl|(simp [zaz,zay]<;>rfl)|(simp [*,zaz,zay]<;>rfl),by repeat (first|(with_reducible first|exact HI0.out|apply ze.alloc|apply ze.drewN|apply ze.drew|apply ze.set_1|apply ze.set_2|refine ze.far ?_ NB0_114.out _)|exact HI0.out),by repeat (first|(with_reducible first|exact HB.out|apply zz|apply zl|apply zC|refine zn ?_ (ze.ge HI0.out)|refine zn ?_ GE114.out)|exact HB.out),by repeat (first|(with_reducible first|exact HK.out|apply zA.set_|apply zL|apply zP|apply zM|refine zaN ?_ GW114.out _)|exact HK.out)⟩
 ·rw [if_neg c3] at H
  have c3b0:(t115==0)=false:=beq_eq_false_iff_ne.mpr c3
  have c3b1:(t115 != 0)=true:=bne_iff_ne.mpr c3
  by_cases c10:t115=1
  ·rw [if_pos c10] at H
   have c10b0:(t115==1)=true:=beq_iff_eq.mpr c10
   have c10b1:(t115 != 1)=false:=bne_eq_false_iff_eq.mpr c10
   clear c10
   obtain ⟨y121,hy121⟩:∃y_:List Int,y_=(([6371000000,1000,1000000,100000000000]:List Int)):=⟨_,rfl⟩
   replace H:((zao.f s0_0 t116 t117 y121).bind fun bt124=>(some (bt124.1,0,1,bt124.2.1,bt124.2.2)))=some (r1,r2,r3,r4,r5):=by first|(rw [hy121];with_reducible exact H)|(have H2_:=(Option.bind_some _ _).symm.trans H;rw [hy121];with_reducible exact H2_)|(have H2_:=(Option.bind_some _ _).symm.trans H;with_reducible exact H2_)|with_reducible exact H|(rw [hy121];exact H)|exact H
   have Ny121:=zh.mk hy121
   clear hy121
   replace H:=Option.bind_eq_some_iff.mp H
   obtain ⟨⟨t124,t125,t126⟩,A110,H⟩:=H
   replace H:(some (t124,0,1,t125,t126))=some (r1,r2,r3,r4,r5):=H
   have A11:=zh.mk A110
   clear A110
   simp only [Option.some.injEq,Prod.mk.injEq] at H
   obtain ⟨rfl,rfl,rfl,rfl,rfl⟩:=H
   go_enter Tryz.func144,Tryz.ntmps144
   go_wp2_with (first|((with_reducible refine zcT (N:=2) rfl ?_);refine zdJ ?hg (N:=2) ?hd (cs:=#[.int .i64 0,.int .i64 0,.int .i64 0]) (t:=57) ?hr ?_;(case hd=>rfl);(case hg=>rfl);(case hr=>first|(go_simp;done)|(go_simp;rfl));intro gb114 hg w12 hbox hb;have n0_:=zh.mk (ze.below (by repeat (first|(with_reducible first|exact HI0.out|apply ze.alloc|apply ze.drewN|apply ze.drew|apply ze.set_1|apply ze.set_2)|exact HI0.out)) hb);have n1_:=zh.mk (zA.trans (by repeat (first|(with_reducible first|exact HK.out|apply zA.set_|apply zL|apply zP|apply zM)|exact HK.out)) (zA.of_below hb g none) (.inl rfl));have n2_:=zh.mk (zbs (by repeat (first|(with_reducible first|exact HB.out|apply zz|apply zl|apply zC|refine zn ?_ (ze.ge HI0.out))|exact HB.out)) hb);have n3_:=zh.mk (hbox);have n4_:=zh.mk ((by rw [hg];exact (zce (w:=w) (g:=g) (row:=none) (by repeat (first|(with_reducible first|exact HK.out|apply zA.set_|apply zL|apply zP|apply zM)|exact HK.out))):w.heap.size<=gb114));have n5_:=zh.mk ((Nat.le_trans HW0.out (by rw [hg];exact (zce (w:=w) (g:=g) (row:=none) (by repeat (first|(with_reducible first|exact HK.out|apply zA.set_|apply zL|apply zP|apply zM)|exact HK.out))):w.heap.size<=gb114):w0.heap.size<=gb114));have n6_:=zh.mk ((by rw [hg];exact Nat.ne_of_lt (ze.lt (show ze w0 _ g s0_0 s0_1 s0_2 from by repeat (first|(with_reducible first|exact HI0.out|apply ze.alloc|apply ze.drewN|apply ze.drew|apply ze.set_1|apply ze.set_2)|exact HI0.out))):g≠gb114));have n7_:=zh.mk ((by rw [hg];exact Nat.ne_of_gt (ze.lt (show ze w0 _ g s0_0 s0_1 s0_2 from by repeat (first|(with_reducible first|exact HI0.out|apply ze.alloc|apply ze.drewN|apply ze.drew|apply ze.set_1|apply ze.set_2)|exact HI0.out))):gb114≠g));clear HI0;clear HK;clear HB;have HI0:=n0_;have HK:=n1_;have HB:=n2_;have BK114:=n3_;have GW114:=n4_;have GE114:=n5_;have NB0_114:=n6_;have NB114_0:=n7_;clear n0_ n1_ n2_ n3_ n4_ n5_ n6_ n7_;clear hb hbox hg)|((with_reducible refine zat (f:=75) rfl ?_);refine zcf (some 5) rfl rfl Tryz.func75 (by kernel_rfl) rfl #[.pointer (some ⟨g,0,none⟩),.int .i64 5] rfl (by (try simp only [List.map_toArray,List.map_cons,List.map_nil]);first|done|rfl|(simp only [List.length_drop,List.length_take];rfl)) ?_;(with_reducible refine (zW.calls g s0_0 s0_1 s0_2 5 t115 t116 t117 w0 _ ?side1 ?side2 A2.out).mono ?_);(case side1=>repeat (first|(with_reducible first|exact HI0.out|apply ze.alloc|apply ze.drewN|apply ze.drew|apply ze.set_1|apply ze.set_2|refine ze.far ?_ NB0_114.out _)|exact HI0.out));(case side2=>repeat (first|(with_reducible first|exact HB.out|apply zz|apply zl|apply zC|refine zn ?_ (ze.ge HI0.out)|refine zn ?_ GE114.out)|exact HB.out));rintro e w13 ⟨rfl,hi,hb,hk⟩;refine ⟨_,rfl,?_⟩;have n0_:=zh.mk (zA.blk hk (g':=gb114) (o:= .cells #[.int .i64 0,.int .i64 0,.int .i64 0] 57 (0,0)) (by (with_reducible repeat (first|refine zo ?_ _|refine zB ?_|refine zt ?_ _));exact BK114.out) NB114_0.out (by simp));have n1_:=zh.mk (zA.trans (by repeat (first|(with_reducible first|exact HK.out|apply zA.set_|apply zL|apply zP|apply zM|refine zaN ?_ GW114.out _)|exact HK.out)) hk (.inl rfl));have n2_:=zh.mk (hb);have n3_:=zh.mk (hi);clear BK114;clear HK;clear HB;clear HI0;have BK114:=n0_;have HK:=n1_;have HB:=n2_;have HI0:=n3_;clear n0_ n1_ n2_ n3_;(try clear hb);(try clear hb2);(try clear hk);(try clear hi))|((with_reducible refine zcT (N:=12) rfl ?_);refine Kd.R_lit (Kd.int .i64) _ 2 ?hg (N:=12) ?hd (xs:=([6371000000,1000,1000000,100000000000]:List Int)) (inner:= [.int .i64 6371000000,.int .i64 1000,.int .i64 1000000,.int .i64 100000000000]) (ok:=fun _=>True) (okp:=fun _=>True) ?hr ?hp (fun _ hk=>hk) trivial (Below.refl _ _) (Nat.le_refl _) (by simp) ?_;(case hd=>rfl);(case hg=>rfl);(case hr=>first|(go_simp;done)|(go_simp;rfl));(case hp=>exact (Reps.one (show Kd.M (Kd.int .i64) _ _ _ 6371000000 [.int .i64 6371000000] from rfl) (Reps.one (show Kd.M (Kd.int .i64) _ _ _ 1000 [.int .i64 1000] from rfl) (Reps.one (show Kd.M (Kd.int .i64) _ _ _ 1000000 [.int .i64 1000000] from rfl) (Reps.one (show Kd.M (Kd.int .i64) _ _ _ 100000000000 [.int .i64 100000000000] from rfl) (Reps.none _ _))))));intro v122 w14 ho15 hb hg_ hnew_;clear hg_ hnew_;(first|rw [<- Ny121.out] at ho15|(simp only [Int.reduceToNat] at ho15;rw [<- Ny121.out] at ho15));have n0_:=zh.mk (Kd.R_lower ho15 (zce (w:=w) (g:=g) (row:=none) (by repeat (first|(with_reducible first|exact HK.out|apply zA.set_|apply zL|apply zP|apply zM|refine zaN ?_ GW114.out _)|exact HK.out))));have n1_:=zh.mk (ze.below (by repeat (first|(with_reducible first|exact HI0.out|apply ze.alloc|apply ze.drewN|apply ze.drew|apply ze.set_1|apply ze.set_2|refine ze.far ?_ NB0_114.out _)|exact HI0.out)) hb);have n2_:=zh.mk (zbg (g:=gb114) (o:= .cells #[.int .i64 0,.int .i64 0,.int .i64 0] 57 (0,0)) (by (with_reducible repeat (first|refine zo ?_ _|refine zB ?_|refine zt ?_ _));exact BK114.out) hb);have n3_:=zh.mk (zA.trans (by repeat (first|(with_reducible first|exact HK.out|apply zA.set_|apply zL|apply zP|apply zM|refine zaN ?_ GW114.out _)|exact HK.out)) (zA.of_below hb g none) (.inl rfl));have n4_:=zh.mk (zbs (by repeat (first|(with_reducible first|exact HB.out|apply zz|apply zl|apply zC|refine zn ?_ (ze.ge HI0.out)|refine zn ?_ GE114.out)|exact HB.out)) hb);clear HI0;clear BK114;clear HK;clear HB;have HO123:=n0_;have HI0:=n1_;have BK114:=n2_;have HK:=n3_;have HB:=n4_;clear n0_ n1_ n2_ n3_ n4_;clear hb ho15;obtain ⟨Ao16,co16,eo16⟩:=Kd.R_slice HO123.out;subst eo16)|((with_reducible refine zat (f:=170) rfl ?_);refine zcf (some 13) rfl rfl Tryz.func170 (by kernel_rfl) rfl #[.pointer (some ⟨g,0,none⟩),.slice Ao16 y121.length co16] rfl (by (try simp only [List.map_toArray,List.map_cons,List.map_nil]);first|done|rfl|(simp only [List.length_drop,List.length_take];rfl)) ?_;(with_reducible refine (zao.calls g s0_0 t116 t117 _ _ y121 t124 t125 t126 w0 _ ?side1 ?side2 ?side3 ?side4 ?side5 A11.out).mono ?_);(case side1=>repeat (first|(with_reducible first|exact HI0.out|apply ze.alloc|apply ze.drewN|apply ze.drew|apply ze.set_1|apply ze.set_2|refine ze.far ?_ NB0_114.out _)|exact HI0.out));(case side2=>repeat (first|(with_reducible first|exact HB.out|apply zz|apply zl|apply zC|refine zn ?_ (ze.ge HI0.out)|refine zn ?_ GE114.out)|exact HB.out));(case side3=>repeat (first|exact (Kd.R_reads' HO123.out).2.2|(with_reducible refine Kd.C_alloc ?_ _)|(with_reducible refine Kd.C_drewN ?_ _)|(with_reducible refine Kd.C_drew ?_)));(case side4=>exact (Kd.R_reads' HO123.out).2.1);(case side5=>exact far_slice (ze.own_ne HI0.out HO123.out (by decide)));rintro e w17 ⟨rfl,hi,hb,hk⟩;refine ⟨_,rfl,?_⟩;have n0_:=zh.mk (zA.blk hk (g':=gb114) (o:= .cells #[.int .i64 0,.int .i64 0,.int .i64 0] 57 (0,0)) (by (with_reducible repeat (first|refine zo ?_ _|refine zB ?_|refine zt ?_ _));exact BK114.out) NB114_0.out (by simp));have n1_:=zh.mk (Kd.R_mono (Kd.R_keep (ze.apart (show ze w0 _ g s0_0 t116 t117 from by repeat (first|(with_reducible first|exact HI0.out|apply ze.alloc|apply ze.drewN|apply ze.drew|apply ze.set_1|apply ze.set_2|refine ze.far ?_ NB0_114.out _)|exact HI0.out)) (by (with_reducible repeat (first|apply Kd.R_alloc|apply Kd.R_drewN|apply Kd.R_drew));exact HO123.out) (by decide)) hk (fun _ h=>h.2)) (fun _ h=>h.1));have n2_:=zh.mk (zA.trans (by repeat (first|(with_reducible first|exact HK.out|apply zA.set_|apply zL|apply zP|apply zM|refine zaN ?_ GW114.out _)|exact HK.out)) hk (.inl rfl));have n3_:=zh.mk (hb);have n4_:=zh.mk (hi);clear BK114;clear HO123;clear HK;clear HB;clear HI0;have BK114:=n0_;have HO123:=n1_;have HK:=n2_;have HB:=n3_;have HI0:=n4_;clear n0_ n1_ n2_ n3_ n4_;(try clear hb);(try clear hb2);(try clear hk);(try clear hi);have hnb18:=NB114_0.out;have hnc18:=NB0_114.out;have hcz19_0:w17.cell? ⟨gb114,0,none⟩=some (.int .i64 0):=(zaF BK114.out 0).trans rfl;have hcz19_1:w17.cell? ⟨gb114,1,none⟩=some (.int .i64 0):=(zaF BK114.out 1).trans rfl;have hcz19_2:w17.cell? ⟨gb114,2,none⟩=some (.int .i64 0):=(zaF BK114.out 2).trans rfl;have hfz19_0:=zak BK114.out 0;have hfz19_1:=zak BK114.out 1;have hfz19_2:=zak BK114.out 2))
   refine bodyPost_ret (results_cell_row rfl _ _ gb114 57 #[.int .i64 t124,.int .i64 0,.int .i64 1] (0,0) _ rfl (by (with_reducible repeat (first|refine zo ?_ _|refine zB ?_|refine zt ?_ _));refine zbF (cs:=#[.int .i64 t124,.int .i64 0,.int .i64 0]) ?_ 2 _ rfl;(with_reducible repeat (first|refine zo ?_ _|refine zB ?_|refine zt ?_ _));refine zbF (cs:=#[.int .i64 t124,.int .i64 0,.int .i64 0]) ?_ 1 _ rfl;(with_reducible repeat (first|refine zo ?_ _|refine zB ?_|refine zt ?_ _));refine zbF (cs:=#[.int .i64 0,.int .i64 0,.int .i64 0]) ?_ 0 _ rfl;(with_reducible repeat (first|refine zo ?_ _|refine zB ?_|refine zt ?_ _));exact BK114.out) Tryz.underlying57 rfl (by kernel_rfl)) rfl ?_
   exact ⟨by first|rfl|(simp [zaz,zay]<;>rfl)|(simp [*,zaz,zay]<;>rfl),by repeat (first|(with_reducible first|exact HI0.out|apply ze.alloc|apply ze.drewN|apply ze.drew|apply ze.set_1|apply ze.set_2|refine ze.far ?_ NB0_114.out _)|exact HI0.out),by repeat (first|(with_reducible first|exact HB.out|apply zz|apply zl|apply zC|refine zn ?_ (ze.ge HI0.out)|refine zn ?_ GE114.out)|exact HB.out),by repeat (first|(with_reducible first|exact HK.out|apply zA.set_|apply zL|apply zP|apply zM|refine zaN ?_ GW114.out _)|exact HK.out)⟩
  ·rw [if_neg c10] at H
   have c10b0:(t115==1)=false:=beq_eq_false_iff_ne.mpr c10
   have c10b1:(t115 != 1)=true:=bne_iff_ne.mpr c10
   by_cases c20:t115=2
   ·rw [if_pos c20] at H
    have c20b0:(t115==2)=true:=beq_iff_eq.mpr c20
    have c20b1:(t115 != 2)=false:=bne_eq_false_iff_eq.mpr c20
    clear c20
    simp only [Option.some.injEq,Prod.mk.injEq] at H
    obtain ⟨rfl,rfl,rfl,rfl,rfl⟩:=H
    go_enter Tryz.func144,Tryz.ntmps144
    go_wp2_with (first|((with_reducible refine zcT (N:=2) rfl ?_);refine zdJ ?hg (N:=2) ?hd (cs:=#[.int .i64 0,.int .i64 0,.int .i64 0]) (t:=57) ?hr ?_;(case hd=>rfl);(case hg=>rfl);(case hr=>first|(go_simp;done)|(go_simp;rfl));intro gb114 hg w21 hbox hb;have n0_:=zh.mk (ze.below (by repeat (first|(with_reducible first|exact HI0.out|apply ze.alloc|apply ze.drewN|apply ze.drew|apply ze.set_1|apply ze.set_2)|exact HI0.out)) hb);have n1_:=zh.mk (zA.trans (by repeat (first|(with_reducible first|exact HK.out|apply zA.set_|apply zL|apply zP|apply zM)|exact HK.out)) (zA.of_below hb g none) (.inl rfl));have n2_:=zh.mk (zbs (by repeat (first|(with_reducible first|exact HB.out|apply zz|apply zl|apply zC|refine zn ?_ (ze.ge HI0.out))|exact HB.out)) hb);have n3_:=zh.mk (hbox);have n4_:=zh.mk ((by rw [hg];exact (zce (w:=w) (g:=g) (row:=none) (by repeat (first|(with_reducible first|exact HK.out|apply zA.set_|apply zL|apply zP|apply zM)|exact HK.out))):w.heap.size<=gb114));have n5_:=zh.mk ((Nat.le_trans HW0.out (by rw [hg];exact (zce (w:=w) (g:=g) (row:=none) (by repeat (first|(with_reducible first|exact HK.out|apply zA.set_|apply zL|apply zP|apply zM)|exact HK.out))):w.heap.size<=gb114):w0.heap.size<=gb114));have n6_:=zh.mk ((by rw [hg];exact Nat.ne_of_lt (ze.lt (show ze w0 _ g s0_0 s0_1 s0_2 from by repeat (first|(with_reducible first|exact HI0.out|apply ze.alloc|apply ze.drewN|apply ze.drew|apply ze.set_1|apply ze.set_2)|exact HI0.out))):g≠gb114));have n7_:=zh.mk ((by rw [hg];exact Nat.ne_of_gt (ze.lt (show ze w0 _ g s0_0 s0_1 s0_2 from by repeat (first|(with_reducible first|exact HI0.out|apply ze.alloc|apply ze.drewN|apply ze.drew|apply ze.set_1|apply ze.set_2)|exact HI0.out))):gb114≠g));clear HI0;clear HK;clear HB;have HI0:=n0_;have HK:=n1_;have HB:=n2_;have BK114:=n3_;have GW114:=n4_;have GE114:=n5_;have NB0_114:=n6_;have NB114_0:=n7_;clear n0_ n1_ n2_ n3_ n4_ n5_ n6_ n7_;clear hb hbox hg)|((with_reducible refine zat (f:=75) rfl ?_);refine zcf (some 5) rfl rfl Tryz.func75 (by kernel_rfl) rfl #[.pointer (some ⟨g,0,none⟩),.int .i64 5] rfl (by (try simp only [List.map_toArray,List.map_cons,List.map_nil]);first|done|rfl|(simp only [List.length_drop,List.length_take];rfl)) ?_;(with_reducible refine (zW.calls g s0_0 s0_1 s0_2 5 t115 t116 t117 w0 _ ?side1 ?side2 A2.out).mono ?_);(case side1=>repeat (first|(with_reducible first|exact HI0.out|apply ze.alloc|apply ze.drewN|apply ze.drew|apply ze.set_1|apply ze.set_2|refine ze.far ?_ NB0_114.out _)|exact HI0.out));(case side2=>repeat (first|(with_reducible first|exact HB.out|apply zz|apply zl|apply zC|refine zn ?_ (ze.ge HI0.out)|refine zn ?_ GE114.out)|exact HB.out));rintro e w22 ⟨rfl,hi,hb,hk⟩;refine ⟨_,rfl,?_⟩;have n0_:=zh.mk (zA.blk hk (g':=gb114) (o:= .cells #[.int .i64 0,.int .i64 0,.int .i64 0] 57 (0,0)) (by (with_reducible repeat (first|refine zo ?_ _|refine zB ?_|refine zt ?_ _));exact BK114.out) NB114_0.out (by simp));have n1_:=zh.mk (zA.trans (by repeat (first|(with_reducible first|exact HK.out|apply zA.set_|apply zL|apply zP|apply zM|refine zaN ?_ GW114.out _)|exact HK.out)) hk (.inl rfl));have n2_:=zh.mk (hb);have n3_:=zh.mk (hi);clear BK114;clear HK;clear HB;clear HI0;have BK114:=n0_;have HK:=n1_;have HB:=n2_;have HI0:=n3_;clear n0_ n1_ n2_ n3_;(try clear hb);(try clear hb2);(try clear hk);(try clear hi);have hnb23:=NB114_0.out;have hnc23:=NB0_114.out;have hcz24_0:w22.cell? ⟨gb114,0,none⟩=some (.int .i64 0):=(zaF BK114.out 0).trans rfl;have hcz24_1:w22.cell? ⟨gb114,1,none⟩=some (.int .i64 0):=(zaF BK114.out 1).trans rfl;have hcz24_2:w22.cell? ⟨gb114,2,none⟩=some (.int .i64 0):=(zaF BK114.out 2).trans rfl;have hfz24_0:=zak BK114.out 0;have hfz24_1:=zak BK114.out 1;have hfz24_2:=zak BK114.out 2))
    refine bodyPost_ret (results_cell_row rfl _ _ gb114 57 #[.int .i64 6377397155,.int .i64 1000000,.int .i64 299152813] (0,0) _ rfl (by (with_reducible repeat (first|refine zo ?_ _|refine zB ?_|refine zt ?_ _));refine zbF (cs:=#[.int .i64 6377397155,.int .i64 1000000,.int .i64 0]) ?_ 2 _ rfl;(with_reducible repeat (first|refine zo ?_ _|refine zB ?_|refine zt ?_ _));refine zbF (cs:=#[.int .i64 6377397155,.int .i64 0,.int .i64 0]) ?_ 1 _ rfl;(with_reducible repeat (first|refine zo ?_ _|refine zB ?_|refine zt ?_ _));refine zbF (cs:=#[.int .i64 0,.int .i64 0,.int .i64 0]) ?_ 0 _ rfl;(with_reducible repeat (first|refine zo ?_ _|refine zB ?_|refine zt ?_ _));exact BK114.out) Tryz.underlying57 rfl (by kernel_rfl)) rfl ?_
    exact ⟨by first|rfl|(simp [zaz,zay]<;>rfl)|(simp [*,zaz,zay]<;>rfl),by repeat (first|(with_reducible first|exact HI0.out|apply ze.alloc|apply ze.drewN|apply ze.drew|apply ze.set_1|apply ze.set_2|refine ze.far ?_ NB0_114.out _)|exact HI0.out),by repeat (first|(with_reducible first|exact HB.out|apply zz|apply zl|apply zC|refine zn ?_ (ze.ge HI0.out)|refine zn ?_ GE114.out)|exact HB.out),by repeat (first|(with_reducible first|exact HK.out|apply zA.set_|apply zL|apply zP|apply zM|refine zaN ?_ GW114.out _)|exact HK.out)⟩
   ·rw [if_neg c20] at H
    have c20b0:(t115==2)=false:=beq_eq_false_iff_ne.mpr c20
    have c20b1:(t115 != 2)=true:=bne_iff_ne.mpr c20
    replace H:=Option.bind_eq_some_iff.mp H
    obtain ⟨⟨t127,t128,t129⟩,A250,H⟩:=H
    replace H:((zao.f s0_0 t128 t129 (([100,150,200,300,1000,100000]:List Int))).bind fun bt133=>(some (wrap64 (1000*(wrap64 (1+t127))),1,bt133.1,bt133.2.1,bt133.2.2)))=some (r1,r2,r3,r4,r5):=H
    have A25:=zh.mk A250
    clear A250
    obtain ⟨y130,hy130⟩:∃y_:List Int,y_=(([100,150,200,300,1000,100000]:List Int)):=⟨_,rfl⟩
    replace H:((zao.f s0_0 t128 t129 y130).bind fun bt133=>(some (wrap64 (1000*(wrap64 (1+t127))),1,bt133.1,bt133.2.1,bt133.2.2)))=some (r1,r2,r3,r4,r5):=by first|(rw [hy130];with_reducible exact H)|(have H2_:=(Option.bind_some _ _).symm.trans H;rw [hy130];with_reducible exact H2_)|(have H2_:=(Option.bind_some _ _).symm.trans H;with_reducible exact H2_)|with_reducible exact H|(rw [hy130];exact H)|exact H
    have Ny130:=zh.mk hy130
    clear hy130
    replace H:=Option.bind_eq_some_iff.mp H
    obtain ⟨⟨t133,t134,t135⟩,A260,H⟩:=H
    replace H:(some (wrap64 (1000*(wrap64 (1+t127))),1,t133,t134,t135))=some (r1,r2,r3,r4,r5):=H
    have A26:=zh.mk A260
    clear A260
    simp only [Option.some.injEq,Prod.mk.injEq] at H
    obtain ⟨rfl,rfl,rfl,rfl,rfl⟩:=H
    go_enter Tryz.func144,Tryz.ntmps144
    go_wp2_with (first|((with_reducible refine zcT (N:=2) rfl ?_);refine zdJ ?hg (N:=2) ?hd (cs:=#[.int .i64 0,.int .i64 0,.int .i64 0]) (t:=57) ?hr ?_;(case hd=>rfl);(case hg=>rfl);(case hr=>first|(go_simp;done)|(go_simp;rfl));intro gb114 hg w27 hbox hb;have n0_:=zh.mk (ze.below (by repeat (first|(with_reducible first|exact HI0.out|apply ze.alloc|apply ze.drewN|apply ze.drew|apply ze.set_1|apply ze.set_2)|exact HI0.out)) hb);have n1_:=zh.mk (zA.trans (by repeat (first|(with_reducible first|exact HK.out|apply zA.set_|apply zL|apply zP|apply zM)|exact HK.out)) (zA.of_below hb g none) (.inl rfl));have n2_:=zh.mk (zbs (by repeat (first|(with_reducible first|exact HB.out|apply zz|apply zl|apply zC|refine zn ?_ (ze.ge HI0.out))|exact HB.out)) hb);have n3_:=zh.mk (hbox);have n4_:=zh.mk ((by rw [hg];exact (zce (w:=w) (g:=g) (row:=none) (by repeat (first|(with_reducible first|exact HK.out|apply zA.set_|apply zL|apply zP|apply zM)|exact HK.out))):w.heap.size<=gb114));have n5_:=zh.mk ((Nat.le_trans HW0.out (by rw [hg];exact (zce (w:=w) (g:=g) (row:=none) (by repeat (first|(with_reducible first|exact HK.out|apply zA.set_|apply zL|apply zP|apply zM)|exact HK.out))):w.heap.size<=gb114):w0.heap.size<=gb114));have n6_:=zh.mk ((by rw [hg];exact Nat.ne_of_lt (ze.lt (show ze w0 _ g s0_0 s0_1 s0_2 from by repeat (first|(with_reducible first|exact HI0.out|apply ze.alloc|apply ze.drewN|apply ze.drew|apply ze.set_1|apply ze.set_2)|exact HI0.out))):g≠gb114));have n7_:=zh.mk ((by rw [hg];exact Nat.ne_of_gt (ze.lt (show ze w0 _ g s0_0 s0_1 s0_2 from by repeat (first|(with_reducible first|exact HI0.out|apply ze.alloc|apply ze.drewN|apply ze.drew|apply ze.set_1|apply ze.set_2)|exact HI0.out))):gb114≠g));clear HI0;clear HK;clear HB;have HI0:=n0_;have HK:=n1_;have HB:=n2_;have BK114:=n3_;have GW114:=n4_;have GE114:=n5_;have NB0_114:=n6_;have NB114_0:=n7_;clear n0_ n1_ n2_ n3_ n4_ n5_ n6_ n7_;clear hb hbox hg)|((with_reducible refine zat (f:=75) rfl ?_);refine zcf (some 5) rfl rfl Tryz.func75 (by kernel_rfl) rfl #[.pointer (some ⟨g,0,none⟩),.int .i64 5] rfl (by (try simp only [List.map_toArray,List.map_cons,List.map_nil]);first|done|rfl|(simp only [List.length_drop,List.length_take];rfl)) ?_;(with_reducible refine (zW.calls g s0_0 s0_1 s0_2 5 t115 t116 t117 w0 _ ?side1 ?side2 A2.out).mono ?_);(case side1=>repeat (first|(with_reducible first|exact HI0.out|apply ze.alloc|apply ze.drewN|apply ze.drew|apply ze.set_1|apply ze.set_2|refine ze.far ?_ NB0_114.out _)|exact HI0.out));(case side2=>repeat (first|(with_reducible first|exact HB.out|apply zz|apply zl|apply zC|refine zn ?_ (ze.ge HI0.out)|refine zn ?_ GE114.out)|exact HB.out));rintro e w28 ⟨rfl,hi,hb,hk⟩;refine ⟨_,rfl,?_⟩;have n0_:=zh.mk (zA.blk hk (g':=gb114) (o:= .cells #[.int .i64 0,.int .i64 0,.int .i64 0] 57 (0,0)) (by (with_reducible repeat (first|refine zo ?_ _|refine zB ?_|refine zt ?_ _));exact BK114.out) NB114_0.out (by simp));have n1_:=zh.mk (zA.trans (by repeat (first|(with_reducible first|exact HK.out|apply zA.set_|apply zL|apply zP|apply zM|refine zaN ?_ GW114.out _)|exact HK.out)) hk (.inl rfl));have n2_:=zh.mk (hb);have n3_:=zh.mk (hi);clear BK114;clear HK;clear HB;clear HI0;have BK114:=n0_;have HK:=n1_;have HB:=n2_;have HI0:=n3_;clear n0_ n1_ n2_ n3_;(try clear hb);(try clear hb2);(try clear hk);(try clear hi))|((with_reducible refine zat (f:=75) rfl ?_);refine zcf (some 19) rfl rfl Tryz.func75 (by kernel_rfl) rfl #[.pointer (some ⟨g,0,none⟩),.int .i64 9000000] rfl (by (try simp only [List.map_toArray,List.map_cons,List.map_nil]);first|done|rfl|(simp only [List.length_drop,List.length_take];rfl)) ?_;(with_reducible refine (zW.calls g s0_0 t116 t117 9000000 t127 t128 t129 w0 _ ?side1 ?side2 A25.out).mono ?_);(case side1=>repeat (first|(with_reducible first|exact HI0.out|apply ze.alloc|apply ze.drewN|apply ze.drew|apply ze.set_1|apply ze.set_2|refine ze.far ?_ NB0_114.out _)|exact HI0.out));(case side2=>repeat (first|(with_reducible first|exact HB.out|apply zz|apply zl|apply zC|refine zn ?_ (ze.ge HI0.out)|refine zn ?_ GE114.out)|exact HB.out));rintro e w29 ⟨rfl,hi,hb,hk⟩;refine ⟨_,rfl,?_⟩;have n0_:=zh.mk (zA.blk hk (g':=gb114) (o:= .cells #[.int .i64 0,.int .i64 0,.int .i64 0] 57 (0,0)) (by (with_reducible repeat (first|refine zo ?_ _|refine zB ?_|refine zt ?_ _));exact BK114.out) NB114_0.out (by simp));have n1_:=zh.mk (zA.trans (by repeat (first|(with_reducible first|exact HK.out|apply zA.set_|apply zL|apply zP|apply zM|refine zaN ?_ GW114.out _)|exact HK.out)) hk (.inl rfl));have n2_:=zh.mk (hb);have n3_:=zh.mk (hi);clear BK114;clear HK;clear HB;clear HI0;have BK114:=n0_;have HK:=n1_;have HB:=n2_;have HI0:=n3_;clear n0_ n1_ n2_ n3_;(try clear hb);(try clear hb2);(try clear hk);(try clear hi))|((with_reducible refine zcT (N:=23) rfl ?_);refine Kd.R_lit (Kd.int .i64) _ 2 ?hg (N:=23) ?hd (xs:=([100,150,200,300,1000,100000]:List Int)) (inner:= [.int .i64 100,.int .i64 150,.int .i64 200,.int .i64 300,.int .i64 1000,.int .i64 100000]) (ok:=fun _=>True) (okp:=fun _=>True) ?hr ?hp (fun _ hk=>hk) trivial (Below.refl _ _) (Nat.le_refl _) (by simp) ?_;(case hd=>rfl);(case hg=>rfl);(case hr=>first|(go_simp;done)|(go_simp;rfl));(case hp=>exact (Reps.one (show Kd.M (Kd.int .i64) _ _ _ 100 [.int .i64 100] from rfl) (Reps.one (show Kd.M (Kd.int .i64) _ _ _ 150 [.int .i64 150] from rfl) (Reps.one (show Kd.M (Kd.int .i64) _ _ _ 200 [.int .i64 200] from rfl) (Reps.one (show Kd.M (Kd.int .i64) _ _ _ 300 [.int .i64 300] from rfl) (Reps.one (show Kd.M (Kd.int .i64) _ _ _ 1000 [.int .i64 1000] from rfl) (Reps.one (show Kd.M (Kd.int .i64) _ _ _ 100000 [.int .i64 100000] from rfl) (Reps.none _ _))))))));intro v131 w30 ho31 hb hg_ hnew_;clear hg_ hnew_;(first|rw [<- Ny130.out] at ho31|(simp only [Int.reduceToNat] at ho31;rw [<- Ny130.out] at ho31));have n0_:=zh.mk (Kd.R_lower ho31 (zce (w:=w) (g:=g) (row:=none) (by repeat (first|(with_reducible first|exact HK.out|apply zA.set_|apply zL|apply zP|apply zM|refine zaN ?_ GW114.out _)|exact HK.out))));have n1_:=zh.mk (ze.below (by repeat (first|(with_reducible first|exact HI0.out|apply ze.alloc|apply ze.drewN|apply ze.drew|apply ze.set_1|apply ze.set_2|refine ze.far ?_ NB0_114.out _)|exact HI0.out)) hb);have n2_:=zh.mk (zbg (g:=gb114) (o:= .cells #[.int .i64 0,.int .i64 0,.int .i64 0] 57 (0,0)) (by (with_reducible repeat (first|refine zo ?_ _|refine zB ?_|refine zt ?_ _));exact BK114.out) hb);have n3_:=zh.mk (zA.trans (by repeat (first|(with_reducible first|exact HK.out|apply zA.set_|apply zL|apply zP|apply zM|refine zaN ?_ GW114.out _)|exact HK.out)) (zA.of_below hb g none) (.inl rfl));have n4_:=zh.mk (zbs (by repeat (first|(with_reducible first|exact HB.out|apply zz|apply zl|apply zC|refine zn ?_ (ze.ge HI0.out)|refine zn ?_ GE114.out)|exact HB.out)) hb);clear HI0;clear BK114;clear HK;clear HB;have HO132:=n0_;have HI0:=n1_;have BK114:=n2_;have HK:=n3_;have HB:=n4_;clear n0_ n1_ n2_ n3_ n4_;clear hb ho31;obtain ⟨Ao32,co32,eo32⟩:=Kd.R_slice HO132.out;subst eo32)|((with_reducible refine zat (f:=170) rfl ?_);refine zcf (some 24) rfl rfl Tryz.func170 (by kernel_rfl) rfl #[.pointer (some ⟨g,0,none⟩),.slice Ao32 y130.length co32] rfl (by (try simp only [List.map_toArray,List.map_cons,List.map_nil]);first|done|rfl|(simp only [List.length_drop,List.length_take];rfl)) ?_;(with_reducible refine (zao.calls g s0_0 t128 t129 _ _ y130 t133 t134 t135 w0 _ ?side1 ?side2 ?side3 ?side4 ?side5 A26.out).mono ?_);(case side1=>repeat (first|(with_reducible first|exact HI0.out|apply ze.alloc|apply ze.drewN|apply ze.drew|apply ze.set_1|apply ze.set_2|refine ze.far ?_ NB0_114.out _)|exact HI0.out));(case side2=>repeat (first|(with_reducible first|exact HB.out|apply zz|apply zl|apply zC|refine zn ?_ (ze.ge HI0.out)|refine zn ?_ GE114.out)|exact HB.out));(case side3=>repeat (first|exact (Kd.R_reads' HO132.out).2.2|(with_reducible refine Kd.C_alloc ?_ _)|(with_reducible refine Kd.C_drewN ?_ _)|(with_reducible refine Kd.C_drew ?_)));(case side4=>exact (Kd.R_reads' HO132.out).2.1);(case side5=>exact far_slice (ze.own_ne HI0.out HO132.out (by decide)));rintro e w33 ⟨rfl,hi,hb,hk⟩;refine ⟨_,rfl,?_⟩;have n0_:=zh.mk (zA.blk hk (g':=gb114) (o:= .cells #[.int .i64 0,.int .i64 0,.int .i64 0] 57 (0,0)) (by (with_reducible repeat (first|refine zo ?_ _|refine zB ?_|refine zt ?_ _));exact BK114.out) NB114_0.out (by simp));have n1_:=zh.mk (Kd.R_mono (Kd.R_keep (ze.apart (show ze w0 _ g s0_0 t128 t129 from by repeat (first|(with_reducible first|exact HI0.out|apply ze.alloc|apply ze.drewN|apply ze.drew|apply ze.set_1|apply ze.set_2|refine ze.far ?_ NB0_114.out _)|exact HI0.out)) (by (with_reducible repeat (first|apply Kd.R_alloc|apply Kd.R_drewN|apply Kd.R_drew));exact HO132.out) (by decide)) hk (fun _ h=>h.2)) (fun _ h=>h.1));have n2_:=zh.mk (zA.trans (by repeat (first|(with_reducible first|exact HK.out|apply zA.set_|apply zL|apply zP|apply zM|refine zaN ?_ GW114.out _)|exact HK.out)) hk (.inl rfl));have n3_:=zh.mk (hb);have n4_:=zh.mk (hi);clear BK114;clear HO132;clear HK;clear HB;clear HI0;have BK114:=n0_;have HO132:=n1_;have HK:=n2_;have HB:=n3_;have HI0:=n4_;clear n0_ n1_ n2_ n3_ n4_;(try clear hb);(try clear hb2);(try clear hk);(try clear hi))|((with_reducible refine zcT (N:=3) rfl ?_);refine zdJ ?hg (N:=3) ?hd (cs:=#[.int .i64 0,.int .i64 0,.int .i64 0]) (t:=57) ?hr ?_;(case hd=>rfl);(case hg=>rfl);(case hr=>first|(go_simp;done)|(go_simp;rfl));intro gb136 hg w34 hbox hb;have n0_:=zh.mk (Kd.R_below (by (with_reducible repeat (first|apply Kd.R_alloc|apply Kd.R_drewN|apply Kd.R_drew));exact HO132.out) hb);have n1_:=zh.mk (ze.below (by repeat (first|(with_reducible first|exact HI0.out|apply ze.alloc|apply ze.drewN|apply ze.drew|apply ze.set_1|apply ze.set_2|refine ze.far ?_ NB0_114.out _)|exact HI0.out)) hb);have n2_:=zh.mk (zbg (g:=gb114) (o:= .cells #[.int .i64 0,.int .i64 0,.int .i64 0] 57 (0,0)) (by (with_reducible repeat (first|refine zo ?_ _|refine zB ?_|refine zt ?_ _));exact BK114.out) hb);have n3_:=zh.mk (zA.trans (by repeat (first|(with_reducible first|exact HK.out|apply zA.set_|apply zL|apply zP|apply zM|refine zaN ?_ GW114.out _)|exact HK.out)) (zA.of_below hb g none) (.inl rfl));have n4_:=zh.mk (zbs (by repeat (first|(with_reducible first|exact HB.out|apply zz|apply zl|apply zC|refine zn ?_ (ze.ge HI0.out)|refine zn ?_ GE114.out)|exact HB.out)) hb);have n5_:=zh.mk (hbox);have n6_:=zh.mk ((by rw [hg];exact (zce (w:=w) (g:=g) (row:=none) (by repeat (first|(with_reducible first|exact HK.out|apply zA.set_|apply zL|apply zP|apply zM|refine zaN ?_ GW114.out _)|exact HK.out))):w.heap.size<=gb136));have n7_:=zh.mk ((Nat.le_trans HW0.out (by rw [hg];exact (zce (w:=w) (g:=g) (row:=none) (by repeat (first|(with_reducible first|exact HK.out|apply zA.set_|apply zL|apply zP|apply zM|refine zaN ?_ GW114.out _)|exact HK.out))):w.heap.size<=gb136):w0.heap.size<=gb136));have n8_:=zh.mk ((by rw [hg];exact Nat.ne_of_lt (zea (g:=gb114) (o:= .cells #[.int .i64 0,.int .i64 0,.int .i64 0] 57 (0,0)) (by (with_reducible repeat (first|refine zo ?_ _|refine zB ?_|refine zt ?_ _));exact BK114.out)):gb114≠gb136));have n9_:=zh.mk ((by rw [hg];exact Nat.ne_of_gt (zea (g:=gb114) (o:= .cells #[.int .i64 0,.int .i64 0,.int .i64 0] 57 (0,0)) (by (with_reducible repeat (first|refine zo ?_ _|refine zB ?_|refine zt ?_ _));exact BK114.out)):gb136≠gb114));have n10_:=zh.mk ((by rw [hg];exact Nat.ne_of_lt (ze.lt (show ze w0 _ g s0_0 t134 t135 from by repeat (first|(with_reducible first|exact HI0.out|apply ze.alloc|apply ze.drewN|apply ze.drew|apply ze.set_1|apply ze.set_2|refine ze.far ?_ NB0_114.out _)|exact HI0.out))):g≠gb136));have n11_:=zh.mk ((by rw [hg];exact Nat.ne_of_gt (ze.lt (show ze w0 _ g s0_0 t134 t135 from by repeat (first|(with_reducible first|exact HI0.out|apply ze.alloc|apply ze.drewN|apply ze.drew|apply ze.set_1|apply ze.set_2|refine ze.far ?_ NB0_114.out _)|exact HI0.out))):gb136≠g));clear HO132;clear HI0;clear BK114;clear HK;clear HB;have HO132:=n0_;have HI0:=n1_;have BK114:=n2_;have HK:=n3_;have HB:=n4_;have BK136:=n5_;have GW136:=n6_;have GE136:=n7_;have NB114_136:=n8_;have NB136_114:=n9_;have NB0_136:=n10_;have NB136_0:=n11_;clear n0_ n1_ n2_ n3_ n4_ n5_ n6_ n7_ n8_ n9_ n10_ n11_;clear hb hbox hg;have hnb35:=NB136_114.out;have hnc35:=NB114_136.out;have hnb36:=NB136_0.out;have hnc36:=NB0_136.out;have hcz37_0:w34.cell? ⟨gb136,0,none⟩=some (.int .i64 0):=(zaF BK136.out 0).trans rfl;have hcz37_1:w34.cell? ⟨gb136,1,none⟩=some (.int .i64 0):=(zaF BK136.out 1).trans rfl;have hcz37_2:w34.cell? ⟨gb136,2,none⟩=some (.int .i64 0):=(zaF BK136.out 2).trans rfl;have hfz37_0:=zak BK136.out 0;have hfz37_1:=zak BK136.out 1;have hfz37_2:=zak BK136.out 2;have hnb38:=NB114_0.out;have hnc38:=NB0_114.out;have hcz39_0:w34.cell? ⟨gb114,0,none⟩=some (.int .i64 0):=(zaF BK114.out 0).trans rfl;have hcz39_1:w34.cell? ⟨gb114,1,none⟩=some (.int .i64 0):=(zaF BK114.out 1).trans rfl;have hcz39_2:w34.cell? ⟨gb114,2,none⟩=some (.int .i64 0):=(zaF BK114.out 2).trans rfl;have hfz39_0:=zak BK114.out 0;have hfz39_1:=zak BK114.out 1;have hfz39_2:=zak BK114.out 2))
    refine bodyPost_ret (results_cell_row rfl _ _ gb114 57 #[.int .i64 (wrap64 (1000*(wrap64 (1+t127)))),.int .i64 1,.int .i64 t133] (0,0) _ rfl (by (with_reducible repeat (first|refine zo ?_ _|refine zB ?_|refine zt ?_ _));refine zbF (cs:=#[.int .i64 (wrap64 (1000*(wrap64 (1+t127)))),.int .i64 1,.int .i64 0]) ?_ 2 _ rfl;(with_reducible repeat (first|refine zo ?_ _|refine zB ?_|refine zt ?_ _));refine zbF (cs:=#[.int .i64 (wrap64 (1000*(wrap64 (1+t127)))),.int .i64 0,.int .i64 0]) ?_ 1 _ rfl;(with_reducible repeat (first|refine zo ?_ _|refine zB ?_|refine zt ?_ _));refine zbF (cs:=#[.int .i64 0,.int .i64 0,.int .i64 0]) ?_ 0 _ rfl;(with_reducible repeat (first|refine zo ?_ _|refine zB ?_|refine zt ?_ _));refine zbJ ?_ NB114_136.out _;(with_reducible repeat (first|refine zo ?_ _|refine zB ?_|refine zt ?_ _));refine zbJ ?_ NB114_136.out _;(with_reducible repeat (first|refine zo ?_ _|refine zB ?_|refine zt ?_ _));refine zbJ ?_ NB114_136.out _;(with_reducible repeat (first|refine zo ?_ _|refine zB ?_|refine zt ?_ _));exact BK114.out) Tryz.underlying57 rfl (by kernel_rfl)) rfl ?_
    exact ⟨by first|rfl|(simp [zaz,zay]<;>rfl)|(simp [*,zaz,zay]<;>rfl),by repeat (first|(with_reducible first|exact HI0.out|apply ze.alloc|apply ze.drewN|apply ze.drew|apply ze.set_1|apply ze.set_2|refine ze.far ?_ NB0_114.out _|refine ze.far ?_ NB0_136.out _)|exact HI0.out),by repeat (first|(with_reducible first|exact HB.out|apply zz|apply zl|apply zC|refine zn ?_ (ze.ge HI0.out)|refine zn ?_ GE114.out|refine zn ?_ GE136.out)|exact HB.out),by repeat (first|(with_reducible first|exact HK.out|apply zA.set_|apply zL|apply zP|apply zM|refine zaN ?_ GW114.out _|refine zaN ?_ GW136.out _)|exact HK.out)⟩
def zfj.f (l0:List Int):Option (Int×Int×Int):=(zd6.f l0).bind fun bt138=>((zeW.f bt138.1 bt138.2.1 bt138.2.2).bind fun bt142=>(some (bt142.1,bt142.2.1,bt142.2.2.1)))
set_option maxHeartbeats 8000000 in
set_option maxRecDepth 100000 in
theorem zfj.calls (A0:Option Addr) (c0:Nat) (l0:List Int) (r1:Int) (r2:Int) (r3:Int) (w:World) (hr0:Kd.C (Kd.int .u8) w A0 l0.length l0) (hc0:l0.length<=c0) (h:zfj.f l0=some (r1,r2,r3)):
  Calls Tryz.prog 47 #[.slice A0 l0.length c0] w fun e w'=>e= .returned (.agg #[.int .i64 r1,.int .i64 r2,.int .i64 r3])/\Below w.heap.size w w':=by
 have hu57:=Tryz.underlying57
 have HR0:=zh.mk hr0
 have HC0:=zh.mk hc0
 clear hr0 hc0
 have HB:=zh.mk (Below.refl w.heap.size w)
 have H:((zd6.f l0).bind fun bt138=>((zeW.f bt138.1 bt138.2.1 bt138.2.2).bind fun bt142=>(some (bt142.1,bt142.2.1,bt142.2.2.1))))=some (r1,r2,r3):=h
 clear h
 replace H:=Option.bind_eq_some_iff.mp H
 obtain ⟨⟨t138,t139,t140⟩,A20,H⟩:=H
 replace H:((zeW.f t138 t139 t140).bind fun bt142=>(some (bt142.1,bt142.2.1,bt142.2.2.1)))=some (r1,r2,r3):=H
 have A2:=zh.mk A20
 clear A20
 replace H:=Option.bind_eq_some_iff.mp H
 obtain ⟨⟨t142,t143,t144,t145,t146⟩,A30,H⟩:=H
 replace H:(some (t142,t143,t144))=some (r1,r2,r3):=H
 have A3:=zh.mk A30
 clear A30
 simp only [Option.some.injEq,Prod.mk.injEq] at H
 obtain ⟨rfl,rfl,rfl⟩:=H
 go_enter Tryz.func47,Tryz.ntmps47
 go_wp2_with (first|((with_reducible refine zcT (N:=2) rfl ?_);refine zdJ ?hg (N:=2) ?hd (cs:=#[.int .i64 0,.int .i64 0,.int .i64 0]) (t:=57) ?hr ?_;(case hd=>rfl);(case hg=>rfl);(case hr=>first|(go_simp;done)|(go_simp;rfl));intro gb137 hg w4 hbox hb;have n0_:=zh.mk (zbs (by repeat (first|(with_reducible first|exact HB.out|apply zz|apply zl|apply zC)|exact HB.out)) hb);have n1_:=zh.mk (hbox);have n2_:=zh.mk ((by rw [hg];exact (zcB (by repeat (first|(with_reducible first|exact HB.out|apply zz|apply zl|apply zC)|exact HB.out))):w.heap.size<=gb137));have n3_:=zh.mk ((by rw [hg];exact (zcB (by repeat (first|(with_reducible first|exact HB.out|apply zz|apply zl|apply zC)|exact HB.out))):w.heap.size<=gb137));clear HB;have HB:=n0_;have BK137:=n1_;have GW137:=n2_;have GE137:=n3_;clear n0_ n1_ n2_ n3_;clear hb hbox hg)|((with_reducible refine zat (f:=73) rfl ?_);refine zcf (some 4) rfl rfl Tryz.func73 (by kernel_rfl) rfl #[.slice A0 l0.length c0] rfl (by (try simp only [List.map_toArray,List.map_cons,List.map_nil]);first|done|rfl|(simp only [List.length_drop,List.length_take];rfl)) ?_;(with_reducible refine (zd6.calls _ _ l0 t138 t139 t140 w _ ?side1 ?side2 ?side3 A2.out).mono ?_);(case side1=>repeat (first|(with_reducible first|exact HB.out|apply zz|apply zl|apply zC|refine zn ?_ GE137.out)|exact HB.out));(case side2=>exact HR0.out);(case side3=>exact HC0.out);rintro e w5 ⟨g141,rfl,hi,hb,hb2⟩;refine ⟨_,rfl,?_⟩;have n0_:=zh.mk (zbg (g:=gb137) (o:= .cells #[.int .i64 0,.int .i64 0,.int .i64 0] 57 (0,0)) (by (with_reducible repeat (first|refine zo ?_ _|refine zB ?_|refine zt ?_ _));exact BK137.out) hb2);have n1_:=zh.mk (hb);have n2_:=zh.mk (hi);have n3_:=zh.mk (ze.ne_blk hi (zbg (g:=gb137) (o:= .cells #[.int .i64 0,.int .i64 0,.int .i64 0] 57 (0,0)) (by (with_reducible repeat (first|refine zo ?_ _|refine zB ?_|refine zt ?_ _));exact BK137.out) hb2) (by decide));have n4_:=zh.mk (Ne.symm (ze.ne_blk hi (zbg (g:=gb137) (o:= .cells #[.int .i64 0,.int .i64 0,.int .i64 0] 57 (0,0)) (by (with_reducible repeat (first|refine zo ?_ _|refine zB ?_|refine zt ?_ _));exact BK137.out) hb2) (by decide)));clear BK137;clear HB;have BK137:=n0_;have HB:=n1_;have HI141:=n2_;have NB141_137:=n3_;have NB137_141:=n4_;clear n0_ n1_ n2_ n3_ n4_;(try clear hb);(try clear hb2);(try clear hk);(try clear hi))|((with_reducible refine zat (f:=144) rfl ?_);refine zcf (some 5) rfl rfl Tryz.func144 (by kernel_rfl) rfl #[.pointer (some ⟨g141,0,none⟩)] rfl (by (try simp only [List.map_toArray,List.map_cons,List.map_nil]);first|done|rfl|(simp only [List.length_drop,List.length_take];rfl)) ?_;(with_reducible refine (zeW.calls g141 t138 t139 t140 t142 t143 t144 t145 t146 w _ ?side1 ?side2 A3.out).mono ?_);(case side1=>repeat (first|(with_reducible first|exact HI141.out|apply ze.alloc|apply ze.drewN|apply ze.drew|apply ze.set_1|apply ze.set_2|refine ze.far ?_ NB141_137.out _)|exact HI141.out));(case side2=>repeat (first|(with_reducible first|exact HB.out|apply zz|apply zl|apply zC|refine zn ?_ (ze.ge HI141.out)|refine zn ?_ GE137.out)|exact HB.out));rintro e w6 ⟨rfl,hi,hb,hk⟩;refine ⟨_,rfl,?_⟩;have n0_:=zh.mk (zA.blk hk (g':=gb137) (o:= .cells #[.int .i64 0,.int .i64 0,.int .i64 0] 57 (0,0)) (by (with_reducible repeat (first|refine zo ?_ _|refine zB ?_|refine zt ?_ _));exact BK137.out) NB137_141.out (by simp));have n1_:=zh.mk (hb);have n2_:=zh.mk (hi);clear BK137;clear HB;clear HI141;have BK137:=n0_;have HB:=n1_;have HI141:=n2_;clear n0_ n1_ n2_;(try clear hb);(try clear hb2);(try clear hk);(try clear hi);have hnb7:=NB137_141.out;have hnc7:=NB141_137.out;have hcz8_0:w6.cell? ⟨gb137,0,none⟩=some (.int .i64 0):=(zaF BK137.out 0).trans rfl;have hcz8_1:w6.cell? ⟨gb137,1,none⟩=some (.int .i64 0):=(zaF BK137.out 1).trans rfl;have hcz8_2:w6.cell? ⟨gb137,2,none⟩=some (.int .i64 0):=(zaF BK137.out 2).trans rfl;have hfz8_0:=zak BK137.out 0;have hfz8_1:=zak BK137.out 1;have hfz8_2:=zak BK137.out 2))
 refine bodyPost_ret (results_cell_row rfl _ _ gb137 57 #[.int .i64 t142,.int .i64 t143,.int .i64 t144] (0,0) _ rfl (by (with_reducible repeat (first|refine zo ?_ _|refine zB ?_|refine zt ?_ _));refine zbF (cs:=#[.int .i64 t142,.int .i64 t143,.int .i64 0]) ?_ 2 _ rfl;(with_reducible repeat (first|refine zo ?_ _|refine zB ?_|refine zt ?_ _));refine zbF (cs:=#[.int .i64 t142,.int .i64 0,.int .i64 0]) ?_ 1 _ rfl;(with_reducible repeat (first|refine zo ?_ _|refine zB ?_|refine zt ?_ _));refine zbF (cs:=#[.int .i64 0,.int .i64 0,.int .i64 0]) ?_ 0 _ rfl;(with_reducible repeat (first|refine zo ?_ _|refine zB ?_|refine zt ?_ _));exact BK137.out) Tryz.underlying57 rfl (by kernel_rfl)) rfl ?_
 exact ⟨by first|rfl|(simp [zaz,zay]<;>rfl)|(simp [*,zaz,zay]<;>rfl),by repeat (first|(with_reducible first|exact HB.out|apply zz|apply zl|apply zC|refine zn ?_ (ze.ge HI141.out)|refine zn ?_ GE137.out)|exact HB.out)⟩
def zd5.f (a0:Int):Option (Int):=if (Int.tmod a0 3600000000)>1800000000 then (if (wrap64 ((Int.tmod a0 3600000000)-3600000000))<=(-1800000000) then (some (wrap64 ((wrap64 ((Int.tmod a0 3600000000)-3600000000))+3600000000))) else (some (wrap64 ((Int.tmod a0 3600000000)-3600000000)))) else (if (Int.tmod a0 3600000000)<=(-1800000000) then (some (wrap64 ((Int.tmod a0 3600000000)+3600000000))) else (some (Int.tmod a0 3600000000)))
set_option maxHeartbeats 8000000 in
set_option maxRecDepth 100000 in
theorem zd5.calls (a0:Int) (r:Int) (w:World) (h:zd5.f a0=some r):
  Calls Tryz.prog 76 #[.int .i64 a0] w fun e w'=>e= .returned (.int .i64 r)/\Drawn0 w w':=by
 have H:(if (Int.tmod a0 3600000000)>1800000000 then (if (wrap64 ((Int.tmod a0 3600000000)-3600000000))<=(-1800000000) then (some (wrap64 ((wrap64 ((Int.tmod a0 3600000000)-3600000000))+3600000000))) else (some (wrap64 ((Int.tmod a0 3600000000)-3600000000)))) else (if (Int.tmod a0 3600000000)<=(-1800000000) then (some (wrap64 ((Int.tmod a0 3600000000)+3600000000))) else (some (Int.tmod a0 3600000000))))=some r:=h
 clear h
 by_cases c2:(Int.tmod a0 3600000000)>1800000000
 ·rw [if_pos c2] at H
  have c2b0:decide (1800000000<(Int.tmod a0 3600000000))=true:=decide_eq_true c2
  clear c2
  by_cases c3:(wrap64 ((Int.tmod a0 3600000000)-3600000000))<=(-1800000000)
  ·rw [if_pos c3] at H
   have c3b0:decide ((wrap64 ((Int.tmod a0 3600000000)-3600000000))<=(-1800000000))=true:=decide_eq_true c3
   clear c3
   obtain rfl:=Option.some.inj H
   go_enter Tryz.func76,Tryz.ntmps76
   go_wp2
   go_ret
   exact ⟨by first|rfl|(simp;done)|(simp [*];done),by repeat (first|exact Drawn0.refl _|apply Drawn0.step)⟩
  ·rw [if_neg c3] at H
   have c3b0:decide ((wrap64 ((Int.tmod a0 3600000000)-3600000000))<=(-1800000000))=false:=decide_eq_false c3
   clear c3
   obtain rfl:=Option.some.inj H
   go_enter Tryz.func76,Tryz.ntmps76
   go_wp2
   go_ret
   exact ⟨by first|rfl|(simp;done)|(simp [*];done),by repeat (first|exact Drawn0.refl _|apply Drawn0.step)⟩
 ·rw [if_neg c2] at H
  have c2b0:decide (1800000000<(Int.tmod a0 3600000000))=false:=decide_eq_false c2
  clear c2
  by_cases c4:(Int.tmod a0 3600000000)<=(-1800000000)
  ·rw [if_pos c4] at H
   have c4b0:decide ((Int.tmod a0 3600000000)<=(-1800000000))=true:=decide_eq_true c4
   clear c4
   obtain rfl:=Option.some.inj H
   go_enter Tryz.func76,Tryz.ntmps76
   go_wp2
   go_ret
   exact ⟨by first|rfl|(simp;done)|(simp [*];done),by repeat (first|exact Drawn0.refl _|apply Drawn0.step)⟩
  ·rw [if_neg c4] at H
   have c4b0:decide ((Int.tmod a0 3600000000)<=(-1800000000))=false:=decide_eq_false c4
   clear c4
   obtain rfl:=Option.some.inj H
   go_enter Tryz.func76,Tryz.ntmps76
   go_wp2
   go_ret
   exact ⟨by first|rfl|(simp;done)|(simp [*];done),by repeat (first|exact Drawn0.refl _|apply Drawn0.step)⟩
def zaK.f (s0_0:List Int) (s0_1:Int) (s0_2:Int) (a1:Int):Option (Bool×Int×Int):=(zW.f s0_0 s0_1 s0_2 a1).bind fun bt147=>(some ((bt147.1==0),bt147.2.1,bt147.2.2))
set_option maxHeartbeats 8000000 in
set_option maxRecDepth 100000 in
theorem zaK.calls (g:Nat) (s0_0:List Int) (s0_1:Int) (s0_2:Int) (a1:Int) (r1:Bool) (r2:Int) (r3:Int) (w0 w:World) (hI:ze w0 w g s0_0 s0_1 s0_2) (hB:Below w0.heap.size w0 w) (h:zaK.f s0_0 s0_1 s0_2 a1=some (r1,r2,r3)):
  Calls Tryz.prog 187 #[.pointer (some ⟨g,0,none⟩),.int .i64 a1] w fun e w'=>e= .returned (.bool r1)/\ze w0 w' g s0_0 r2 r3/\Below w0.heap.size w0 w'/\zA w w' g none:=by
 have HI0:=zh.mk hI
 have HK:=zh.mk (zA.refl w g none)
 have HL:=zh.mk hB.size
 clear hI
 have HW0:=zh.mk hB.size
 have HB:=zh.mk hB
 clear hB
 have H:((zW.f s0_0 s0_1 s0_2 a1).bind fun bt147=>(some ((bt147.1==0),bt147.2.1,bt147.2.2)))=some (r1,r2,r3):=h
 clear h
 replace H:=Option.bind_eq_some_iff.mp H
 obtain ⟨⟨t147,t148,t149⟩,A30,H⟩:=H
 replace H:(some ((t147==0),t148,t149))=some (r1,r2,r3):=H
 have A3:=zh.mk A30
 clear A30
 simp only [Option.some.injEq,Prod.mk.injEq] at H
 obtain ⟨rfl,rfl,rfl⟩:=H
 go_enter Tryz.func187,Tryz.ntmps187
 go_wp2_with (first|((with_reducible refine zat (f:=75) rfl ?_);refine zcf (some 7) rfl rfl Tryz.func75 (by kernel_rfl) rfl #[.pointer (some ⟨g,0,none⟩),.int .i64 a1] rfl (by (try simp only [List.map_toArray,List.map_cons,List.map_nil]);first|done|rfl|(simp only [List.length_drop,List.length_take];rfl)) ?_;(with_reducible refine (zW.calls g s0_0 s0_1 s0_2 a1 t147 t148 t149 w0 _ ?side1 ?side2 A3.out).mono ?_);(case side1=>repeat (first|(with_reducible first|exact HI0.out|apply ze.alloc|apply ze.drewN|apply ze.drew|apply ze.set_1|apply ze.set_2)|exact HI0.out));(case side2=>repeat (first|(with_reducible first|exact HB.out|apply zz|apply zl|apply zC|refine zn ?_ (ze.ge HI0.out))|exact HB.out));rintro e w4 ⟨rfl,hi,hb,hk⟩;refine ⟨_,rfl,?_⟩;have n0_:=zh.mk (zA.trans (by repeat (first|(with_reducible first|exact HK.out|apply zA.set_|apply zL|apply zP|apply zM)|exact HK.out)) hk (.inl rfl));have n1_:=zh.mk (hb);have n2_:=zh.mk (hi);clear HK;clear HB;clear HI0;have HK:=n0_;have HB:=n1_;have HI0:=n2_;clear n0_ n1_ n2_;(try clear hb);(try clear hb2);(try clear hk);(try clear hi)))
 go_ret
 exact ⟨by first|rfl|(simp [zaz,zay]<;>rfl)|(simp [*,zaz,zay]<;>rfl),by repeat (first|(with_reducible first|exact HI0.out|apply ze.alloc|apply ze.drewN|apply ze.drew|apply ze.set_1|apply ze.set_2)|exact HI0.out),by repeat (first|(with_reducible first|exact HB.out|apply zz|apply zl|apply zC|refine zn ?_ (ze.ge HI0.out))|exact HB.out),by repeat (first|(with_reducible first|exact HK.out|apply zA.set_|apply zL|apply zP|apply zM)|exact HK.out)⟩
def zaO.l0:Nat->Int->Int->Int->List Int->Int->Int->Option (Int×Int×Int)
 | 0,_,_,_,_,_,_=>none
 | k+1,x1,x5,x6,x1000,x1001,x1002=>if x6<7 then ((zbd.f x1000 x1001 x1002).bind fun bt150=>(zaO.l0 k x1 (Go.bits .xor .i64 (wrap64 (x5*256)) bt150.1) (wrap64 (x6+1)) x1000 bt150.2.1 bt150.2.2)) else (if (wrap64 (x1+1))=0 then (none) else ((zW.f x1000 x1001 x1002 5).bind fun bt153=>(if bt153.1=0 then ((zW.f x1000 bt153.2.1 bt153.2.2 40).bind fun bt156=>(if 0<=(IntKind.u64.wrap (bt156.1)) then ((zaK.f x1000 bt156.2.1 bt156.2.2 2).bind fun bt159=>(if bt159.1=true then (some (wrap64 (-(shr .i64 (Int.tmod x5 (wrap64 (x1+1))) (IntKind.u64.wrap (bt156.1)))),bt159.2.1,bt159.2.2)) else (some (shr .i64 (Int.tmod x5 (wrap64 (x1+1))) (IntKind.u64.wrap (bt156.1)),bt159.2.1,bt159.2.2)))) else (none))) else (if bt153.1=1 then ((zao.f x1000 bt153.2.1 bt153.2.2 (([0,1,x1,wrap64 (Int.tdiv x1 2)]:List Int))).bind fun bt165=>((zaK.f x1000 bt165.2.1 bt165.2.2 2).bind fun bt168=>(if bt168.1=true then (some (wrap64 (-bt165.1),bt168.2.1,bt168.2.2)) else (some (bt165.1,bt168.2.1,bt168.2.2))))) else ((zaK.f x1000 bt153.2.1 bt153.2.2 2).bind fun bt171=>(if bt171.1=true then (some (wrap64 (-(Int.tmod x5 (wrap64 (x1+1)))),bt171.2.1,bt171.2.2)) else (some (Int.tmod x5 (wrap64 (x1+1)),bt171.2.1,bt171.2.2))))))))
def zaO.f (k:Nat) (s0_0:List Int) (s0_1:Int) (s0_2:Int) (a1:Int):Option (Int×Int×Int):=zaO.l0 k a1 0 0 s0_0 s0_1 s0_2
set_option maxHeartbeats 8000000 in
set_option maxRecDepth 100000 in
theorem zaO.calls (k:Nat) (g:Nat) (s0_0:List Int) (s0_1:Int) (s0_2:Int) (a1:Int) (r1:Int) (r2:Int) (r3:Int) (w0 w:World) (hI:ze w0 w g s0_0 s0_1 s0_2) (hB:Below w0.heap.size w0 w) (h:zaO.f k s0_0 s0_1 s0_2 a1=some (r1,r2,r3)):
  Calls Tryz.prog 109 #[.pointer (some ⟨g,0,none⟩),.int .i64 a1] w fun e w'=>e= .returned (.int .i64 r1)/\ze w0 w' g s0_0 r2 r3/\Below w0.heap.size w0 w'/\zA w w' g none:=by
 have HI0:=zh.mk hI
 have HK:=zh.mk (zA.refl w g none)
 have HL:=zh.mk hB.size
 clear hI
 have HW0:=zh.mk hB.size
 have HB:=zh.mk hB
 clear hB
 have H:(zaO.l0 k a1 0 0 s0_0 s0_1 s0_2)=some (r1,r2,r3):=h
 clear h
 have H':=zh.mk H
 clear H
 go_enter Tryz.func109,Tryz.ntmps109
 go_wp2
 go_loopg [5,6] k (fun kq v5 v6 w'=>∃(x5_1:Int) (x6_1:Int) (x1001_1:Int) (x1002_1:Int),v5= .int .i64 x5_1/\v6= .int .i64 x6_1/\zh (zaO.l0 kq a1 x5_1 x6_1 s0_0 x1001_1 x1002_1=some (r1,r2,r3))/\zh (kq<=k)/\zh (ze w0 w' g s0_0 x1001_1 x1002_1)/\zh (zA w w' g none)/\zh (Below w0.heap.size w0 w'))
 case atStart=>exact ⟨(0),(0),(s0_1),(s0_2),(by first|rfl|(simp;done)|(simp [*];done)),(by first|rfl|(simp;done)|(simp [*];done)),H',⟨Nat.le_refl _⟩,⟨by repeat (first|(with_reducible first|exact HI0.out|apply ze.alloc|apply ze.drewN|apply ze.drew|apply ze.set_1|apply ze.set_2)|exact HI0.out)⟩,⟨by repeat (first|(with_reducible first|exact HK.out|apply zA.set_|apply zL|apply zP|apply zM)|exact HK.out)⟩,⟨by repeat (first|(with_reducible first|exact HB.out|apply zz|apply zl|apply zC|refine zn ?_ (ze.ge HI0.out))|exact HB.out)⟩⟩
 case round=>
  clear H'
  try clear c1
  try clear p2
  obtain ⟨x5_1,x6_1,x1001_1,x1002_1,rfl,rfl,HA,HK1,HI0,HK,HB⟩:=hrel
  cases gk with
  | zero=>exact absurd HA.out (by simp [zaO.l0])
  | succ k1=>
   have H:=HA.out
   clear HA
   simp only [zaO.l0] at H
   by_cases c3:x6_1<7
   ·rw [if_pos c3] at H
    have c3b0:decide (x6_1<7)=true:=decide_eq_true c3
    clear c3
    replace H:=Option.bind_eq_some_iff.mp H
    obtain ⟨⟨t150,t151,t152⟩,A40,H⟩:=H
    replace H:(zaO.l0 k1 a1 (Go.bits .xor .i64 (wrap64 (x5_1*256)) t150) (wrap64 (x6_1+1)) s0_0 t151 t152)=some (r1,r2,r3):=H
    have A4:=zh.mk A40
    clear A40
    have H':=zh.mk H
    clear H
    go_wp2_with (first|((with_reducible refine zat (f:=171) rfl ?_);refine zcf (some 14) rfl rfl Tryz.func171 (by kernel_rfl) rfl #[.pointer (some ⟨g,0,none⟩)] rfl (by (try simp only [List.map_toArray,List.map_cons,List.map_nil]);first|done|rfl|(simp only [List.length_drop,List.length_take];rfl)) ?_;(with_reducible refine (zbd.calls g s0_0 x1001_1 x1002_1 t150 t151 t152 w0 _ ?side1 ?side2 A4.out).mono ?_);(case side1=>repeat (first|(with_reducible first|exact HI0.out|apply ze.alloc|apply ze.drewN|apply ze.drew|apply ze.set_1|apply ze.set_2)|exact HI0.out));(case side2=>repeat (first|(with_reducible first|exact HB.out|apply zz|apply zl|apply zC|refine zn ?_ (ze.ge HI0.out))|exact HB.out));rintro e w5 ⟨rfl,hi,hb,hk⟩;refine ⟨_,rfl,?_⟩;have n0_:=zh.mk (zA.trans (by repeat (first|(with_reducible first|exact HK.out|apply zA.set_|apply zL|apply zP|apply zM)|exact HK.out)) hk (.inl rfl));have n1_:=zh.mk (hb);have n2_:=zh.mk (hi);clear HK;clear HB;clear HI0;have HK:=n0_;have HB:=n1_;have HI0:=n2_;clear n0_ n1_ n2_;(try clear hb);(try clear hb2);(try clear hk);(try clear hi)))
    go_roundg k1
    case measure=>have:=HK1.out;omega
    case rel=>exact ⟨(Go.bits .xor .i64 (wrap64 (x5_1*256)) t150),(wrap64 (x6_1+1)),(t151),(t152),(by first|rfl|(simp;done)|(simp [*];done)),(by first|rfl|(simp;done)|(simp [*];done)),H',⟨by have:=HK1.out;omega⟩,⟨by repeat (first|(with_reducible first|exact HI0.out|apply ze.alloc|apply ze.drewN|apply ze.drew|apply ze.set_1|apply ze.set_2)|exact HI0.out)⟩,⟨by repeat (first|(with_reducible first|exact HK.out|apply zA.set_|apply zL|apply zP|apply zM)|exact HK.out)⟩,⟨by repeat (first|(with_reducible first|exact HB.out|apply zz|apply zl|apply zC|refine zn ?_ (ze.ge HI0.out))|exact HB.out)⟩⟩
   ·rw [if_neg c3] at H
    have c3b0:decide (x6_1<7)=false:=decide_eq_false c3
    clear c3
    by_cases c6:(wrap64 (a1+1))=0
    ·rw [if_pos c6] at H
     exact absurd H (by simp)
    ·rw [if_neg c6] at H
     have c6b0:((wrap64 (a1+1))==0)=false:=beq_eq_false_iff_ne.mpr c6
     have c6b1:((wrap64 (a1+1)) != 0)=true:=bne_iff_ne.mpr c6
     replace H:=Option.bind_eq_some_iff.mp H
     obtain ⟨⟨t153,t154,t155⟩,A70,H⟩:=H
     replace H:(if t153=0 then ((zW.f s0_0 t154 t155 40).bind fun bt156=>(if 0<=(IntKind.u64.wrap (bt156.1)) then ((zaK.f s0_0 bt156.2.1 bt156.2.2 2).bind fun bt159=>(if bt159.1=true then (some (wrap64 (-(shr .i64 (Int.tmod x5_1 (wrap64 (a1+1))) (IntKind.u64.wrap (bt156.1)))),bt159.2.1,bt159.2.2)) else (some (shr .i64 (Int.tmod x5_1 (wrap64 (a1+1))) (IntKind.u64.wrap (bt156.1)),bt159.2.1,bt159.2.2)))) else (none))) else (if t153=1 then ((zao.f s0_0 t154 t155 (([0,1,a1,wrap64 (Int.tdiv a1 2)]:List Int))).bind fun bt165=>((zaK.f s0_0 bt165.2.1 bt165.2.2 2).bind fun bt168=>(if bt168.1=true then (some (wrap64 (-bt165.1),bt168.2.1,bt168.2.2)) else (some (bt165.1,bt168.2.1,bt168.2.2))))) else ((zaK.f s0_0 t154 t155 2).bind fun bt171=>(if bt171.1=true then (some (wrap64 (-(Int.tmod x5_1 (wrap64 (a1+1)))),bt171.2.1,bt171.2.2)) else (some (Int.tmod x5_1 (wrap64 (a1+1)),bt171.2.1,bt171.2.2))))))=some (r1,r2,r3):=H
     have A7:=zh.mk A70
     clear A70
     by_cases c8:t153=0
     ·rw [if_pos c8] at H
      have c8b0:(t153==0)=true:=beq_iff_eq.mpr c8
      have c8b1:(t153 != 0)=false:=bne_eq_false_iff_eq.mpr c8
      clear c8
      replace H:=Option.bind_eq_some_iff.mp H
      obtain ⟨⟨t156,t157,t158⟩,A90,H⟩:=H
      replace H:(if 0<=(IntKind.u64.wrap (t156)) then ((zaK.f s0_0 t157 t158 2).bind fun bt159=>(if bt159.1=true then (some (wrap64 (-(shr .i64 (Int.tmod x5_1 (wrap64 (a1+1))) (IntKind.u64.wrap (t156)))),bt159.2.1,bt159.2.2)) else (some (shr .i64 (Int.tmod x5_1 (wrap64 (a1+1))) (IntKind.u64.wrap (t156)),bt159.2.1,bt159.2.2)))) else (none))=some (r1,r2,r3):=H
      have A9:=zh.mk A90
      clear A90
      obtain ⟨ji10,hji10⟩:∃j_:Int,(IntKind.u64.wrap (t156))=j_:=⟨_,rfl⟩
      replace H:(if 0<=(ji10) then ((zaK.f s0_0 t157 t158 2).bind fun bt159=>(if bt159.1=true then (some (wrap64 (-(shr .i64 (Int.tmod x5_1 (wrap64 (a1+1))) (ji10))),bt159.2.1,bt159.2.2)) else (some (shr .i64 (Int.tmod x5_1 (wrap64 (a1+1))) (ji10),bt159.2.1,bt159.2.2)))) else (none))=some (r1,r2,r3):=by first|(rw [hji10] at H;exact H)|(simp only [hji10] at H ⊢;exact H)
      (try rw [hji10] at A7)
      (try rw [hji10] at A9)
      by_cases c11:0<=(ji10)
      ·rw [if_pos c11] at H
       have c11b0:=eq_true c11
       have c11b1:decide (0<=(ji10))=true:=decide_eq_true c11
       clear c11
       obtain ⟨ji12,hji12⟩:∃j_:Int,(shr .i64 (Int.tmod x5_1 (wrap64 (a1+1))) (ji10))=j_:=⟨_,rfl⟩
       replace H:((zaK.f s0_0 t157 t158 2).bind fun bt159=>(if bt159.1=true then (some (wrap64 (-(ji12)),bt159.2.1,bt159.2.2)) else (some (ji12,bt159.2.1,bt159.2.2))))=some (r1,r2,r3):=by first|(rw [hji12] at H;exact H)|(simp only [hji12] at H ⊢;exact H)
       (try rw [hji12] at A7)
       (try rw [hji12] at A9)
       have hji12_:((Int.tmod x5_1 (wrap64 (a1+1)))/2^min (ji10).toNat 64)=ji12:=hji12
       have hji12z:(ji10)<=64->((Int.tmod x5_1 (wrap64 (a1+1)))/2^(ji10).toNat)=ji12:=shr_small hji12
       replace H:=Option.bind_eq_some_iff.mp H
       obtain ⟨⟨t159,t160,t161⟩,A130,H⟩:=H
       replace H:(if t159=true then (some (wrap64 (-(ji12)),t160,t161)) else (some (ji12,t160,t161)))=some (r1,r2,r3):=H
       have A13:=zh.mk A130
       clear A130
       by_cases c14:t159=true
       ·subst c14
        have H1:(some (wrap64 (-(ji12)),t160,t161))=some (r1,r2,r3):=by rw [if_pos rfl] at H;exact H
        clear H
        have H:=H1
        clear H1
        simp only [Option.some.injEq,Prod.mk.injEq] at H
        obtain ⟨rfl,rfl,rfl⟩:=H
        go_wp2_with (first|((with_reducible refine zat (f:=75) rfl ?_);refine zcf (some 21) rfl rfl Tryz.func75 (by kernel_rfl) rfl #[.pointer (some ⟨g,0,none⟩),.int .i64 5] rfl (by (try simp only [List.map_toArray,List.map_cons,List.map_nil]);first|done|rfl|(simp only [List.length_drop,List.length_take];rfl)) ?_;(with_reducible refine (zW.calls g s0_0 x1001_1 x1002_1 5 t153 t154 t155 w0 _ ?side1 ?side2 A7.out).mono ?_);(case side1=>repeat (first|(with_reducible first|exact HI0.out|apply ze.alloc|apply ze.drewN|apply ze.drew|apply ze.set_1|apply ze.set_2)|exact HI0.out));(case side2=>repeat (first|(with_reducible first|exact HB.out|apply zz|apply zl|apply zC|refine zn ?_ (ze.ge HI0.out))|exact HB.out));rintro e w15 ⟨rfl,hi,hb,hk⟩;refine ⟨_,rfl,?_⟩;have n0_:=zh.mk (zA.trans (by repeat (first|(with_reducible first|exact HK.out|apply zA.set_|apply zL|apply zP|apply zM)|exact HK.out)) hk (.inl rfl));have n1_:=zh.mk (hb);have n2_:=zh.mk (hi);clear HK;clear HB;clear HI0;have HK:=n0_;have HB:=n1_;have HI0:=n2_;clear n0_ n1_ n2_;(try clear hb);(try clear hb2);(try clear hk);(try clear hi))|((with_reducible refine zat (f:=75) rfl ?_);refine zcf (some 26) rfl rfl Tryz.func75 (by kernel_rfl) rfl #[.pointer (some ⟨g,0,none⟩),.int .i64 40] rfl (by (try simp only [List.map_toArray,List.map_cons,List.map_nil]);first|done|rfl|(simp only [List.length_drop,List.length_take];rfl)) ?_;(with_reducible refine (zW.calls g s0_0 t154 t155 40 t156 t157 t158 w0 _ ?side1 ?side2 A9.out).mono ?_);(case side1=>repeat (first|(with_reducible first|exact HI0.out|apply ze.alloc|apply ze.drewN|apply ze.drew|apply ze.set_1|apply ze.set_2)|exact HI0.out));(case side2=>repeat (first|(with_reducible first|exact HB.out|apply zz|apply zl|apply zC|refine zn ?_ (ze.ge HI0.out))|exact HB.out));rintro e w16 ⟨rfl,hi,hb,hk⟩;refine ⟨_,rfl,?_⟩;have n0_:=zh.mk (zA.trans (by repeat (first|(with_reducible first|exact HK.out|apply zA.set_|apply zL|apply zP|apply zM)|exact HK.out)) hk (.inl rfl));have n1_:=zh.mk (hb);have n2_:=zh.mk (hi);clear HK;clear HB;clear HI0;have HK:=n0_;have HB:=n1_;have HI0:=n2_;clear n0_ n1_ n2_;(try clear hb);(try clear hb2);(try clear hk);(try clear hi))|((with_reducible refine zat (f:=187) rfl ?_);refine zcf (some 38) rfl rfl Tryz.func187 (by kernel_rfl) rfl #[.pointer (some ⟨g,0,none⟩),.int .i64 2] rfl (by (try simp only [List.map_toArray,List.map_cons,List.map_nil]);first|done|rfl|(simp only [List.length_drop,List.length_take];rfl)) ?_;(with_reducible refine (zaK.calls g s0_0 t157 t158 2 true t160 t161 w0 _ ?side1 ?side2 A13.out).mono ?_);(case side1=>repeat (first|(with_reducible first|exact HI0.out|apply ze.alloc|apply ze.drewN|apply ze.drew|apply ze.set_1|apply ze.set_2)|exact HI0.out));(case side2=>repeat (first|(with_reducible first|exact HB.out|apply zz|apply zl|apply zC|refine zn ?_ (ze.ge HI0.out))|exact HB.out));rintro e w17 ⟨rfl,hi,hb,hk⟩;refine ⟨_,rfl,?_⟩;have n0_:=zh.mk (zA.trans (by repeat (first|(with_reducible first|exact HK.out|apply zA.set_|apply zL|apply zP|apply zM)|exact HK.out)) hk (.inl rfl));have n1_:=zh.mk (hb);have n2_:=zh.mk (hi);clear HK;clear HB;clear HI0;have HK:=n0_;have HB:=n1_;have HI0:=n2_;clear n0_ n1_ n2_;(try clear hb);(try clear hb2);(try clear hk);(try clear hi)))
        go_ret
        exact ⟨by first|rfl|(simp [zaz,zay]<;>rfl)|(simp only [<- hji10,<- hji12];first|rfl|(simp [zaz,zay]<;>rfl))|(simp [*,zaz,zay]<;>rfl),by repeat (first|(with_reducible first|exact HI0.out|apply ze.alloc|apply ze.drewN|apply ze.drew|apply ze.set_1|apply ze.set_2)|exact HI0.out),by repeat (first|(with_reducible first|exact HB.out|apply zz|apply zl|apply zC|refine zn ?_ (ze.ge HI0.out))|exact HB.out),by repeat (first|(with_reducible first|exact HK.out|apply zA.set_|apply zL|apply zP|apply zM)|exact HK.out)⟩
       ·replace c14:=Bool.eq_false_iff.mpr c14
        subst c14
        have H1:(some (ji12,t160,t161))=some (r1,r2,r3):=by rw [if_neg (show ¬(false=true) by decide)] at H;exact H
        clear H
        have H:=H1
        clear H1
        simp only [Option.some.injEq,Prod.mk.injEq] at H
        obtain ⟨rfl,rfl,rfl⟩:=H
        go_wp2_with (first|((with_reducible refine zat (f:=75) rfl ?_);refine zcf (some 21) rfl rfl Tryz.func75 (by kernel_rfl) rfl #[.pointer (some ⟨g,0,none⟩),.int .i64 5] rfl (by (try simp only [List.map_toArray,List.map_cons,List.map_nil]);first|done|rfl|(simp only [List.length_drop,List.length_take];rfl)) ?_;(with_reducible refine (zW.calls g s0_0 x1001_1 x1002_1 5 t153 t154 t155 w0 _ ?side1 ?side2 A7.out).mono ?_);(case side1=>repeat (first|(with_reducible first|exact HI0.out|apply ze.alloc|apply ze.drewN|apply ze.drew|apply ze.set_1|apply ze.set_2)|exact HI0.out));(case side2=>repeat (first|(with_reducible first|exact HB.out|apply zz|apply zl|apply zC|refine zn ?_ (ze.ge HI0.out))|exact HB.out));rintro e w18 ⟨rfl,hi,hb,hk⟩;refine ⟨_,rfl,?_⟩;have n0_:=zh.mk (zA.trans (by repeat (first|(with_reducible first|exact HK.out|apply zA.set_|apply zL|apply zP|apply zM)|exact HK.out)) hk (.inl rfl));have n1_:=zh.mk (hb);have n2_:=zh.mk (hi);clear HK;clear HB;clear HI0;have HK:=n0_;have HB:=n1_;have HI0:=n2_;clear n0_ n1_ n2_;(try clear hb);(try clear hb2);(try clear hk);(try clear hi))|((with_reducible refine zat (f:=75) rfl ?_);refine zcf (some 26) rfl rfl Tryz.func75 (by kernel_rfl) rfl #[.pointer (some ⟨g,0,none⟩),.int .i64 40] rfl (by (try simp only [List.map_toArray,List.map_cons,List.map_nil]);first|done|rfl|(simp only [List.length_drop,List.length_take];rfl)) ?_;(with_reducible refine (zW.calls g s0_0 t154 t155 40 t156 t157 t158 w0 _ ?side1 ?side2 A9.out).mono ?_);(case side1=>repeat (first|(with_reducible first|exact HI0.out|apply ze.alloc|apply ze.drewN|apply ze.drew|apply ze.set_1|apply ze.set_2)|exact HI0.out));(case side2=>repeat (first|(with_reducible first|exact HB.out|apply zz|apply zl|apply zC|refine zn ?_ (ze.ge HI0.out))|exact HB.out));rintro e w19 ⟨rfl,hi,hb,hk⟩;refine ⟨_,rfl,?_⟩;have n0_:=zh.mk (zA.trans (by repeat (first|(with_reducible first|exact HK.out|apply zA.set_|apply zL|apply zP|apply zM)|exact HK.out)) hk (.inl rfl));have n1_:=zh.mk (hb);have n2_:=zh.mk (hi);clear HK;clear HB;clear HI0;have HK:=n0_;have HB:=n1_;have HI0:=n2_;clear n0_ n1_ n2_;(try clear hb);(try clear hb2);(try clear hk);(try clear hi))|((with_reducible refine zat (f:=187) rfl ?_);refine zcf (some 38) rfl rfl Tryz.func187 (by kernel_rfl) rfl #[.pointer (some ⟨g,0,none⟩),.int .i64 2] rfl (by (try simp only [List.map_toArray,List.map_cons,List.map_nil]);first|done|rfl|(simp only [List.length_drop,List.length_take];rfl)) ?_;(with_reducible refine (zaK.calls g s0_0 t157 t158 2 false t160 t161 w0 _ ?side1 ?side2 A13.out).mono ?_);(case side1=>repeat (first|(with_reducible first|exact HI0.out|apply ze.alloc|apply ze.drewN|apply ze.drew|apply ze.set_1|apply ze.set_2)|exact HI0.out));(case side2=>repeat (first|(with_reducible first|exact HB.out|apply zz|apply zl|apply zC|refine zn ?_ (ze.ge HI0.out))|exact HB.out));rintro e w20 ⟨rfl,hi,hb,hk⟩;refine ⟨_,rfl,?_⟩;have n0_:=zh.mk (zA.trans (by repeat (first|(with_reducible first|exact HK.out|apply zA.set_|apply zL|apply zP|apply zM)|exact HK.out)) hk (.inl rfl));have n1_:=zh.mk (hb);have n2_:=zh.mk (hi);clear HK;clear HB;clear HI0;have HK:=n0_;have HB:=n1_;have HI0:=n2_;clear n0_ n1_ n2_;(try clear hb);(try clear hb2);(try clear hk);(try clear hi)))
        go_ret
        exact ⟨by first|rfl|(simp [zaz,zay]<;>rfl)|(simp only [<- hji10,<- hji12];first|rfl|(simp [zaz,zay]<;>rfl))|(simp [*,zaz,zay]<;>rfl),by repeat (first|(with_reducible first|exact HI0.out|apply ze.alloc|apply ze.drewN|apply ze.drew|apply ze.set_1|apply ze.set_2)|exact HI0.out),by repeat (first|(with_reducible first|exact HB.out|apply zz|apply zl|apply zC|refine zn ?_ (ze.ge HI0.out))|exact HB.out),by repeat (first|(with_reducible first|exact HK.out|apply zA.set_|apply zL|apply zP|apply zM)|exact HK.out)⟩
      ·rw [if_neg c11] at H
       exact absurd H (by simp)
     ·rw [if_neg c8] at H
      have c8b0:(t153==0)=false:=beq_eq_false_iff_ne.mpr c8
      have c8b1:(t153 != 0)=true:=bne_iff_ne.mpr c8
      by_cases c21:t153=1
      ·rw [if_pos c21] at H
       have c21b0:(t153==1)=true:=beq_iff_eq.mpr c21
       have c21b1:(t153 != 1)=false:=bne_eq_false_iff_eq.mpr c21
       clear c21
       obtain ⟨y162,hy162⟩:∃y_:List Int,y_=(([0,1,a1,wrap64 (Int.tdiv a1 2)]:List Int)):=⟨_,rfl⟩
       replace H:((zao.f s0_0 t154 t155 y162).bind fun bt165=>((zaK.f s0_0 bt165.2.1 bt165.2.2 2).bind fun bt168=>(if bt168.1=true then (some (wrap64 (-bt165.1),bt168.2.1,bt168.2.2)) else (some (bt165.1,bt168.2.1,bt168.2.2)))))=some (r1,r2,r3):=by first|(rw [hy162];with_reducible exact H)|(have H2_:=(Option.bind_some _ _).symm.trans H;rw [hy162];with_reducible exact H2_)|(have H2_:=(Option.bind_some _ _).symm.trans H;with_reducible exact H2_)|with_reducible exact H|(rw [hy162];exact H)|exact H
       have Ny162:=zh.mk hy162
       clear hy162
       replace H:=Option.bind_eq_some_iff.mp H
       obtain ⟨⟨t165,t166,t167⟩,A220,H⟩:=H
       replace H:((zaK.f s0_0 t166 t167 2).bind fun bt168=>(if bt168.1=true then (some (wrap64 (-t165),bt168.2.1,bt168.2.2)) else (some (t165,bt168.2.1,bt168.2.2))))=some (r1,r2,r3):=H
       have A22:=zh.mk A220
       clear A220
       replace H:=Option.bind_eq_some_iff.mp H
       obtain ⟨⟨t168,t169,t170⟩,A230,H⟩:=H
       replace H:(if t168=true then (some (wrap64 (-t165),t169,t170)) else (some (t165,t169,t170)))=some (r1,r2,r3):=H
       have A23:=zh.mk A230
       clear A230
       by_cases c24:t168=true
       ·subst c24
        have H1:(some (wrap64 (-t165),t169,t170))=some (r1,r2,r3):=by rw [if_pos rfl] at H;exact H
        clear H
        have H:=H1
        clear H1
        simp only [Option.some.injEq,Prod.mk.injEq] at H
        obtain ⟨rfl,rfl,rfl⟩:=H
        go_wp2_with (first|((with_reducible refine zat (f:=75) rfl ?_);refine zcf (some 21) rfl rfl Tryz.func75 (by kernel_rfl) rfl #[.pointer (some ⟨g,0,none⟩),.int .i64 5] rfl (by (try simp only [List.map_toArray,List.map_cons,List.map_nil]);first|done|rfl|(simp only [List.length_drop,List.length_take];rfl)) ?_;(with_reducible refine (zW.calls g s0_0 x1001_1 x1002_1 5 t153 t154 t155 w0 _ ?side1 ?side2 A7.out).mono ?_);(case side1=>repeat (first|(with_reducible first|exact HI0.out|apply ze.alloc|apply ze.drewN|apply ze.drew|apply ze.set_1|apply ze.set_2)|exact HI0.out));(case side2=>repeat (first|(with_reducible first|exact HB.out|apply zz|apply zl|apply zC|refine zn ?_ (ze.ge HI0.out))|exact HB.out));rintro e w25 ⟨rfl,hi,hb,hk⟩;refine ⟨_,rfl,?_⟩;have n0_:=zh.mk (zA.trans (by repeat (first|(with_reducible first|exact HK.out|apply zA.set_|apply zL|apply zP|apply zM)|exact HK.out)) hk (.inl rfl));have n1_:=zh.mk (hb);have n2_:=zh.mk (hi);clear HK;clear HB;clear HI0;have HK:=n0_;have HB:=n1_;have HI0:=n2_;clear n0_ n1_ n2_;(try clear hb);(try clear hb2);(try clear hk);(try clear hi))|((with_reducible refine zcT (N:=35) rfl ?_);refine Kd.R_lit (Kd.int .i64) _ 2 ?hg (N:=35) ?hd (xs:=([0,1,a1,wrap64 (Int.tdiv a1 2)]:List Int)) (inner:= [.int .i64 0,.int .i64 1,.int .i64 a1,.int .i64 (wrap64 (Int.tdiv a1 2))]) (ok:=fun _=>True) (okp:=fun _=>True) ?hr ?hp (fun _ hk=>hk) trivial (Below.refl _ _) (Nat.le_refl _) (by simp) ?_;(case hd=>rfl);(case hg=>rfl);(case hr=>first|(go_simp;done)|(go_simp;rfl));(case hp=>exact (Reps.one (show Kd.M (Kd.int .i64) _ _ _ 0 [.int .i64 0] from rfl) (Reps.one (show Kd.M (Kd.int .i64) _ _ _ 1 [.int .i64 1] from rfl) (Reps.one (show Kd.M (Kd.int .i64) _ _ _ a1 [.int .i64 a1] from rfl) (Reps.one (show Kd.M (Kd.int .i64) _ _ _ (wrap64 (Int.tdiv a1 2)) [.int .i64 (wrap64 (Int.tdiv a1 2))] from rfl) (Reps.none _ _))))));intro v163 w26 ho27 hb hg_ hnew_;clear hg_ hnew_;(first|rw [<- Ny162.out] at ho27|(simp only [Int.reduceToNat] at ho27;rw [<- Ny162.out] at ho27));have n0_:=zh.mk (Kd.R_lower ho27 (zce (w:=w) (g:=g) (row:=none) (by repeat (first|(with_reducible first|exact HK.out|apply zA.set_|apply zL|apply zP|apply zM)|exact HK.out))));have n1_:=zh.mk (ze.below (by repeat (first|(with_reducible first|exact HI0.out|apply ze.alloc|apply ze.drewN|apply ze.drew|apply ze.set_1|apply ze.set_2)|exact HI0.out)) hb);have n2_:=zh.mk (zA.trans (by repeat (first|(with_reducible first|exact HK.out|apply zA.set_|apply zL|apply zP|apply zM)|exact HK.out)) (zA.of_below hb g none) (.inl rfl));have n3_:=zh.mk (zbs (by repeat (first|(with_reducible first|exact HB.out|apply zz|apply zl|apply zC|refine zn ?_ (ze.ge HI0.out))|exact HB.out)) hb);clear HI0;clear HK;clear HB;have HO164:=n0_;have HI0:=n1_;have HK:=n2_;have HB:=n3_;clear n0_ n1_ n2_ n3_;clear hb ho27;obtain ⟨Ao28,co28,eo28⟩:=Kd.R_slice HO164.out;subst eo28)|((with_reducible refine zat (f:=170) rfl ?_);refine zcf (some 36) rfl rfl Tryz.func170 (by kernel_rfl) rfl #[.pointer (some ⟨g,0,none⟩),.slice Ao28 y162.length co28] rfl (by (try simp only [List.map_toArray,List.map_cons,List.map_nil]);first|done|rfl|(simp only [List.length_drop,List.length_take];rfl)) ?_;(with_reducible refine (zao.calls g s0_0 t154 t155 _ _ y162 t165 t166 t167 w0 _ ?side1 ?side2 ?side3 ?side4 ?side5 A22.out).mono ?_);(case side1=>repeat (first|(with_reducible first|exact HI0.out|apply ze.alloc|apply ze.drewN|apply ze.drew|apply ze.set_1|apply ze.set_2)|exact HI0.out));(case side2=>repeat (first|(with_reducible first|exact HB.out|apply zz|apply zl|apply zC|refine zn ?_ (ze.ge HI0.out))|exact HB.out));(case side3=>repeat (first|exact (Kd.R_reads' HO164.out).2.2|(with_reducible refine Kd.C_alloc ?_ _)|(with_reducible refine Kd.C_drewN ?_ _)|(with_reducible refine Kd.C_drew ?_)));(case side4=>exact (Kd.R_reads' HO164.out).2.1);(case side5=>exact far_slice (ze.own_ne HI0.out HO164.out (by decide)));rintro e w29 ⟨rfl,hi,hb,hk⟩;refine ⟨_,rfl,?_⟩;have n0_:=zh.mk (Kd.R_mono (Kd.R_keep (ze.apart (show ze w0 _ g s0_0 t154 t155 from by repeat (first|(with_reducible first|exact HI0.out|apply ze.alloc|apply ze.drewN|apply ze.drew|apply ze.set_1|apply ze.set_2)|exact HI0.out)) (by (with_reducible repeat (first|apply Kd.R_alloc|apply Kd.R_drewN|apply Kd.R_drew));exact HO164.out) (by decide)) hk (fun _ h=>h.2)) (fun _ h=>h.1));have n1_:=zh.mk (zA.trans (by repeat (first|(with_reducible first|exact HK.out|apply zA.set_|apply zL|apply zP|apply zM)|exact HK.out)) hk (.inl rfl));have n2_:=zh.mk (hb);have n3_:=zh.mk (hi);clear HO164;clear HK;clear HB;clear HI0;have HO164:=n0_;have HK:=n1_;have HB:=n2_;have HI0:=n3_;clear n0_ n1_ n2_ n3_;(try clear hb);(try clear hb2);(try clear hk);(try clear hi))|((with_reducible refine zat (f:=187) rfl ?_);refine zcf (some 38) rfl rfl Tryz.func187 (by kernel_rfl) rfl #[.pointer (some ⟨g,0,none⟩),.int .i64 2] rfl (by (try simp only [List.map_toArray,List.map_cons,List.map_nil]);first|done|rfl|(simp only [List.length_drop,List.length_take];rfl)) ?_;(with_reducible refine (zaK.calls g s0_0 t166 t167 2 true t169 t170 w0 _ ?side1 ?side2 A23.out).mono ?_);(case side1=>repeat (first|(with_reducible first|exact HI0.out|apply ze.alloc|apply ze.drewN|apply ze.drew|apply ze.set_1|apply ze.set_2)|exact HI0.out));(case side2=>repeat (first|(with_reducible first|exact HB.out|apply zz|apply zl|apply zC|refine zn ?_ (ze.ge HI0.out))|exact HB.out));rintro e w30 ⟨rfl,hi,hb,hk⟩;refine ⟨_,rfl,?_⟩;have n0_:=zh.mk (Kd.R_mono (Kd.R_keep (ze.apart (show ze w0 _ g s0_0 t166 t167 from by repeat (first|(with_reducible first|exact HI0.out|apply ze.alloc|apply ze.drewN|apply ze.drew|apply ze.set_1|apply ze.set_2)|exact HI0.out)) (by (with_reducible repeat (first|apply Kd.R_alloc|apply Kd.R_drewN|apply Kd.R_drew));exact HO164.out) (by decide)) hk (fun _ h=>h.2)) (fun _ h=>h.1));have n1_:=zh.mk (zA.trans (by repeat (first|(with_reducible first|exact HK.out|apply zA.set_|apply zL|apply zP|apply zM)|exact HK.out)) hk (.inl rfl));have n2_:=zh.mk (hb);have n3_:=zh.mk (hi);clear HO164;clear HK;clear HB;clear HI0;have HO164:=n0_;have HK:=n1_;have HB:=n2_;have HI0:=n3_;clear n0_ n1_ n2_ n3_;(try clear hb);(try clear hb2);(try clear hk);(try clear hi)))
        go_ret
        exact ⟨by first|rfl|(simp [zaz,zay]<;>rfl)|(simp [*,zaz,zay]<;>rfl),by repeat (first|(with_reducible first|exact HI0.out|apply ze.alloc|apply ze.drewN|apply ze.drew|apply ze.set_1|apply ze.set_2)|exact HI0.out),by repeat (first|(with_reducible first|exact HB.out|apply zz|apply zl|apply zC|refine zn ?_ (ze.ge HI0.out))|exact HB.out),by repeat (first|(with_reducible first|exact HK.out|apply zA.set_|apply zL|apply zP|apply zM)|exact HK.out)⟩
       ·replace c24:=Bool.eq_false_iff.mpr c24
        subst c24
        have H1:(some (t165,t169,t170))=some (r1,r2,r3):=by rw [if_neg (show ¬(false=true) by decide)] at H;exact H
        clear H
        have H:=H1
        clear H1
        simp only [Option.some.injEq,Prod.mk.injEq] at H
        obtain ⟨rfl,rfl,rfl⟩:=H
        go_wp2_with (first|((with_reducible refine zat (f:=75) rfl ?_);refine zcf (some 21) rfl rfl Tryz.func75 (by kernel_rfl) rfl #[.pointer (some ⟨g,0,none⟩),.int .i64 5] rfl (by (try simp only [List.map_toArray,List.map_cons,List.map_nil]);first|done|rfl|(simp only [List.length_drop,List.length_take];rfl)) ?_;(with_reducible refine (zW.calls g s0_0 x1001_1 x1002_1 5 t153 t154 t155 w0 _ ?side1 ?side2 A7.out).mono ?_);(case side1=>repeat (first|(with_reducible first|exact HI0.out|apply ze.alloc|apply ze.drewN|apply ze.drew|apply ze.set_1|apply ze.set_2)|exact HI0.out));(case side2=>repeat (first|(with_reducible first|exact HB.out|apply zz|apply zl|apply zC|refine zn ?_ (ze.ge HI0.out))|exact HB.out));rintro e w31 ⟨rfl,hi,hb,hk⟩;refine ⟨_,rfl,?_⟩;have n0_:=zh.mk (zA.trans (by repeat (first|(with_reducible first|exact HK.out|apply zA.set_|apply zL|apply zP|apply zM)|exact HK.out)) hk (.inl rfl));have n1_:=zh.mk (hb);have n2_:=zh.mk (hi);clear HK;clear HB;clear HI0;have HK:=n0_;have HB:=n1_;have HI0:=n2_;clear n0_ n1_ n2_;(try clear hb);(try clear hb2);(try clear hk);(try clear hi))|((with_reducible refine zcT (N:=35) rfl ?_);refine Kd.R_lit (Kd.int .i64) _ 2 ?hg (N:=35) ?hd (xs:=([0,1,a1,wrap64 (Int.tdiv a1 2)]:List Int)) (inner:= [.int .i64 0,.int .i64 1,.int .i64 a1,.int .i64 (wrap64 (Int.tdiv a1 2))]) (ok:=fun _=>True) (okp:=fun _=>True) ?hr ?hp (fun _ hk=>hk) trivial (Below.refl _ _) (Nat.le_refl _) (by simp) ?_;(case hd=>rfl);(case hg=>rfl);(case hr=>first|(go_simp;done)|(go_simp;rfl));(case hp=>exact (Reps.one (show Kd.M (Kd.int .i64) _ _ _ 0 [.int .i64 0] from rfl) (Reps.one (show Kd.M (Kd.int .i64) _ _ _ 1 [.int .i64 1] from rfl) (Reps.one (show Kd.M (Kd.int .i64) _ _ _ a1 [.int .i64 a1] from rfl) (Reps.one (show Kd.M (Kd.int .i64) _ _ _ (wrap64 (Int.tdiv a1 2)) [.int .i64 (wrap64 (Int.tdiv a1 2))] from rfl) (Reps.none _ _))))));intro v163 w32 ho33 hb hg_ hnew_;clear hg_ hnew_;(first|rw [<- Ny162.out] at ho33|(simp only [Int.reduceToNat] at ho33;rw [<- Ny162.out] at ho33));have n0_:=zh.mk (Kd.R_lower ho33 (zce (w:=w) (g:=g) (row:=none) (by repeat (first|(with_reducible first|exact HK.out|apply zA.set_|apply zL|apply zP|apply zM)|exact HK.out))));have n1_:=zh.mk (ze.below (by repeat (first|(with_reducible first|exact HI0.out|apply ze.alloc|apply ze.drewN|apply ze.drew|apply ze.set_1|apply ze.set_2)|exact HI0.out)) hb);have n2_:=zh.mk (zA.trans (by repeat (first|(with_reducible first|exact HK.out|apply zA.set_|apply zL|apply zP|apply zM)|exact HK.out)) (zA.of_below hb g none) (.inl rfl));have n3_:=zh.mk (zbs (by repeat (first|(with_reducible first|exact HB.out|apply zz|apply zl|apply zC|refine zn ?_ (ze.ge HI0.out))|exact HB.out)) hb);clear HI0;clear HK;clear HB;have HO164:=n0_;have HI0:=n1_;have HK:=n2_;have HB:=n3_;clear n0_ n1_ n2_ n3_;clear hb ho33;obtain ⟨Ao34,co34,eo34⟩:=Kd.R_slice HO164.out;subst eo34)|((with_reducible refine zat (f:=170) rfl ?_);refine zcf (some 36) rfl rfl Tryz.func170 (by kernel_rfl) rfl #[.pointer (some ⟨g,0,none⟩),.slice Ao34 y162.length co34] rfl (by (try simp only [List.map_toArray,List.map_cons,List.map_nil]);first|done|rfl|(simp only [List.length_drop,List.length_take];rfl)) ?_;(with_reducible refine (zao.calls g s0_0 t154 t155 _ _ y162 t165 t166 t167 w0 _ ?side1 ?side2 ?side3 ?side4 ?side5 A22.out).mono ?_);(case side1=>repeat (first|(with_reducible first|exact HI0.out|apply ze.alloc|apply ze.drewN|apply ze.drew|apply ze.set_1|apply ze.set_2)|exact HI0.out));(case side2=>repeat (first|(with_reducible first|exact HB.out|apply zz|apply zl|apply zC|refine zn ?_ (ze.ge HI0.out))|exact HB.out));(case side3=>repeat (first|exact (Kd.R_reads' HO164.out).2.2|(with_reducible refine Kd.C_alloc ?_ _)|(with_reducible refine Kd.C_drewN ?_ _)|(with_reducible refine Kd.C_drew ?_)));(case side4=>exact (Kd.R_reads' HO164.out).2.1);(case side5=>exact far_slice (ze.own_ne HI0.out HO164.out (by decide)));rintro e w35 ⟨rfl,hi,hb,hk⟩;refine ⟨_,rfl,?_⟩;have n0_:=zh.mk (Kd.R_mono (Kd.R_keep (ze.apart (show ze w0 _ g s0_0 t154 t155 from by repeat (first|(with_reducible first|exact HI0.out|apply ze.alloc|apply ze.drewN|apply ze.drew|apply ze.set_1|apply ze.set_2)|exact HI0.out)) (by (with_reducible repeat (first|apply Kd.R_alloc|apply Kd.R_drewN|apply Kd.R_drew));exact HO164.out) (by decide)) hk (fun _ h=>h.2)) (fun _ h=>h.1));have n1_:=zh.mk (zA.trans (by repeat (first|(with_reducible first|exact HK.out|apply zA.set_|apply zL|apply zP|apply zM)|exact HK.out)) hk (.inl rfl));have n2_:=zh.mk (hb);have n3_:=zh.mk (hi);clear HO164;clear HK;clear HB;clear HI0;have HO164:=n0_;have HK:=n1_;have HB:=n2_;have HI0:=n3_;clear n0_ n1_ n2_ n3_;(try clear hb);(try clear hb2);(try clear hk);(try clear hi))|((with_reducible refine zat (f:=187) rfl ?_);refine zcf (some 38) rfl rfl Tryz.func187 (by kernel_rfl) rfl #[.pointer (some ⟨g,0,none⟩),.int .i64 2] rfl (by (try simp only [List.map_toArray,List.map_cons,List.map_nil]);first|done|rfl|(simp only [List.length_drop,List.length_take];rfl)) ?_;(with_reducible refine (zaK.calls g s0_0 t166 t167 2 false t169 t170 w0 _ ?side1 ?side2 A23.out).mono ?_);(case side1=>repeat (first|(with_reducible first|exact HI0.out|apply ze.alloc|apply ze.drewN|apply ze.drew|apply ze.set_1|apply ze.set_2)|exact HI0.out));(case side2=>repeat (first|(with_reducible first|exact HB.out|apply zz|apply zl|apply zC|refine zn ?_ (ze.ge HI0.out))|exact HB.out));rintro e w36 ⟨rfl,hi,hb,hk⟩;refine ⟨_,rfl,?_⟩;have n0_:=zh.mk (Kd.R_mono (Kd.R_keep (ze.apart (show ze w0 _ g s0_0 t166 t167 from by repeat (first|(with_reducible first|exact HI0.out|apply ze.alloc|apply ze.drewN|apply ze.drew|apply ze.set_1|apply ze.set_2)|exact HI0.out)) (by (with_reducible repeat (first|apply Kd.R_alloc|apply Kd.R_drewN|apply Kd.R_drew));exact HO164.out) (by decide)) hk (fun _ h=>h.2)) (fun _ h=>h.1));have n1_:=zh.mk (zA.trans (by repeat (first|(with_reducible first|exact HK.out|apply zA.set_|apply zL|apply zP|apply zM)|exact HK.out)) hk (.inl rfl));have n2_:=zh.mk (hb);have n3_:=zh.mk (hi);clear HO164;clear HK;clear HB;clear HI0;have HO164:=n0_;have HK:=n1_;have HB:=n2_;have HI0:=n3_;clear n0_ n1_ n2_ n3_;(try clear hb);(try clear hb2);(try clear hk);(try clear hi)))
        go_ret
        exact ⟨by first|rfl|(simp [zaz,zay]<;>rfl)|(simp [*,zaz,zay]<;>rfl),by repeat (first|(with_reducible first|exact HI0.out|apply ze.alloc|apply ze.drewN|apply ze.drew|apply ze.set_1|apply ze.set_2)|exact HI0.out),by repeat (first|(with_reducible first|exact HB.out|apply zz|apply zl|apply zC|refine zn ?_ (ze.ge HI0.out))|exact HB.out),by repeat (first|(with_reducible first|exact HK.out|apply zA.set_|apply zL|apply zP|apply zM)|exact HK.out)⟩
      ·rw [if_neg c21] at H
       have c21b0:(t153==1)=false:=beq_eq_false_iff_ne.mpr c21
       have c21b1:(t153 != 1)=true:=bne_iff_ne.mpr c21
       replace H:=Option.bind_eq_some_iff.mp H
       obtain ⟨⟨t171,t172,t173⟩,A370,H⟩:=H
       replace H:(if t171=true then (some (wrap64 (-(Int.tmod x5_1 (wrap64 (a1+1)))),t172,t173)) else (some (Int.tmod x5_1 (wrap64 (a1+1)),t172,t173)))=some (r1,r2,r3):=H
       have A37:=zh.mk A370
       clear A370
       by_cases c38:t171=true
       ·subst c38
        have H1:(some (wrap64 (-(Int.tmod x5_1 (wrap64 (a1+1)))),t172,t173))=some (r1,r2,r3):=by rw [if_pos rfl] at H;exact H
        clear H
        have H:=H1
        clear H1
        simp only [Option.some.injEq,Prod.mk.injEq] at H
        obtain ⟨rfl,rfl,rfl⟩:=H
        go_wp2_with (first|((with_reducible refine zat (f:=75) rfl ?_);refine zcf (some 21) rfl rfl Tryz.func75 (by kernel_rfl) rfl #[.pointer (some ⟨g,0,none⟩),.int .i64 5] rfl (by (try simp only [List.map_toArray,List.map_cons,List.map_nil]);first|done|rfl|(simp only [List.length_drop,List.length_take];rfl)) ?_;(with_reducible refine (zW.calls g s0_0 x1001_1 x1002_1 5 t153 t154 t155 w0 _ ?side1 ?side2 A7.out).mono ?_);(case side1=>repeat (first|(with_reducible first|exact HI0.out|apply ze.alloc|apply ze.drewN|apply ze.drew|apply ze.set_1|apply ze.set_2)|exact HI0.out));(case side2=>repeat (first|(with_reducible first|exact HB.out|apply zz|apply zl|apply zC|refine zn ?_ (ze.ge HI0.out))|exact HB.out));rintro e w39 ⟨rfl,hi,hb,hk⟩;refine ⟨_,rfl,?_⟩;have n0_:=zh.mk (zA.trans (by repeat (first|(with_reducible first|exact HK.out|apply zA.set_|apply zL|apply zP|apply zM)|exact HK.out)) hk (.inl rfl));have n1_:=zh.mk (hb);have n2_:=zh.mk (hi);clear HK;clear HB;clear HI0;have HK:=n0_;have HB:=n1_;have HI0:=n2_;clear n0_ n1_ n2_;(try clear hb);(try clear hb2);(try clear hk);(try clear hi))|((with_reducible refine zat (f:=187) rfl ?_);refine zcf (some 38) rfl rfl Tryz.func187 (by kernel_rfl) rfl #[.pointer (some ⟨g,0,none⟩),.int .i64 2] rfl (by (try simp only [List.map_toArray,List.map_cons,List.map_nil]);first|done|rfl|(simp only [List.length_drop,List.length_take];rfl)) ?_;(with_reducible refine (zaK.calls g s0_0 t154 t155 2 true t172 t173 w0 _ ?side1 ?side2 A37.out).mono ?_);(case side1=>repeat (first|(with_reducible first|exact HI0.out|apply ze.alloc|apply ze.drewN|apply ze.drew|apply ze.set_1|apply ze.set_2)|exact HI0.out));(case side2=>repeat (first|(with_reducible first|exact HB.out|apply zz|apply zl|apply zC|refine zn ?_ (ze.ge HI0.out))|exact HB.out));rintro e w40 ⟨rfl,hi,hb,hk⟩;refine ⟨_,rfl,?_⟩;have n0_:=zh.mk (zA.trans (by repeat (first|(with_reducible first|exact HK.out|apply zA.set_|apply zL|apply zP|apply zM)|exact HK.out)) hk (.inl rfl));have n1_:=zh.mk (hb);have n2_:=zh.mk (hi);clear HK;clear HB;clear HI0;have HK:=n0_;have HB:=n1_;have HI0:=n2_;clear n0_ n1_ n2_;(try clear hb);(try clear hb2);(try clear hk);(try clear hi)))
        go_ret
        exact ⟨by first|rfl|(simp [zaz,zay]<;>rfl)|(simp [*,zaz,zay]<;>rfl),by repeat (first|(with_reducible first|exact HI0.out|apply ze.alloc|apply ze.drewN|apply ze.drew|apply ze.set_1|apply ze.set_2)|exact HI0.out),by repeat (first|(with_reducible first|exact HB.out|apply zz|apply zl|apply zC|refine zn ?_ (ze.ge HI0.out))|exact HB.out),by repeat (first|(with_reducible first|exact HK.out|apply zA.set_|apply zL|apply zP|apply zM)|exact HK.out)⟩
       ·replace c38:=Bool.eq_false_iff.mpr c38
        subst c38
        have H1:(some (Int.tmod x5_1 (wrap64 (a1+1)),t172,t173))=some (r1,r2,r3):=by rw [if_neg (show ¬(false=true) by decide)] at H;exact H
        clear H
        have H:=H1
        clear H1
        simp only [Option.some.injEq,Prod.mk.injEq] at H
        obtain ⟨rfl,rfl,rfl⟩:=H
        go_wp2_with (first|((with_reducible refine zat (f:=75) rfl ?_);refine zcf (some 21) rfl rfl Tryz.func75 (by kernel_rfl) rfl #[.pointer (some ⟨g,0,none⟩),.int .i64 5] rfl (by (try simp only [List.map_toArray,List.map_cons,List.map_nil]);first|done|rfl|(simp only [List.length_drop,List.length_take];rfl)) ?_;(with_reducible refine (zW.calls g s0_0 x1001_1 x1002_1 5 t153 t154 t155 w0 _ ?side1 ?side2 A7.out).mono ?_);(case side1=>repeat (first|(with_reducible first|exact HI0.out|apply ze.alloc|apply ze.drewN|apply ze.drew|apply ze.set_1|apply ze.set_2)|exact HI0.out));(case side2=>repeat (first|(with_reducible first|exact HB.out|apply zz|apply zl|apply zC|refine zn ?_ (ze.ge HI0.out))|exact HB.out));rintro e w41 ⟨rfl,hi,hb,hk⟩;refine ⟨_,rfl,?_⟩;have n0_:=zh.mk (zA.trans (by repeat (first|(with_reducible first|exact HK.out|apply zA.set_|apply zL|apply zP|apply zM)|exact HK.out)) hk (.inl rfl));have n1_:=zh.mk (hb);have n2_:=zh.mk (hi);clear HK;clear HB;clear HI0;have HK:=n0_;have HB:=n1_;have HI0:=n2_;clear n0_ n1_ n2_;(try clear hb);(try clear hb2);(try clear hk);(try clear hi))|((with_reducible refine zat (f:=187) rfl ?_);refine zcf (some 38) rfl rfl Tryz.func187 (by kernel_rfl) rfl #[.pointer (some ⟨g,0,none⟩),.int .i64 2] rfl (by (try simp only [List.map_toArray,List.map_cons,List.map_nil]);first|done|rfl|(simp only [List.length_drop,List.length_take];rfl)) ?_;(with_reducible refine (zaK.calls g s0_0 t154 t155 2 false t172 t173 w0 _ ?side1 ?side2 A37.out).mono ?_);(case side1=>repeat (first|(with_reducible first|exact HI0.out|apply ze.alloc|apply ze.drewN|apply ze.drew|apply ze.set_1|apply ze.set_2)|exact HI0.out));(case side2=>repeat (first|(with_reducible first|exact HB.out|apply zz|apply zl|apply zC|refine zn ?_ (ze.ge HI0.out))|exact HB.out));rintro e w42 ⟨rfl,hi,hb,hk⟩;refine ⟨_,rfl,?_⟩;have n0_:=zh.mk (zA.trans (by repeat (first|(with_reducible first|exact HK.out|apply zA.set_|apply zL|apply zP|apply zM)|exact HK.out)) hk (.inl rfl));have n1_:=zh.mk (hb);have n2_:=zh.mk (hi);clear HK;clear HB;clear HI0;have HK:=n0_;have HB:=n1_;have HI0:=n2_;clear n0_ n1_ n2_;(try clear hb);(try clear hb2);(try clear hk);(try clear hi)))
        go_ret
        exact ⟨by first|rfl|(simp [zaz,zay]<;>rfl)|(simp [*,zaz,zay]<;>rfl),by repeat (first|(with_reducible first|exact HI0.out|apply ze.alloc|apply ze.drewN|apply ze.drew|apply ze.set_1|apply ze.set_2)|exact HI0.out),by repeat (first|(with_reducible first|exact HB.out|apply zz|apply zl|apply zC|refine zn ?_ (ze.ge HI0.out))|exact HB.out),by repeat (first|(with_reducible first|exact HK.out|apply zA.set_|apply zL|apply zP|apply zM)|exact HK.out)⟩
end Go.Proofs.YtfcjhkkpbnobhaaGreat.PFnZones
