/- The law FnRhumbs gives true, whatever bytes come in. No conditions. (One of the texts of its proof, put together by a program of this session.) -/
import Derived.Test.YtfcjhkkpbnobhaaGreatQX0
set_option linter.unusedSectionVars false
set_option linter.unusedSimpArgs false
set_option linter.unusedVariables false
namespace Go.Proofs.YtfcjhkkpbnobhaaGreat.PFnRhumbs
open Go.RowKit Go.Proofs.YtfcjhkkpbnobhaaGreatW.PrintWords Go.Proofs.YtfcjhkkpbnobhaaGreatW.PrintLast Go.Proofs.YtfcjhkkpbnobhaaGreatW.PrintMore
def ze (w0 W:World) (g:Nat) (f0:List Int) (f1:Int) (f2:Int):Prop:=∃A0 c0,W.heap[g]?=some (.cells #[.slice A0 f0.length c0,.int .i64 f1,.int .u64 f2] 134 (0,0))/\w0.heap.size<=g/\Kd.C (Kd.int .u8) w0 A0 f0.length f0
theorem ze.grown {w0 W:World} {g:Nat} {f0:List Int} {f1:Int} {f2:Int} {W1:World} {row:Option Nat} (h:ze w0 W g f0 f1 f2) (hw:W.grownBy W1 row) (hne:some g≠row):ze w0 W1 g f0 f1 f2:=by
 obtain ⟨A0,c0,hb,hg,hr0⟩:=h
 exact ⟨A0,c0,blk_grown hb hw hne,hg,hr0⟩
theorem ze.below {w0 W:World} {g:Nat} {f0:List Int} {f1:Int} {f2:Int} {W1:World} (h:ze w0 W g f0 f1 f2) (hw:Below W.heap.size W W1):ze w0 W1 g f0 f1 f2:=h.grown (grown_of_below hw none) (by simp)
theorem ze.alloc {w0 W:World} {g:Nat} {f0:List Int} {f1:Int} {f2:Int} (h:ze w0 W g f0 f1 f2) (o:Obj):ze w0 (W.alloc o) g f0 f1 f2:=h.below (zw (Below.refl _ _) o)
theorem ze.drewN {w0 W:World} {g:Nat} {f0:List Int} {f1:Int} {f2:Int} (h:ze w0 W g f0 f1 f2) (m:Nat):ze w0 (W.drewN m) g f0 f1 f2:=h
theorem ze.drew {w0 W:World} {g:Nat} {f0:List Int} {f1:Int} {f2:Int} (h:ze w0 W g f0 f1 f2):ze w0 W.drew g f0 f1 f2:=h
theorem ze.apart {w0 W:World} {g:Nat} {f0:List Int} {f1:Int} {f2:Int} {α:Type} {d:Kd α} {e:Nat} {base:Nat} {ok:Nat->Prop} {v:Value} {xs:List α} (h:ze w0 W g f0 f1 f2) (ho:d.R e W base ok v xs) (ht:∀q,q∈e::d.E->q≠134):d.R e W base (fun k=>ok k/\k≠g) v xs:=by
 obtain ⟨A0,c0,hb,hg,hr0⟩:=h
 exact Kd.R_types ho hb ht
theorem ze.own_ne {w0 W:World} {g:Nat} {f0:List Int} {f1:Int} {f2:Int} {α:Type} {d:Kd α} {e:Nat} {base:Nat} {ok:Nat->Prop} {v:Value} {xs:List α} (h:ze w0 W g f0 f1 f2) (ho:d.R e W base ok v xs) (ht:e≠134):some g≠v.ownBlock:=by
 obtain ⟨A0,c0,hb,hg,hr0⟩:=h
 exact Kd.R_ne ho hb ht
theorem ze.lt {w0 W:World} {g:Nat} {f0:List Int} {f1:Int} {f2:Int} (h:ze w0 W g f0 f1 f2):g<W.heap.size:=by
 obtain ⟨A0,c0,hb,hg,hr0⟩:=h
 exact zcA hb
theorem ze.ge {w0 W:World} {g:Nat} {f0:List Int} {f1:Int} {f2:Int} (h:ze w0 W g f0 f1 f2):w0.heap.size<=g:=by
 obtain ⟨A0,c0,hb,hg,hr0⟩:=h
 exact hg
theorem ze.ne_blk {w0 W:World} {g:Nat} {f0:List Int} {f1:Int} {f2:Int} {a:Nat} {cs:Array Value} {t:TypeId} {fr:Nat×Nat} (h:ze w0 W g f0 f1 f2) (hb2:W.heap[a]?=some (.cells cs t fr)) (ht:t≠134):g≠a:=by
 obtain ⟨A0,c0,hb,hg,hr0⟩:=h
 rintro rfl
 rw [hb] at hb2
 injection hb2 with hb2
 injection hb2 with _ ht2
 exact ht ht2.symm
theorem ze.far {w0 W:World} {g:Nat} {f0:List Int} {f1:Int} {f2:Int} {p:Addr} (h:ze w0 W g f0 f1 f2) (hne:g≠p.block) (u:Value):ze w0 (W.setCell p u) g f0 f1 f2:=by
 obtain ⟨A0,c0,hb,hg,hr0⟩:=h
 exact ⟨A0,c0,zad hb hne u,hg,hr0⟩
theorem cellS134_0 {W:World} {g:Nat} {A0:Option Addr} {c0:Nat} {f0:List Int} {f1:Int} {f2:Int} (h:W.heap[g]?=some (.cells #[.slice A0 f0.length c0,.int .i64 f1,.int .u64 f2] 134 (0,0))):W.cell? ⟨g,0,none⟩=some (.slice A0 f0.length c0):=(zU h 0).trans rfl
theorem cellS134_1 {W:World} {g:Nat} {A0:Option Addr} {c0:Nat} {f0:List Int} {f1:Int} {f2:Int} (h:W.heap[g]?=some (.cells #[.slice A0 f0.length c0,.int .i64 f1,.int .u64 f2] 134 (0,0))):W.cell? ⟨g,1,none⟩=some (.int .i64 f1):=(zU h 1).trans rfl
theorem ze.set_1 {w0 W:World} {g:Nat} {f0:List Int} {f1:Int} {f2:Int} (h:ze w0 W g f0 f1 f2) (x:Int):ze w0 (W.setCell ⟨g,1,none⟩ (.int .i64 x)) g f0 x f2:=by
 obtain ⟨A0,c0,hb,hg,hr0⟩:=h
 exact ⟨A0,c0,by simpa using blk_set hb 1 (.int .i64 x),hg,hr0⟩
theorem cellS134_2 {W:World} {g:Nat} {A0:Option Addr} {c0:Nat} {f0:List Int} {f1:Int} {f2:Int} (h:W.heap[g]?=some (.cells #[.slice A0 f0.length c0,.int .i64 f1,.int .u64 f2] 134 (0,0))):W.cell? ⟨g,2,none⟩=some (.int .u64 f2):=(zU h 2).trans rfl
theorem ze.set_2 {w0 W:World} {g:Nat} {f0:List Int} {f1:Int} {f2:Int} (h:ze w0 W g f0 f1 f2) (x:Int):ze w0 (W.setCell ⟨g,2,none⟩ (.int .u64 x)) g f0 f1 x:=by
 obtain ⟨A0,c0,hb,hg,hr0⟩:=h
 exact ⟨A0,c0,by simpa using blk_set hb 2 (.int .u64 x),hg,hr0⟩
def spec_l00From.f (l0:List Int):Option (List Int×Int×Int):=some (l0,0,0)
set_option maxHeartbeats 8000000 in
set_option maxRecDepth 100000 in
theorem spec_l00From.calls (A0:Option Addr) (c0:Nat) (l0:List Int) (r1:List Int) (r2:Int) (r3:Int) (w0 w:World) (hB:Below w0.heap.size w0 w) (hr0:Kd.C (Kd.int .u8) w0 A0 l0.length l0) (hc0:l0.length<=c0) (h:spec_l00From.f l0=some (r1,r2,r3)):
  Calls Tryz.prog 73 #[.slice A0 l0.length c0] w fun e w'=>∃g_:Nat,e= .returned (.pointer (some ⟨g_,0,none⟩))/\ze w0 w' g_ r1 r2 r3/\Below w0.heap.size w0 w'/\Below w.heap.size w w':=by
 have hu134:=Tryz.underlying134
 have HR0:=zm.mk hr0
 have HC0:=zm.mk hc0
 clear hr0 hc0
 have HBW:=zm.mk (Below.refl w.heap.size w)
 have HW0:=zm.mk hB.size
 have HB:=zm.mk hB
 clear hB
 have H:(some (l0,0,0))=some (r1,r2,r3):=h
 clear h
 simp only [Option.some.injEq,Prod.mk.injEq] at H
 obtain ⟨rfl,rfl,rfl⟩:=H
 go_enter Tryz.func73,Tryz.ntmps73
 go_wp2_with (first|((with_reducible refine gate_dst (N:=5) rfl ?_);refine box_event ?hg (N:=5) ?hd (cs:=#[.slice A0 l0.length c0,.int .i64 0,.int .u64 0]) (t:=134) ?hr ?_;(case hd=>rfl);(case hg=>rfl);(case hr=>first|(go_simp;done)|(go_simp;rfl));intro gb101 hg w2 hbox hb;have n0_:=zm.mk (zc4 HBW.out hb);have n1_:=zm.mk (zc4 (by repeat (first|(with_reducible first|exact HB.out|apply zw|apply zn|apply zu)|exact HB.out)) hb);have n2_:=zm.mk (hbox);have n3_:=zm.mk ((by rw [hg];exact (zc5 (by repeat (first|(with_reducible first|exact HBW.out|apply zw|apply zn|apply zu)|exact HBW.out))):w.heap.size<=gb101));have n4_:=zm.mk ((Nat.le_trans HW0.out (by rw [hg];exact (zc5 (by repeat (first|(with_reducible first|exact HBW.out|apply zw|apply zn|apply zu)|exact HBW.out))):w.heap.size<=gb101):w0.heap.size<=gb101));clear HBW;clear HB;have HBW:=n0_;have HB:=n1_;have BK101:=n2_;have GW101:=n3_;have GE101:=n4_;clear n0_ n1_ n2_ n3_ n4_;clear hb hbox hg))
 go_ret
 exact ⟨_,rfl,(show ze w0 _ gb101 l0 0 0 from ⟨_,_,by (with_reducible repeat (first|refine zf ?_ _|refine zk ?_|refine zh ?_ _));exact BK101.out,GE101.out,HR0.out⟩),by repeat (first|(with_reducible first|exact HB.out|apply zw|apply zn|apply zu|refine zl ?_ GE101.out)|exact HB.out),by repeat (first|(with_reducible first|exact HBW.out|apply zw|apply zn|apply zu|refine zl ?_ GW101.out)|exact HBW.out)⟩
def zba.f (s0_0:List Int) (s0_1:Int) (s0_2:Int):Option (Int×Int×Int):=if s0_1<(s0_0.length:Int) then (if 0<=s0_1 then (if (wrap64 (s0_1+1))<=(s0_0.length:Int) then (some (wrap64 (rd s0_0 s0_1),wrap64 (s0_1+1),IntKind.u64.wrap ((IntKind.u64.wrap ((IntKind.u64.wrap (s0_2*6364136223846793005))+(IntKind.u64.wrap (wrap64 (rd s0_0 s0_1)))))+1442695040888963407))) else (some (wrap64 (Go.bits .and .u64 ((IntKind.u64.wrap ((IntKind.u64.wrap ((IntKind.u64.wrap (s0_2*6364136223846793005))+(IntKind.u64.wrap (wrap64 (rd s0_0 s0_1)))))+1442695040888963407))/1099511627776) 255),wrap64 (s0_1+1),IntKind.u64.wrap ((IntKind.u64.wrap ((IntKind.u64.wrap (s0_2*6364136223846793005))+(IntKind.u64.wrap (wrap64 (rd s0_0 s0_1)))))+1442695040888963407)))) else (none)) else (if (wrap64 (s0_1+1))<=(s0_0.length:Int) then (some (0,wrap64 (s0_1+1),IntKind.u64.wrap ((IntKind.u64.wrap (IntKind.u64.wrap (s0_2*6364136223846793005)))+1442695040888963407))) else (some (wrap64 (Go.bits .and .u64 ((IntKind.u64.wrap ((IntKind.u64.wrap (IntKind.u64.wrap (s0_2*6364136223846793005)))+1442695040888963407))/1099511627776) 255),wrap64 (s0_1+1),IntKind.u64.wrap ((IntKind.u64.wrap (IntKind.u64.wrap (s0_2*6364136223846793005)))+1442695040888963407))))
set_option maxHeartbeats 8000000 in
set_option maxRecDepth 100000 in
theorem zba.calls (g:Nat) (s0_0:List Int) (s0_1:Int) (s0_2:Int) (r1:Int) (r2:Int) (r3:Int) (w0 w:World) (hI:ze w0 w g s0_0 s0_1 s0_2) (hB:Below w0.heap.size w0 w) (h:zba.f s0_0 s0_1 s0_2=some (r1,r2,r3)):
  Calls Tryz.prog 171 #[.pointer (some ⟨g,0,none⟩)] w fun e w'=>e= .returned (.int .i64 r1)/\ze w0 w' g s0_0 r2 r3/\Below w0.heap.size w0 w'/\zA w w' g none:=by
 have HI0:=zm.mk hI
 have HK:=zm.mk (zA.refl w g none)
 have HL:=zm.mk hB.size
 clear hI
 have HW0:=zm.mk hB.size
 have HB:=zm.mk hB
 clear hB
 have H:(if s0_1<(s0_0.length:Int) then (if 0<=s0_1 then (if (wrap64 (s0_1+1))<=(s0_0.length:Int) then (some (wrap64 (rd s0_0 s0_1),wrap64 (s0_1+1),IntKind.u64.wrap ((IntKind.u64.wrap ((IntKind.u64.wrap (s0_2*6364136223846793005))+(IntKind.u64.wrap (wrap64 (rd s0_0 s0_1)))))+1442695040888963407))) else (some (wrap64 (Go.bits .and .u64 ((IntKind.u64.wrap ((IntKind.u64.wrap ((IntKind.u64.wrap (s0_2*6364136223846793005))+(IntKind.u64.wrap (wrap64 (rd s0_0 s0_1)))))+1442695040888963407))/1099511627776) 255),wrap64 (s0_1+1),IntKind.u64.wrap ((IntKind.u64.wrap ((IntKind.u64.wrap (s0_2*6364136223846793005))+(IntKind.u64.wrap (wrap64 (rd s0_0 s0_1)))))+1442695040888963407)))) else (none)) else (if (wrap64 (s0_1+1))<=(s0_0.length:Int) then (some (0,wrap64 (s0_1+1),IntKind.u64.wrap ((IntKind.u64.wrap (IntKind.u64.wrap (s0_2*6364136223846793005)))+1442695040888963407))) else (some (wrap64 (Go.bits .and .u64 ((IntKind.u64.wrap ((IntKind.u64.wrap (IntKind.u64.wrap (s0_2*6364136223846793005)))+1442695040888963407))/1099511627776) 255),wrap64 (s0_1+1),IntKind.u64.wrap ((IntKind.u64.wrap (IntKind.u64.wrap (s0_2*6364136223846793005)))+1442695040888963407)))))=some (r1,r2,r3):=h
 clear h
 by_cases c2:s0_1<(s0_0.length:Int)
 ·rw [if_pos c2] at H
  have c2b0:decide (s0_1<(s0_0.length:Int))=true:=decide_eq_true c2
  clear c2
  by_cases c3:0<=s0_1
  ·rw [if_pos c3] at H
   have c3b0:decide (0<=s0_1)=true:=decide_eq_true c3
   clear c3
   by_cases c4:(wrap64 (s0_1+1))<=(s0_0.length:Int)
   ·rw [if_pos c4] at H
    have c4b0:decide ((wrap64 (s0_1+1))<=(s0_0.length:Int))=true:=decide_eq_true c4
    clear c4
    simp only [Option.some.injEq,Prod.mk.injEq] at H
    obtain ⟨rfl,rfl,rfl⟩:=H
    obtain ⟨ASz5_0,cSz5_0,HGz5,hgz5,HSz5_0⟩:=HI0.out
    have hcz5_0:=cellS134_0 HGz5
    have hcz5_1:=cellS134_1 HGz5
    have hcz5_2:=cellS134_2 HGz5
    have hfz5_1:=zT HGz5 1
    have hfz5_2:=zT HGz5 2
    clear HGz5 hgz5
    have p102:0<=(s0_1:Int):=of_decide_eq_true (by first|(with_reducible assumption)|assumption)
    have q102:s0_1<(s0_0.length:Int):=of_decide_eq_true (by first|(with_reducible assumption)|assumption)
    obtain ⟨ad102,e102,hx102_0⟩:=Kd.at_int HSz5_0 s0_1 p102 q102
    cases e102
    replace hx102_0:=pw_cell_below HB.out hx102_0
    replace p102:=eq_true p102
    replace q102:=eq_true q102
    go_enter Tryz.func171,Tryz.ntmps171
    go_wp2
    repeat (go_quiet (fail);try go_wp2)
    go_ret
    exact ⟨by first|rfl|(simp [zay,zax]<;>rfl)|(simp [*,zay,zax]<;>rfl),by repeat (first|(with_reducible first|exact HI0.out|apply ze.alloc|apply ze.drewN|apply ze.drew|apply ze.set_1|apply ze.set_2)|exact HI0.out),by repeat (first|(with_reducible first|exact HB.out|apply zw|apply zn|apply zu|refine zl ?_ (ze.ge HI0.out))|exact HB.out),by repeat (first|(with_reducible first|exact HK.out|apply zA.set_|apply zY|apply zaj|apply zZ)|exact HK.out)⟩
   ·rw [if_neg c4] at H
    have c4b0:decide ((wrap64 (s0_1+1))<=(s0_0.length:Int))=false:=decide_eq_false c4
    clear c4
    simp only [Option.some.injEq,Prod.mk.injEq] at H
    obtain ⟨rfl,rfl,rfl⟩:=H
    obtain ⟨ASz6_0,cSz6_0,HGz6,hgz6,HSz6_0⟩:=HI0.out
    have hcz6_0:=cellS134_0 HGz6
    have hcz6_1:=cellS134_1 HGz6
    have hcz6_2:=cellS134_2 HGz6
    have hfz6_1:=zT HGz6 1
    have hfz6_2:=zT HGz6 2
    clear HGz6 hgz6
    have p102:0<=(s0_1:Int):=of_decide_eq_true (by first|(with_reducible assumption)|assumption)
    have q102:s0_1<(s0_0.length:Int):=of_decide_eq_true (by first|(with_reducible assumption)|assumption)
    obtain ⟨ad102,e102,hx102_0⟩:=Kd.at_int HSz6_0 s0_1 p102 q102
    cases e102
    replace hx102_0:=pw_cell_below HB.out hx102_0
    replace p102:=eq_true p102
    replace q102:=eq_true q102
    go_enter Tryz.func171,Tryz.ntmps171
    go_wp2
    repeat (go_quiet (fail);try go_wp2)
    go_ret
    exact ⟨by first|rfl|(simp [zay,zax]<;>rfl)|(simp [*,zay,zax]<;>rfl),by repeat (first|(with_reducible first|exact HI0.out|apply ze.alloc|apply ze.drewN|apply ze.drew|apply ze.set_1|apply ze.set_2)|exact HI0.out),by repeat (first|(with_reducible first|exact HB.out|apply zw|apply zn|apply zu|refine zl ?_ (ze.ge HI0.out))|exact HB.out),by repeat (first|(with_reducible first|exact HK.out|apply zA.set_|apply zY|apply zaj|apply zZ)|exact HK.out)⟩
  ·rw [if_neg c3] at H
   exact absurd H (by simp)
 ·rw [if_neg c2] at H
  have c2b0:decide (s0_1<(s0_0.length:Int))=false:=decide_eq_false c2
  clear c2
  by_cases c7:(wrap64 (s0_1+1))<=(s0_0.length:Int)
  ·rw [if_pos c7] at H
   have c7b0:decide ((wrap64 (s0_1+1))<=(s0_0.length:Int))=true:=decide_eq_true c7
   clear c7
   simp only [Option.some.injEq,Prod.mk.injEq] at H
   obtain ⟨rfl,rfl,rfl⟩:=H
   obtain ⟨ASz8_0,cSz8_0,HGz8,hgz8,HSz8_0⟩:=HI0.out
   have hcz8_0:=cellS134_0 HGz8
   have hcz8_1:=cellS134_1 HGz8
   have hcz8_2:=cellS134_2 HGz8
   have hfz8_1:=zT HGz8 1
   have hfz8_2:=zT HGz8 2
   clear HGz8 hgz8
   go_enter Tryz.func171,Tryz.ntmps171
   go_wp2
   repeat (go_quiet (fail);try go_wp2)
   go_ret
   exact ⟨by first|rfl|(simp [zay,zax]<;>rfl)|(simp [*,zay,zax]<;>rfl),by repeat (first|(with_reducible first|exact HI0.out|apply ze.alloc|apply ze.drewN|apply ze.drew|apply ze.set_1|apply ze.set_2)|exact HI0.out),by repeat (first|(with_reducible first|exact HB.out|apply zw|apply zn|apply zu|refine zl ?_ (ze.ge HI0.out))|exact HB.out),by repeat (first|(with_reducible first|exact HK.out|apply zA.set_|apply zY|apply zaj|apply zZ)|exact HK.out)⟩
  ·rw [if_neg c7] at H
   have c7b0:decide ((wrap64 (s0_1+1))<=(s0_0.length:Int))=false:=decide_eq_false c7
   clear c7
   simp only [Option.some.injEq,Prod.mk.injEq] at H
   obtain ⟨rfl,rfl,rfl⟩:=H
   obtain ⟨ASz9_0,cSz9_0,HGz9,hgz9,HSz9_0⟩:=HI0.out
   have hcz9_0:=cellS134_0 HGz9
   have hcz9_1:=cellS134_1 HGz9
   have hcz9_2:=cellS134_2 HGz9
   have hfz9_1:=zT HGz9 1
   have hfz9_2:=zT HGz9 2
   clear HGz9 hgz9
   go_enter Tryz.func171,Tryz.ntmps171
   go_wp2
   repeat (go_quiet (fail);try go_wp2)
   go_ret
   exact ⟨by first|rfl|(simp [zay,zax]<;>rfl)|(simp [*,zay,zax]<;>rfl),by repeat (first|(with_reducible first|exact HI0.out|apply ze.alloc|apply ze.drewN|apply ze.drew|apply ze.set_1|apply ze.set_2)|exact HI0.out),by repeat (first|(with_reducible first|exact HB.out|apply zw|apply zn|apply zu|refine zl ?_ (ze.ge HI0.out))|exact HB.out),by repeat (first|(with_reducible first|exact HK.out|apply zA.set_|apply zY|apply zaj|apply zZ)|exact HK.out)⟩
def zS.f (s0_0:List Int) (s0_1:Int) (s0_2:Int) (a1:Int):Option (Int×Int×Int):=if a1<=1 then (some (0,s0_1,s0_2)) else ((zba.f s0_0 s0_1 s0_2).bind fun bt103=>(if a1>200 then ((zba.f s0_0 bt103.2.1 bt103.2.2).bind fun bt106=>(if a1=0 then (none) else (some (Int.tmod (wrap64 ((wrap64 (bt103.1*256))+bt106.1)) a1,bt106.2.1,bt106.2.2)))) else (if a1=0 then (none) else (some (Int.tmod bt103.1 a1,bt103.2.1,bt103.2.2)))))
set_option maxHeartbeats 8000000 in
set_option maxRecDepth 100000 in
theorem zS.calls (g:Nat) (s0_0:List Int) (s0_1:Int) (s0_2:Int) (a1:Int) (r1:Int) (r2:Int) (r3:Int) (w0 w:World) (hI:ze w0 w g s0_0 s0_1 s0_2) (hB:Below w0.heap.size w0 w) (h:zS.f s0_0 s0_1 s0_2 a1=some (r1,r2,r3)):
  Calls Tryz.prog 75 #[.pointer (some ⟨g,0,none⟩),.int .i64 a1] w fun e w'=>e= .returned (.int .i64 r1)/\ze w0 w' g s0_0 r2 r3/\Below w0.heap.size w0 w'/\zA w w' g none:=by
 have HI0:=zm.mk hI
 have HK:=zm.mk (zA.refl w g none)
 have HL:=zm.mk hB.size
 clear hI
 have HW0:=zm.mk hB.size
 have HB:=zm.mk hB
 clear hB
 have H:(if a1<=1 then (some (0,s0_1,s0_2)) else ((zba.f s0_0 s0_1 s0_2).bind fun bt103=>(if a1>200 then ((zba.f s0_0 bt103.2.1 bt103.2.2).bind fun bt106=>(if a1=0 then (none) else (some (Int.tmod (wrap64 ((wrap64 (bt103.1*256))+bt106.1)) a1,bt106.2.1,bt106.2.2)))) else (if a1=0 then (none) else (some (Int.tmod bt103.1 a1,bt103.2.1,bt103.2.2))))))=some (r1,r2,r3):=h
 clear h
 by_cases c3:a1<=1
 ·rw [if_pos c3] at H
  have c3b0:decide (a1<=1)=true:=decide_eq_true c3
  clear c3
  simp only [Option.some.injEq,Prod.mk.injEq] at H
  obtain ⟨rfl,rfl,rfl⟩:=H
  go_enter Tryz.func75,Tryz.ntmps75
  go_wp2
  go_ret
  exact ⟨by first|rfl|(simp [zay,zax]<;>rfl)|(simp [*,zay,zax]<;>rfl),by repeat (first|(with_reducible first|exact HI0.out|apply ze.alloc|apply ze.drewN|apply ze.drew|apply ze.set_1|apply ze.set_2)|exact HI0.out),by repeat (first|(with_reducible first|exact HB.out|apply zw|apply zn|apply zu|refine zl ?_ (ze.ge HI0.out))|exact HB.out),by repeat (first|(with_reducible first|exact HK.out|apply zA.set_|apply zY|apply zaj|apply zZ)|exact HK.out)⟩
 ·rw [if_neg c3] at H
  have c3b0:decide (a1<=1)=false:=decide_eq_false c3
  clear c3
  replace H:=Option.bind_eq_some_iff.mp H
  obtain ⟨⟨t103,t104,t105⟩,A40,H⟩:=H
  replace H:(if a1>200 then ((zba.f s0_0 t104 t105).bind fun bt106=>(if a1=0 then (none) else (some (Int.tmod (wrap64 ((wrap64 (t103*256))+bt106.1)) a1,bt106.2.1,bt106.2.2)))) else (if a1=0 then (none) else (some (Int.tmod t103 a1,t104,t105))))=some (r1,r2,r3):=H
  have A4:=zm.mk A40
  clear A40
  by_cases c5:a1>200
  ·rw [if_pos c5] at H
   have c5b0:decide (200<a1)=true:=decide_eq_true c5
   clear c5
   replace H:=Option.bind_eq_some_iff.mp H
   obtain ⟨⟨t106,t107,t108⟩,A60,H⟩:=H
   replace H:(if a1=0 then (none) else (some (Int.tmod (wrap64 ((wrap64 (t103*256))+t106)) a1,t107,t108)))=some (r1,r2,r3):=H
   have A6:=zm.mk A60
   clear A60
   by_cases c7:a1=0
   ·rw [if_pos c7] at H
    exact absurd H (by simp)
   ·rw [if_neg c7] at H
    have c7b0:(a1==0)=false:=beq_eq_false_iff_ne.mpr c7
    have c7b1:(a1 != 0)=true:=bne_iff_ne.mpr c7
    simp only [Option.some.injEq,Prod.mk.injEq] at H
    obtain ⟨rfl,rfl,rfl⟩:=H
    go_enter Tryz.func75,Tryz.ntmps75
    go_wp2_with (first|((with_reducible refine zaB (f:=171) rfl ?_);refine zdf (some 9) rfl rfl Tryz.func171 (by kernel_rfl) rfl #[.pointer (some ⟨g,0,none⟩)] rfl (by (try simp only [List.map_toArray,List.map_cons,List.map_nil]);first|done|rfl|(simp only [List.length_drop,List.length_take];rfl)) ?_;(with_reducible refine (zba.calls g s0_0 s0_1 s0_2 t103 t104 t105 w0 _ ?side1 ?side2 A4.out).mono ?_);(case side1=>repeat (first|(with_reducible first|exact HI0.out|apply ze.alloc|apply ze.drewN|apply ze.drew|apply ze.set_1|apply ze.set_2)|exact HI0.out));(case side2=>repeat (first|(with_reducible first|exact HB.out|apply zw|apply zn|apply zu|refine zl ?_ (ze.ge HI0.out))|exact HB.out));rintro e w8 ⟨rfl,hi,hb,hk⟩;refine ⟨_,rfl,?_⟩;have n0_:=zm.mk (zA.trans (by repeat (first|(with_reducible first|exact HK.out|apply zA.set_|apply zY|apply zaj|apply zZ)|exact HK.out)) hk (.inl rfl));have n1_:=zm.mk (hb);have n2_:=zm.mk (hi);clear HK;clear HB;clear HI0;have HK:=n0_;have HB:=n1_;have HI0:=n2_;clear n0_ n1_ n2_;(try clear hb);(try clear hb2);(try clear hk);(try clear hi))|((with_reducible refine zaB (f:=171) rfl ?_);refine zdf (some 15) rfl rfl Tryz.func171 (by kernel_rfl) rfl #[.pointer (some ⟨g,0,none⟩)] rfl (by (try simp only [List.map_toArray,List.map_cons,List.map_nil]);first|done|rfl|(simp only [List.length_drop,List.length_take];rfl)) ?_;(with_reducible refine (zba.calls g s0_0 t104 t105 t106 t107 t108 w0 _ ?side1 ?side2 A6.out).mono ?_);(case side1=>repeat (first|(with_reducible first|exact HI0.out|apply ze.alloc|apply ze.drewN|apply ze.drew|apply ze.set_1|apply ze.set_2)|exact HI0.out));(case side2=>repeat (first|(with_reducible first|exact HB.out|apply zw|apply zn|apply zu|refine zl ?_ (ze.ge HI0.out))|exact HB.out));rintro e w9 ⟨rfl,hi,hb,hk⟩;refine ⟨_,rfl,?_⟩;have n0_:=zm.mk (zA.trans (by repeat (first|(with_reducible first|exact HK.out|apply zA.set_|apply zY|apply zaj|apply zZ)|exact HK.out)) hk (.inl rfl));have n1_:=zm.mk (hb);have n2_:=zm.mk (hi);clear HK;clear HB;clear HI0;have HK:=n0_;have HB:=n1_;have HI0:=n2_;clear n0_ n1_ n2_;(try clear hb);(try clear hb2);(try clear hk);(try clear hi)))
    go_ret
    exact ⟨by first|rfl|(simp [zay,zax]<;>rfl)|(simp [*,zay,zax]<;>rfl),by repeat (first|(with_reducible first|exact HI0.out|apply ze.alloc|apply ze.drewN|apply ze.drew|apply ze.set_1|apply ze.set_2)|exact HI0.out),by repeat (first|(with_reducible first|exact HB.out|apply zw|apply zn|apply zu|refine zl ?_ (ze.ge HI0.out))|exact HB.out),by repeat (first|(with_reducible first|exact HK.out|apply zA.set_|apply zY|apply zaj|apply zZ)|exact HK.out)⟩
  ·rw [if_neg c5] at H
   have c5b0:decide (200<a1)=false:=decide_eq_false c5
   clear c5
   by_cases c10:a1=0
   ·rw [if_pos c10] at H
    exact absurd H (by simp)
   ·rw [if_neg c10] at H
    have c10b0:(a1==0)=false:=beq_eq_false_iff_ne.mpr c10
    have c10b1:(a1 != 0)=true:=bne_iff_ne.mpr c10
    simp only [Option.some.injEq,Prod.mk.injEq] at H
    obtain ⟨rfl,rfl,rfl⟩:=H
    go_enter Tryz.func75,Tryz.ntmps75
    go_wp2_with (first|((with_reducible refine zaB (f:=171) rfl ?_);refine zdf (some 9) rfl rfl Tryz.func171 (by kernel_rfl) rfl #[.pointer (some ⟨g,0,none⟩)] rfl (by (try simp only [List.map_toArray,List.map_cons,List.map_nil]);first|done|rfl|(simp only [List.length_drop,List.length_take];rfl)) ?_;(with_reducible refine (zba.calls g s0_0 s0_1 s0_2 t103 t104 t105 w0 _ ?side1 ?side2 A4.out).mono ?_);(case side1=>repeat (first|(with_reducible first|exact HI0.out|apply ze.alloc|apply ze.drewN|apply ze.drew|apply ze.set_1|apply ze.set_2)|exact HI0.out));(case side2=>repeat (first|(with_reducible first|exact HB.out|apply zw|apply zn|apply zu|refine zl ?_ (ze.ge HI0.out))|exact HB.out));rintro e w11 ⟨rfl,hi,hb,hk⟩;refine ⟨_,rfl,?_⟩;have n0_:=zm.mk (zA.trans (by repeat (first|(with_reducible first|exact HK.out|apply zA.set_|apply zY|apply zaj|apply zZ)|exact HK.out)) hk (.inl rfl));have n1_:=zm.mk (hb);have n2_:=zm.mk (hi);clear HK;clear HB;clear HI0;have HK:=n0_;have HB:=n1_;have HI0:=n2_;clear n0_ n1_ n2_;(try clear hb);(try clear hb2);(try clear hk);(try clear hi)))
    go_ret
    exact ⟨by first|rfl|(simp [zay,zax]<;>rfl)|(simp [*,zay,zax]<;>rfl),by repeat (first|(with_reducible first|exact HI0.out|apply ze.alloc|apply ze.drewN|apply ze.drew|apply ze.set_1|apply ze.set_2)|exact HI0.out),by repeat (first|(with_reducible first|exact HB.out|apply zw|apply zn|apply zu|refine zl ?_ (ze.ge HI0.out))|exact HB.out),by repeat (first|(with_reducible first|exact HK.out|apply zA.set_|apply zY|apply zaj|apply zZ)|exact HK.out)⟩
def zcu.f (a0:Int):Option (Int):=if (Int.tmod a0 3600000000)>1800000000 then (if (wrap64 ((Int.tmod a0 3600000000)-3600000000))<=(-1800000000) then (some (wrap64 ((wrap64 ((Int.tmod a0 3600000000)-3600000000))+3600000000))) else (some (wrap64 ((Int.tmod a0 3600000000)-3600000000)))) else (if (Int.tmod a0 3600000000)<=(-1800000000) then (some (wrap64 ((Int.tmod a0 3600000000)+3600000000))) else (some (Int.tmod a0 3600000000)))
set_option maxHeartbeats 8000000 in
set_option maxRecDepth 100000 in
theorem zcu.calls (a0:Int) (r:Int) (w:World) (h:zcu.f a0=some r):
  Calls Tryz.prog 76 #[.int .i64 a0] w fun e w'=>e= .returned (.int .i64 r)/\Drawn0 w w':=by
 have H:(if (Int.tmod a0 3600000000)>1800000000 then (if (wrap64 ((Int.tmod a0 3600000000)-3600000000))<=(-1800000000) then (some (wrap64 ((wrap64 ((Int.tmod a0 3600000000)-3600000000))+3600000000))) else (some (wrap64 ((Int.tmod a0 3600000000)-3600000000)))) else (if (Int.tmod a0 3600000000)<=(-1800000000) then (some (wrap64 ((Int.tmod a0 3600000000)+3600000000))) else (some (Int.tmod a0 3600000000))))=some r:=h
 clear h
 by_cases c2:(Int.tmod a0 3600000000)>1800000000
 ·rw [if_pos c2] at H
  have c2b0:decide (1800000000<(Int.tmod a0 3600000000))=true:=decide_eq_true c2
  clear c2
  by_cases c3:(wrap64 ((Int.tmod a0 3600000000)-3600000000))<=(-1800000000)
  ·rw [if_pos c3] at H
   have c3b0:decide ((wrap64 ((Int.tmod a0 3600000000)-3600000000))<=(-1800000000))=true:=decide_eq_true c3
   clear c3
   obtain rfl:=Option.some.inj H
   go_enter Tryz.func76,Tryz.ntmps76
   go_wp2
   go_ret
   exact ⟨by first|rfl|(simp;done)|(simp [*];done),by repeat (first|exact Drawn0.refl _|apply Drawn0.step)⟩
  ·rw [if_neg c3] at H
   have c3b0:decide ((wrap64 ((Int.tmod a0 3600000000)-3600000000))<=(-1800000000))=false:=decide_eq_false c3
   clear c3
   obtain rfl:=Option.some.inj H
   go_enter Tryz.func76,Tryz.ntmps76
   go_wp2
   go_ret
   exact ⟨by first|rfl|(simp;done)|(simp [*];done),by repeat (first|exact Drawn0.refl _|apply Drawn0.step)⟩
 ·rw [if_neg c2] at H
  have c2b0:decide (1800000000<(Int.tmod a0 3600000000))=false:=decide_eq_false c2
  clear c2
  by_cases c4:(Int.tmod a0 3600000000)<=(-1800000000)
  ·rw [if_pos c4] at H
   have c4b0:decide ((Int.tmod a0 3600000000)<=(-1800000000))=true:=decide_eq_true c4
   clear c4
   obtain rfl:=Option.some.inj H
   go_enter Tryz.func76,Tryz.ntmps76
   go_wp2
   go_ret
   exact ⟨by first|rfl|(simp;done)|(simp [*];done),by repeat (first|exact Drawn0.refl _|apply Drawn0.step)⟩
  ·rw [if_neg c4] at H
   have c4b0:decide ((Int.tmod a0 3600000000)<=(-1800000000))=false:=decide_eq_false c4
   clear c4
   obtain rfl:=Option.some.inj H
   go_enter Tryz.func76,Tryz.ntmps76
   go_wp2
   go_ret
   exact ⟨by first|rfl|(simp;done)|(simp [*];done),by repeat (first|exact Drawn0.refl _|apply Drawn0.step)⟩
def zaT.f (s0_0:List Int) (s0_1:Int) (s0_2:Int) (l1:List Int):Option (Int×Int×Int):=(zS.f s0_0 s0_1 s0_2 (l1.length:Int)).bind fun bt109=>(if 0<=bt109.1 then (if bt109.1<(l1.length:Int) then (some (rd l1 bt109.1,bt109.2.1,bt109.2.2)) else (none)) else (none))
set_option maxHeartbeats 8000000 in
set_option maxRecDepth 100000 in
theorem zaT.calls (g:Nat) (s0_0:List Int) (s0_1:Int) (s0_2:Int) (A1:Option Addr) (c1:Nat) (l1:List Int) (r1:Int) (r2:Int) (r3:Int) (w0 w:World) (hI:ze w0 w g s0_0 s0_1 s0_2) (hB:Below w0.heap.size w0 w) (hr1:Kd.C (Kd.int .i64) w A1 l1.length l1) (hc1:l1.length<=c1) (hf1:∀ad,A1=some ad->0<l1.length->ad.block≠g) (h:zaT.f s0_0 s0_1 s0_2 l1=some (r1,r2,r3)):
  Calls Tryz.prog 170 #[.pointer (some ⟨g,0,none⟩),.slice A1 l1.length c1] w fun e w'=>e= .returned (.int .i64 r1)/\ze w0 w' g s0_0 r2 r3/\Below w0.heap.size w0 w'/\zA w w' g none:=by
 have HR1:=zm.mk hr1
 have HC1:=zm.mk hc1
 clear hr1 hc1
 have HI0:=zm.mk hI
 have HK:=zm.mk (zA.refl w g none)
 have HL:=zm.mk hB.size
 clear hI
 have HW0:=zm.mk hB.size
 have HB:=zm.mk hB
 clear hB
 have H:((zS.f s0_0 s0_1 s0_2 (l1.length:Int)).bind fun bt109=>(if 0<=bt109.1 then (if bt109.1<(l1.length:Int) then (some (rd l1 bt109.1,bt109.2.1,bt109.2.2)) else (none)) else (none)))=some (r1,r2,r3):=h
 clear h
 replace H:=Option.bind_eq_some_iff.mp H
 obtain ⟨⟨t109,t110,t111⟩,A30,H⟩:=H
 replace H:(if 0<=t109 then (if t109<(l1.length:Int) then (some (rd l1 t109,t110,t111)) else (none)) else (none))=some (r1,r2,r3):=H
 have A3:=zm.mk A30
 clear A30
 by_cases c4:0<=t109
 ·rw [if_pos c4] at H
  have c4b0:decide (0<=t109)=true:=decide_eq_true c4
  clear c4
  by_cases c5:t109<(l1.length:Int)
  ·rw [if_pos c5] at H
   have c5b0:decide (t109<(l1.length:Int))=true:=decide_eq_true c5
   clear c5
   simp only [Option.some.injEq,Prod.mk.injEq] at H
   obtain ⟨rfl,rfl,rfl⟩:=H
   go_enter Tryz.func170,Tryz.ntmps170
   go_wp2_with (first|((with_reducible refine zaB (f:=75) rfl ?_);refine zdf (some 9) rfl rfl Tryz.func75 (by kernel_rfl) rfl #[.pointer (some ⟨g,0,none⟩),.int .i64 (l1.length:Int)] rfl (by (try simp only [List.map_toArray,List.map_cons,List.map_nil]);first|done|rfl|(simp only [List.length_drop,List.length_take];rfl)) ?_;(with_reducible refine (zS.calls g s0_0 s0_1 s0_2 (l1.length:Int) t109 t110 t111 w0 _ ?side1 ?side2 A3.out).mono ?_);(case side1=>repeat (first|(with_reducible first|exact HI0.out|apply ze.alloc|apply ze.drewN|apply ze.drew|apply ze.set_1|apply ze.set_2)|exact HI0.out));(case side2=>repeat (first|(with_reducible first|exact HB.out|apply zw|apply zn|apply zu|refine zl ?_ (ze.ge HI0.out))|exact HB.out));rintro e w6 ⟨rfl,hi,hb,hk⟩;refine ⟨_,rfl,?_⟩;have n0_:=zm.mk (zA.trans (by repeat (first|(with_reducible first|exact HK.out|apply zA.set_|apply zY|apply zaj|apply zZ)|exact HK.out)) hk (.inl rfl));have n1_:=zm.mk (hb);have n2_:=zm.mk (hi);clear HK;clear HB;clear HI0;have HK:=n0_;have HB:=n1_;have HI0:=n2_;clear n0_ n1_ n2_;(try clear hb);(try clear hb2);(try clear hk);(try clear hi);have p112:0<=(t109:Int):=of_decide_eq_true (by first|(with_reducible assumption)|assumption);have q112:t109<(l1.length:Int):=of_decide_eq_true (by first|(with_reducible assumption)|assumption);obtain ⟨ad112,e112,hx112_0⟩:=Kd.at_int HR1.out t109 p112 q112;cases e112;replace hx112_0:=keep_cell HK.out hx112_0 (by first|(rw [add_block];exact hf1 _ rfl (by omega))|exact hf1 _ rfl (by omega)|exact hf1 ad112 rfl (by omega));replace p112:=eq_true p112;replace q112:=eq_true q112))
   go_ret
   exact ⟨by first|rfl|(simp [zay,zax]<;>rfl)|(simp [*,zay,zax]<;>rfl),by repeat (first|(with_reducible first|exact HI0.out|apply ze.alloc|apply ze.drewN|apply ze.drew|apply ze.set_1|apply ze.set_2)|exact HI0.out),by repeat (first|(with_reducible first|exact HB.out|apply zw|apply zn|apply zu|refine zl ?_ (ze.ge HI0.out))|exact HB.out),by repeat (first|(with_reducible first|exact HK.out|apply zA.set_|apply zY|apply zaj|apply zZ)|exact HK.out)⟩
  ·rw [if_neg c5] at H
   exact absurd H (by simp)
 ·rw [if_neg c4] at H
  exact absurd H (by simp)
def zaF.f (s0_0:List Int) (s0_1:Int) (s0_2:Int) (a1:Int):Option (Bool×Int×Int):=(zS.f s0_0 s0_1 s0_2 a1).bind fun bt113=>(some ((bt113.1==0),bt113.2.1,bt113.2.2))
set_option maxHeartbeats 8000000 in
set_option maxRecDepth 100000 in
theorem zaF.calls (g:Nat) (s0_0:List Int) (s0_1:Int) (s0_2:Int) (a1:Int) (r1:Bool) (r2:Int) (r3:Int) (w0 w:World) (hI:ze w0 w g s0_0 s0_1 s0_2) (hB:Below w0.heap.size w0 w) (h:zaF.f s0_0 s0_1 s0_2 a1=some (r1,r2,r3)):
  Calls Tryz.prog 187 #[.pointer (some ⟨g,0,none⟩),.int .i64 a1] w fun e w'=>e= .returned (.bool r1)/\ze w0 w' g s0_0 r2 r3/\Below w0.heap.size w0 w'/\zA w w' g none:=by
 have HI0:=zm.mk hI
 have HK:=zm.mk (zA.refl w g none)
 have HL:=zm.mk hB.size
 clear hI
 have HW0:=zm.mk hB.size
 have HB:=zm.mk hB
 clear hB
 have H:((zS.f s0_0 s0_1 s0_2 a1).bind fun bt113=>(some ((bt113.1==0),bt113.2.1,bt113.2.2)))=some (r1,r2,r3):=h
 clear h
 replace H:=Option.bind_eq_some_iff.mp H
 obtain ⟨⟨t113,t114,t115⟩,A30,H⟩:=H
 replace H:(some ((t113==0),t114,t115))=some (r1,r2,r3):=H
 have A3:=zm.mk A30
 clear A30
 simp only [Option.some.injEq,Prod.mk.injEq] at H
 obtain ⟨rfl,rfl,rfl⟩:=H
 go_enter Tryz.func187,Tryz.ntmps187
 go_wp2_with (first|((with_reducible refine zaB (f:=75) rfl ?_);refine zdf (some 7) rfl rfl Tryz.func75 (by kernel_rfl) rfl #[.pointer (some ⟨g,0,none⟩),.int .i64 a1] rfl (by (try simp only [List.map_toArray,List.map_cons,List.map_nil]);first|done|rfl|(simp only [List.length_drop,List.length_take];rfl)) ?_;(with_reducible refine (zS.calls g s0_0 s0_1 s0_2 a1 t113 t114 t115 w0 _ ?side1 ?side2 A3.out).mono ?_);(case side1=>repeat (first|(with_reducible first|exact HI0.out|apply ze.alloc|apply ze.drewN|apply ze.drew|apply ze.set_1|apply ze.set_2)|exact HI0.out));(case side2=>repeat (first|(with_reducible first|exact HB.out|apply zw|apply zn|apply zu|refine zl ?_ (ze.ge HI0.out))|exact HB.out));rintro e w4 ⟨rfl,hi,hb,hk⟩;refine ⟨_,rfl,?_⟩;have n0_:=zm.mk (zA.trans (by repeat (first|(with_reducible first|exact HK.out|apply zA.set_|apply zY|apply zaj|apply zZ)|exact HK.out)) hk (.inl rfl));have n1_:=zm.mk (hb);have n2_:=zm.mk (hi);clear HK;clear HB;clear HI0;have HK:=n0_;have HB:=n1_;have HI0:=n2_;clear n0_ n1_ n2_;(try clear hb);(try clear hb2);(try clear hk);(try clear hi)))
 go_ret
 exact ⟨by first|rfl|(simp [zay,zax]<;>rfl)|(simp [*,zay,zax]<;>rfl),by repeat (first|(with_reducible first|exact HI0.out|apply ze.alloc|apply ze.drewN|apply ze.drew|apply ze.set_1|apply ze.set_2)|exact HI0.out),by repeat (first|(with_reducible first|exact HB.out|apply zw|apply zn|apply zu|refine zl ?_ (ze.ge HI0.out))|exact HB.out),by repeat (first|(with_reducible first|exact HK.out|apply zA.set_|apply zY|apply zaj|apply zZ)|exact HK.out)⟩
def zaI.l0:Nat->Int->Int->Int->List Int->Int->Int->Option (Int×Int×Int)
 | 0,_,_,_,_,_,_=>none
 | k+1,x1,x5,x6,x1000,x1001,x1002=>if x6<7 then ((zba.f x1000 x1001 x1002).bind fun bt116=>(zaI.l0 k x1 (Go.bits .xor .i64 (wrap64 (x5*256)) bt116.1) (wrap64 (x6+1)) x1000 bt116.2.1 bt116.2.2)) else (if (wrap64 (x1+1))=0 then (none) else ((zS.f x1000 x1001 x1002 5).bind fun bt119=>(if bt119.1=0 then ((zS.f x1000 bt119.2.1 bt119.2.2 40).bind fun bt122=>(if 0<=(IntKind.u64.wrap (bt122.1)) then ((zaF.f x1000 bt122.2.1 bt122.2.2 2).bind fun bt125=>(if bt125.1=true then (some (wrap64 (-(shr .i64 (Int.tmod x5 (wrap64 (x1+1))) (IntKind.u64.wrap (bt122.1)))),bt125.2.1,bt125.2.2)) else (some (shr .i64 (Int.tmod x5 (wrap64 (x1+1))) (IntKind.u64.wrap (bt122.1)),bt125.2.1,bt125.2.2)))) else (none))) else (if bt119.1=1 then ((zaT.f x1000 bt119.2.1 bt119.2.2 (([0,1,x1,wrap64 (Int.tdiv x1 2)]:List Int))).bind fun bt131=>((zaF.f x1000 bt131.2.1 bt131.2.2 2).bind fun bt134=>(if bt134.1=true then (some (wrap64 (-bt131.1),bt134.2.1,bt134.2.2)) else (some (bt131.1,bt134.2.1,bt134.2.2))))) else ((zaF.f x1000 bt119.2.1 bt119.2.2 2).bind fun bt137=>(if bt137.1=true then (some (wrap64 (-(Int.tmod x5 (wrap64 (x1+1)))),bt137.2.1,bt137.2.2)) else (some (Int.tmod x5 (wrap64 (x1+1)),bt137.2.1,bt137.2.2))))))))
def zaI.f (k:Nat) (s0_0:List Int) (s0_1:Int) (s0_2:Int) (a1:Int):Option (Int×Int×Int):=zaI.l0 k a1 0 0 s0_0 s0_1 s0_2
set_option maxHeartbeats 8000000 in
set_option maxRecDepth 100000 in
theorem zaI.calls (k:Nat) (g:Nat) (s0_0:List Int) (s0_1:Int) (s0_2:Int) (a1:Int) (r1:Int) (r2:Int) (r3:Int) (w0 w:World) (hI:ze w0 w g s0_0 s0_1 s0_2) (hB:Below w0.heap.size w0 w) (h:zaI.f k s0_0 s0_1 s0_2 a1=some (r1,r2,r3)):
  Calls Tryz.prog 109 #[.pointer (some ⟨g,0,none⟩),.int .i64 a1] w fun e w'=>e= .returned (.int .i64 r1)/\ze w0 w' g s0_0 r2 r3/\Below w0.heap.size w0 w'/\zA w w' g none:=by
 have HI0:=zm.mk hI
 have HK:=zm.mk (zA.refl w g none)
 have HL:=zm.mk hB.size
 clear hI
 have HW0:=zm.mk hB.size
 have HB:=zm.mk hB
 clear hB
 have H:(zaI.l0 k a1 0 0 s0_0 s0_1 s0_2)=some (r1,r2,r3):=h
 clear h
 have H':=zm.mk H
 clear H
 go_enter Tryz.func109,Tryz.ntmps109
 go_wp2
 go_loopg [5,6] k (fun kq v5 v6 w'=>∃(x5_1:Int) (x6_1:Int) (x1001_1:Int) (x1002_1:Int),v5= .int .i64 x5_1/\v6= .int .i64 x6_1/\zm (zaI.l0 kq a1 x5_1 x6_1 s0_0 x1001_1 x1002_1=some (r1,r2,r3))/\zm (kq<=k)/\zm (ze w0 w' g s0_0 x1001_1 x1002_1)/\zm (zA w w' g none)/\zm (Below w0.heap.size w0 w'))
 case atStart=>exact ⟨(0),(0),(s0_1),(s0_2),(by first|rfl|(simp;done)|(simp [*];done)),(by first|rfl|(simp;done)|(simp [*];done)),H',⟨Nat.le_refl _⟩,⟨by repeat (first|(with_reducible first|exact HI0.out|apply ze.alloc|apply ze.drewN|apply ze.drew|apply ze.set_1|apply ze.set_2)|exact HI0.out)⟩,⟨by repeat (first|(with_reducible first|exact HK.out|apply zA.set_|apply zY|apply zaj|apply zZ)|exact HK.out)⟩,⟨by repeat (first|(with_reducible first|exact HB.out|apply zw|apply zn|apply zu|refine zl ?_ (ze.ge HI0.out))|exact HB.out)⟩⟩
 case round=>
  clear H'
  try clear c1
  try clear p2
  obtain ⟨x5_1,x6_1,x1001_1,x1002_1,rfl,rfl,HA,HK1,HI0,HK,HB⟩:=hrel
  cases gk with
  | zero=>exact absurd HA.out (by simp [zaI.l0])
  | succ k1=>
   have H:=HA.out
   clear HA
   simp only [zaI.l0] at H
   by_cases c3:x6_1<7
   ·rw [if_pos c3] at H
    have c3b0:decide (x6_1<7)=true:=decide_eq_true c3
    clear c3
    replace H:=Option.bind_eq_some_iff.mp H
    obtain ⟨⟨t116,t117,t118⟩,A40,H⟩:=H
    replace H:(zaI.l0 k1 a1 (Go.bits .xor .i64 (wrap64 (x5_1*256)) t116) (wrap64 (x6_1+1)) s0_0 t117 t118)=some (r1,r2,r3):=H
    have A4:=zm.mk A40
    clear A40
    have H':=zm.mk H
    clear H
    go_wp2_with (first|((with_reducible refine zaB (f:=171) rfl ?_);refine zdf (some 14) rfl rfl Tryz.func171 (by kernel_rfl) rfl #[.pointer (some ⟨g,0,none⟩)] rfl (by (try simp only [List.map_toArray,List.map_cons,List.map_nil]);first|done|rfl|(simp only [List.length_drop,List.length_take];rfl)) ?_;(with_reducible refine (zba.calls g s0_0 x1001_1 x1002_1 t116 t117 t118 w0 _ ?side1 ?side2 A4.out).mono ?_);(case side1=>repeat (first|(with_reducible first|exact HI0.out|apply ze.alloc|apply ze.drewN|apply ze.drew|apply ze.set_1|apply ze.set_2)|exact HI0.out));(case side2=>repeat (first|(with_reducible first|exact HB.out|apply zw|apply zn|apply zu|refine zl ?_ (ze.ge HI0.out))|exact HB.out));rintro e w5 ⟨rfl,hi,hb,hk⟩;refine ⟨_,rfl,?_⟩;have n0_:=zm.mk (zA.trans (by repeat (first|(with_reducible first|exact HK.out|apply zA.set_|apply zY|apply zaj|apply zZ)|exact HK.out)) hk (.inl rfl));have n1_:=zm.mk (hb);have n2_:=zm.mk (hi);clear HK;clear HB;clear HI0;have HK:=n0_;have HB:=n1_;have HI0:=n2_;clear n0_ n1_ n2_;(try clear hb);(try clear hb2);(try clear hk);(try clear hi)))
    go_roundg k1
    case measure=>have:=HK1.out;omega
    case rel=>exact ⟨(Go.bits .xor .i64 (wrap64 (x5_1*256)) t116),(wrap64 (x6_1+1)),(t117),(t118),(by first|rfl|(simp;done)|(simp [*];done)),(by first|rfl|(simp;done)|(simp [*];done)),H',⟨by have:=HK1.out;omega⟩,⟨by repeat (first|(with_reducible first|exact HI0.out|apply ze.alloc|apply ze.drewN|apply ze.drew|apply ze.set_1|apply ze.set_2)|exact HI0.out)⟩,⟨by repeat (first|(with_reducible first|exact HK.out|apply zA.set_|apply zY|apply zaj|apply zZ)|exact HK.out)⟩,⟨by repeat (first|(with_reducible first|exact HB.out|apply zw|apply zn|apply zu|refine zl ?_ (ze.ge HI0.out))|exact HB.out)⟩⟩
   ·rw [if_neg c3] at H
    have c3b0:decide (x6_1<7)=false:=decide_eq_false c3
    clear c3
    by_cases c6:(wrap64 (a1+1))=0
    ·rw [if_pos c6] at H
     exact absurd H (by simp)
    ·rw [if_neg c6] at H
     have c6b0:((wrap64 (a1+1))==0)=false:=beq_eq_false_iff_ne.mpr c6
     have c6b1:((wrap64 (a1+1)) != 0)=true:=bne_iff_ne.mpr c6
     replace H:=Option.bind_eq_some_iff.mp H
     obtain ⟨⟨t119,t120,t121⟩,A70,H⟩:=H
     replace H:(if t119=0 then ((zS.f s0_0 t120 t121 40).bind fun bt122=>(if 0<=(IntKind.u64.wrap (bt122.1)) then ((zaF.f s0_0 bt122.2.1 bt122.2.2 2).bind fun bt125=>(if bt125.1=true then (some (wrap64 (-(shr .i64 (Int.tmod x5_1 (wrap64 (a1+1))) (IntKind.u64.wrap (bt122.1)))),bt125.2.1,bt125.2.2)) else (some (shr .i64 (Int.tmod x5_1 (wrap64 (a1+1))) (IntKind.u64.wrap (bt122.1)),bt125.2.1,bt125.2.2)))) else (none))) else (if t119=1 then ((zaT.f s0_0 t120 t121 (([0,1,a1,wrap64 (Int.tdiv a1 2)]:List Int))).bind fun bt131=>((zaF.f s0_0 bt131.2.1 bt131.2.2 2).bind fun bt134=>(if bt134.1=true then (some (wrap64 (-bt131.1),bt134.2.1,bt134.2.2)) else (some (bt131.1,bt134.2.1,bt134.2.2))))) else ((zaF.f s0_0 t120 t121 2).bind fun bt137=>(if bt137.1=true then (some (wrap64 (-(Int.tmod x5_1 (wrap64 (a1+1)))),bt137.2.1,bt137.2.2)) else (some (Int.tmod x5_1 (wrap64 (a1+1)),bt137.2.1,bt137.2.2))))))=some (r1,r2,r3):=H
     have A7:=zm.mk A70
     clear A70
     by_cases c8:t119=0
     ·rw [if_pos c8] at H
      have c8b0:(t119==0)=true:=beq_iff_eq.mpr c8
      have c8b1:(t119 != 0)=false:=bne_eq_false_iff_eq.mpr c8
      clear c8
      replace H:=Option.bind_eq_some_iff.mp H
      obtain ⟨⟨t122,t123,t124⟩,A90,H⟩:=H
      replace H:(if 0<=(IntKind.u64.wrap (t122)) then ((zaF.f s0_0 t123 t124 2).bind fun bt125=>(if bt125.1=true then (some (wrap64 (-(shr .i64 (Int.tmod x5_1 (wrap64 (a1+1))) (IntKind.u64.wrap (t122)))),bt125.2.1,bt125.2.2)) else (some (shr .i64 (Int.tmod x5_1 (wrap64 (a1+1))) (IntKind.u64.wrap (t122)),bt125.2.1,bt125.2.2)))) else (none))=some (r1,r2,r3):=H
      have A9:=zm.mk A90
      clear A90
      obtain ⟨ji10,hji10⟩:∃j_:Int,(IntKind.u64.wrap (t122))=j_:=⟨_,rfl⟩
      replace H:(if 0<=(ji10) then ((zaF.f s0_0 t123 t124 2).bind fun bt125=>(if bt125.1=true then (some (wrap64 (-(shr .i64 (Int.tmod x5_1 (wrap64 (a1+1))) (ji10))),bt125.2.1,bt125.2.2)) else (some (shr .i64 (Int.tmod x5_1 (wrap64 (a1+1))) (ji10),bt125.2.1,bt125.2.2)))) else (none))=some (r1,r2,r3):=by first|(rw [hji10] at H;exact H)|(simp only [hji10] at H ⊢;exact H)
      (try rw [hji10] at A7)
      (try rw [hji10] at A9)
      by_cases c11:0<=(ji10)
      ·rw [if_pos c11] at H
       have c11b0:=eq_true c11
       have c11b1:decide (0<=(ji10))=true:=decide_eq_true c11
       clear c11
       obtain ⟨ji12,hji12⟩:∃j_:Int,(shr .i64 (Int.tmod x5_1 (wrap64 (a1+1))) (ji10))=j_:=⟨_,rfl⟩
       replace H:((zaF.f s0_0 t123 t124 2).bind fun bt125=>(if bt125.1=true then (some (wrap64 (-(ji12)),bt125.2.1,bt125.2.2)) else (some (ji12,bt125.2.1,bt125.2.2))))=some (r1,r2,r3):=by first|(rw [hji12] at H;exact H)|(simp only [hji12] at H ⊢;exact H)
       (try rw [hji12] at A7)
       (try rw [hji12] at A9)
       have hji12_:((Int.tmod x5_1 (wrap64 (a1+1)))/2^min (ji10).toNat 64)=ji12:=hji12
       have hji12z:(ji10)<=64->((Int.tmod x5_1 (wrap64 (a1+1)))/2^(ji10).toNat)=ji12:=shr_small hji12
       replace H:=Option.bind_eq_some_iff.mp H
       obtain ⟨⟨t125,t126,t127⟩,A130,H⟩:=H
       replace H:(if t125=true then (some (wrap64 (-(ji12)),t126,t127)) else (some (ji12,t126,t127)))=some (r1,r2,r3):=H
       have A13:=zm.mk A130
       clear A130
       by_cases c14:t125=true
       ·subst c14
        have H1:(some (wrap64 (-(ji12)),t126,t127))=some (r1,r2,r3):=by rw [if_pos rfl] at H;exact H
        clear H
        have H:=H1
        clear H1
        simp only [Option.some.injEq,Prod.mk.injEq] at H
        obtain ⟨rfl,rfl,rfl⟩:=H
        go_wp2_with (first|((with_reducible refine zaB (f:=75) rfl ?_);refine zdf (some 21) rfl rfl Tryz.func75 (by kernel_rfl) rfl #[.pointer (some ⟨g,0,none⟩),.int .i64 5] rfl (by (try simp only [List.map_toArray,List.map_cons,List.map_nil]);first|done|rfl|(simp only [List.length_drop,List.length_take];rfl)) ?_;(with_reducible refine (zS.calls g s0_0 x1001_1 x1002_1 5 t119 t120 t121 w0 _ ?side1 ?side2 A7.out).mono ?_);(case side1=>repeat (first|(with_reducible first|exact HI0.out|apply ze.alloc|apply ze.drewN|apply ze.drew|apply ze.set_1|apply ze.set_2)|exact HI0.out));(case side2=>repeat (first|(with_reducible first|exact HB.out|apply zw|apply zn|apply zu|refine zl ?_ (ze.ge HI0.out))|exact HB.out));rintro e w15 ⟨rfl,hi,hb,hk⟩;refine ⟨_,rfl,?_⟩;have n0_:=zm.mk (zA.trans (by repeat (first|(with_reducible first|exact HK.out|apply zA.set_|apply zY|apply zaj|apply zZ)|exact HK.out)) hk (.inl rfl));have n1_:=zm.mk (hb);have n2_:=zm.mk (hi);clear HK;clear HB;clear HI0;have HK:=n0_;have HB:=n1_;have HI0:=n2_;clear n0_ n1_ n2_;(try clear hb);(try clear hb2);(try clear hk);(try clear hi))|((with_reducible refine zaB (f:=75) rfl ?_);refine zdf (some 26) rfl rfl Tryz.func75 (by kernel_rfl) rfl #[.pointer (some ⟨g,0,none⟩),.int .i64 40] rfl (by (try simp only [List.map_toArray,List.map_cons,List.map_nil]);first|done|rfl|(simp only [List.length_drop,List.length_take];rfl)) ?_;(with_reducible refine (zS.calls g s0_0 t120 t121 40 t122 t123 t124 w0 _ ?side1 ?side2 A9.out).mono ?_);(case side1=>repeat (first|(with_reducible first|exact HI0.out|apply ze.alloc|apply ze.drewN|apply ze.drew|apply ze.set_1|apply ze.set_2)|exact HI0.out));(case side2=>repeat (first|(with_reducible first|exact HB.out|apply zw|apply zn|apply zu|refine zl ?_ (ze.ge HI0.out))|exact HB.out));rintro e w16 ⟨rfl,hi,hb,hk⟩;refine ⟨_,rfl,?_⟩;have n0_:=zm.mk (zA.trans (by repeat (first|(with_reducible first|exact HK.out|apply zA.set_|apply zY|apply zaj|apply zZ)|exact HK.out)) hk (.inl rfl));have n1_:=zm.mk (hb);have n2_:=zm.mk (hi);clear HK;clear HB;clear HI0;have HK:=n0_;have HB:=n1_;have HI0:=n2_;clear n0_ n1_ n2_;(try clear hb);(try clear hb2);(try clear hk);(try clear hi))|((with_reducible refine zaB (f:=187) rfl ?_);refine zdf (some 38) rfl rfl Tryz.func187 (by kernel_rfl) rfl #[.pointer (some ⟨g,0,none⟩),.int .i64 2] rfl (by (try simp only [List.map_toArray,List.map_cons,List.map_nil]);first|done|rfl|(simp only [List.length_drop,List.length_take];rfl)) ?_;(with_reducible refine (zaF.calls g s0_0 t123 t124 2 true t126 t127 w0 _ ?side1 ?side2 A13.out).mono ?_);(case side1=>repeat (first|(with_reducible first|exact HI0.out|apply ze.alloc|apply ze.drewN|apply ze.drew|apply ze.set_1|apply ze.set_2)|exact HI0.out));(case side2=>repeat (first|(with_reducible first|exact HB.out|apply zw|apply zn|apply zu|refine zl ?_ (ze.ge HI0.out))|exact HB.out));rintro e w17 ⟨rfl,hi,hb,hk⟩;refine ⟨_,rfl,?_⟩;have n0_:=zm.mk (zA.trans (by repeat (first|(with_reducible first|exact HK.out|apply zA.set_|apply zY|apply zaj|apply zZ)|exact HK.out)) hk (.inl rfl));have n1_:=zm.mk (hb);have n2_:=zm.mk (hi);clear HK;clear HB;clear HI0;have HK:=n0_;have HB:=n1_;have HI0:=n2_;clear n0_ n1_ n2_;(try clear hb);(try clear hb2);(try clear hk);(try clear hi)))
        go_ret
        exact ⟨by first|rfl|(simp [zay,zax]<;>rfl)|(simp only [<- hji10,<- hji12];first|rfl|(simp [zay,zax]<;>rfl))|(simp [*,zay,zax]<;>rfl),by repeat (first|(with_reducible first|exact HI0.out|apply ze.alloc|apply ze.drewN|apply ze.drew|apply ze.set_1|apply ze.set_2)|exact HI0.out),by repeat (first|(with_reducible first|exact HB.out|apply zw|apply zn|apply zu|refine zl ?_ (ze.ge HI0.out))|exact HB.out),by repeat (first|(with_reducible first|exact HK.out|apply zA.set_|apply zY|apply zaj|apply zZ)|exact HK.out)⟩
       ·replace c14:=Bool.eq_false_iff.mpr c14
        subst c14
        have H1:(some (ji12,t126,t127))=some (r1,r2,r3):=by rw [if_neg (show ¬(false=true) by decide)] at H;exact H
        clear H
        have H:=H1
        clear H1
        simp only [Option.some.injEq,Prod.mk.injEq] at H
        obtain ⟨rfl,rfl,rfl⟩:=H
        go_wp2_with (first|((with_reducible refine zaB (f:=75) rfl ?_);refine zdf (some 21) rfl rfl Tryz.func75 (by kernel_rfl) rfl #[.pointer (some ⟨g,0,none⟩),.int .i64 5] rfl (by (try simp only [List.map_toArray,List.map_cons,List.map_nil]);first|done|rfl|(simp only [List.length_drop,List.length_take];rfl)) ?_;(with_reducible refine (zS.calls g s0_0 x1001_1 x1002_1 5 t119 t120 t121 w0 _ ?side1 ?side2 A7.out).mono ?_);(case side1=>repeat (first|(with_reducible first|exact HI0.out|apply ze.alloc|apply ze.drewN|apply ze.drew|apply ze.set_1|apply ze.set_2)|exact HI0.out));(case side2=>repeat (first|(with_reducible first|exact HB.out|apply zw|apply zn|apply zu|refine zl ?_ (ze.ge HI0.out))|exact HB.out));rintro e w18 ⟨rfl,hi,hb,hk⟩;refine ⟨_,rfl,?_⟩;have n0_:=zm.mk (zA.trans (by repeat (first|(with_reducible first|exact HK.out|apply zA.set_|apply zY|apply zaj|apply zZ)|exact HK.out)) hk (.inl rfl));have n1_:=zm.mk (hb);have n2_:=zm.mk (hi);clear HK;clear HB;clear HI0;have HK:=n0_;have HB:=n1_;have HI0:=n2_;clear n0_ n1_ n2_;(try clear hb);(try clear hb2);(try clear hk);(try clear hi))|((with_reducible refine zaB (f:=75) rfl ?_);refine zdf (some 26) rfl rfl Tryz.func75 (by kernel_rfl) rfl #[.pointer (some ⟨g,0,none⟩),.int .i64 40] rfl (by (try simp only [List.map_toArray,List.map_cons,List.map_nil]);first|done|rfl|(simp only [List.length_drop,List.length_take];rfl)) ?_;(with_reducible refine (zS.calls g s0_0 t120 t121 40 t122 t123 t124 w0 _ ?side1 ?side2 A9.out).mono ?_);(case side1=>repeat (first|(with_reducible first|exact HI0.out|apply ze.alloc|apply ze.drewN|apply ze.drew|apply ze.set_1|apply ze.set_2)|exact HI0.out));(case side2=>repeat (first|(with_reducible first|exact HB.out|apply zw|apply zn|apply zu|refine zl ?_ (ze.ge HI0.out))|exact HB.out));rintro e w19 ⟨rfl,hi,hb,hk⟩;refine ⟨_,rfl,?_⟩;have n0_:=zm.mk (zA.trans (by repeat (first|(with_reducible first|exact HK.out|apply zA.set_|apply zY|apply zaj|apply zZ)|exact HK.out)) hk (.inl rfl));have n1_:=zm.mk (hb);have n2_:=zm.mk (hi);clear HK;clear HB;clear HI0;have HK:=n0_;have HB:=n1_;have HI0:=n2_;clear n0_ n1_ n2_;(try clear hb);(try clear hb2);(try clear hk);(try clear hi))|((with_reducible refine zaB (f:=187) rfl ?_);refine zdf (some 38) rfl rfl Tryz.func187 (by kernel_rfl) rfl #[.pointer (some ⟨g,0,none⟩),.int .i64 2] rfl (by (try simp only [List.map_toArray,List.map_cons,List.map_nil]);first|done|rfl|(simp only [List.length_drop,List.length_take];rfl)) ?_;(with_reducible refine (zaF.calls g s0_0 t123 t124 2 false t126 t127 w0 _ ?side1 ?side2 A13.out).mono ?_);(case side1=>repeat (first|(with_reducible first|exact HI0.out|apply ze.alloc|apply ze.drewN|apply ze.drew|apply ze.set_1|apply ze.set_2)|exact HI0.out));(case side2=>repeat (first|(with_reducible first|exact HB.out|apply zw|apply zn|apply zu|refine zl ?_ (ze.ge HI0.out))|exact HB.out));rintro e w20 ⟨rfl,hi,hb,hk⟩;refine ⟨_,rfl,?_⟩;have n0_:=zm.mk (zA.trans (by repeat (first|(with_reducible first|exact HK.out|apply zA.set_|apply zY|apply zaj|apply zZ)|exact HK.out)) hk (.inl rfl));have n1_:=zm.mk (hb);have n2_:=zm.mk (hi);clear HK;clear HB;clear HI0;have HK:=n0_;have HB:=n1_;have HI0:=n2_;clear n0_ n1_ n2_;(try clear hb);(try clear hb2);(try clear hk);(try clear hi)))
        go_ret
        exact ⟨by first|rfl|(simp [zay,zax]<;>rfl)|(simp only [<- hji10,<- hji12];first|rfl|(simp [zay,zax]<;>rfl))|(simp [*,zay,zax]<;>rfl),by repeat (first|(with_reducible first|exact HI0.out|apply ze.alloc|apply ze.drewN|apply ze.drew|apply ze.set_1|apply ze.set_2)|exact HI0.out),by repeat (first|(with_reducible first|exact HB.out|apply zw|apply zn|apply zu|refine zl ?_ (ze.ge HI0.out))|exact HB.out),by repeat (first|(with_reducible first|exact HK.out|apply zA.set_|apply zY|apply zaj|apply zZ)|exact HK.out)⟩
      ·rw [if_neg c11] at H
       exact absurd H (by simp)
     ·rw [if_neg c8] at H
      have c8b0:(t119==0)=false:=beq_eq_false_iff_ne.mpr c8
      have c8b1:(t119 != 0)=true:=bne_iff_ne.mpr c8
      by_cases c21:t119=1
      ·rw [if_pos c21] at H
       have c21b0:(t119==1)=true:=beq_iff_eq.mpr c21
       have c21b1:(t119 != 1)=false:=bne_eq_false_iff_eq.mpr c21
       clear c21
       obtain ⟨y128,hy128⟩:∃y_:List Int,y_=(([0,1,a1,wrap64 (Int.tdiv a1 2)]:List Int)):=⟨_,rfl⟩
       replace H:((zaT.f s0_0 t120 t121 y128).bind fun bt131=>((zaF.f s0_0 bt131.2.1 bt131.2.2 2).bind fun bt134=>(if bt134.1=true then (some (wrap64 (-bt131.1),bt134.2.1,bt134.2.2)) else (some (bt131.1,bt134.2.1,bt134.2.2)))))=some (r1,r2,r3):=by first|(rw [hy128];with_reducible exact H)|(have H2_:=(Option.bind_some _ _).symm.trans H;rw [hy128];with_reducible exact H2_)|(have H2_:=(Option.bind_some _ _).symm.trans H;with_reducible exact H2_)|with_reducible exact H|(rw [hy128];exact H)|exact H
       have Ny128:=zm.mk hy128
       clear hy128
       replace H:=Option.bind_eq_some_iff.mp H
       obtain ⟨⟨t131,t132,t133⟩,A220,H⟩:=H
       replace H:((zaF.f s0_0 t132 t133 2).bind fun bt134=>(if bt134.1=true then (some (wrap64 (-t131),bt134.2.1,bt134.2.2)) else (some (t131,bt134.2.1,bt134.2.2))))=some (r1,r2,r3):=H
       have A22:=zm.mk A220
       clear A220
       replace H:=Option.bind_eq_some_iff.mp H
       obtain ⟨⟨t134,t135,t136⟩,A230,H⟩:=H
       replace H:(if t134=true then (some (wrap64 (-t131),t135,t136)) else (some (t131,t135,t136)))=some (r1,r2,r3):=H
       have A23:=zm.mk A230
       clear A230
       by_cases c24:t134=true
       ·subst c24
        have H1:(some (wrap64 (-t131),t135,t136))=some (r1,r2,r3):=by rw [if_pos rfl] at H;exact H
        clear H
        have H:=H1
        clear H1
        simp only [Option.some.injEq,Prod.mk.injEq] at H
        obtain ⟨rfl,rfl,rfl⟩:=H
        go_wp2_with (first|((with_reducible refine zaB (f:=75) rfl ?_);refine zdf (some 21) rfl rfl Tryz.func75 (by kernel_rfl) rfl #[.pointer (some ⟨g,0,none⟩),.int .i64 5] rfl (by (try simp only [List.map_toArray,List.map_cons,List.map_nil]);first|done|rfl|(simp only [List.length_drop,List.length_take];rfl)) ?_;(with_reducible refine (zS.calls g s0_0 x1001_1 x1002_1 5 t119 t120 t121 w0 _ ?side1 ?side2 A7.out).mono ?_);(case side1=>repeat (first|(with_reducible first|exact HI0.out|apply ze.alloc|apply ze.drewN|apply ze.drew|apply ze.set_1|apply ze.set_2)|exact HI0.out));(case side2=>repeat (first|(with_reducible first|exact HB.out|apply zw|apply zn|apply zu|refine zl ?_ (ze.ge HI0.out))|exact HB.out));rintro e w25 ⟨rfl,hi,hb,hk⟩;refine ⟨_,rfl,?_⟩;have n0_:=zm.mk (zA.trans (by repeat (first|(with_reducible first|exact HK.out|apply zA.set_|apply zY|apply zaj|apply zZ)|exact HK.out)) hk (.inl rfl));have n1_:=zm.mk (hb);have n2_:=zm.mk (hi);clear HK;clear HB;clear HI0;have HK:=n0_;have HB:=n1_;have HI0:=n2_;clear n0_ n1_ n2_;(try clear hb);(try clear hb2);(try clear hk);(try clear hi))|((with_reducible refine gate_dst (N:=35) rfl ?_);refine Kd.R_lit (Kd.int .i64) _ 2 ?hg (N:=35) ?hd (xs:=([0,1,a1,wrap64 (Int.tdiv a1 2)]:List Int)) (inner:= [.int .i64 0,.int .i64 1,.int .i64 a1,.int .i64 (wrap64 (Int.tdiv a1 2))]) (ok:=fun _=>True) (okp:=fun _=>True) ?hr ?hp (fun _ hk=>hk) trivial (Below.refl _ _) (Nat.le_refl _) (by simp) ?_;(case hd=>rfl);(case hg=>rfl);(case hr=>first|(go_simp;done)|(go_simp;rfl));(case hp=>exact (Reps.one (show Kd.M (Kd.int .i64) _ _ _ 0 [.int .i64 0] from rfl) (Reps.one (show Kd.M (Kd.int .i64) _ _ _ 1 [.int .i64 1] from rfl) (Reps.one (show Kd.M (Kd.int .i64) _ _ _ a1 [.int .i64 a1] from rfl) (Reps.one (show Kd.M (Kd.int .i64) _ _ _ (wrap64 (Int.tdiv a1 2)) [.int .i64 (wrap64 (Int.tdiv a1 2))] from rfl) (Reps.none _ _))))));intro v129 w26 ho27 hb hg_ hnew_;clear hg_ hnew_;(first|rw [<- Ny128.out] at ho27|(simp only [Int.reduceToNat] at ho27;rw [<- Ny128.out] at ho27));have n0_:=zm.mk (Kd.R_lower ho27 (keep_size (w:=w) (g:=g) (row:=none) (by repeat (first|(with_reducible first|exact HK.out|apply zA.set_|apply zY|apply zaj|apply zZ)|exact HK.out))));have n1_:=zm.mk (ze.below (by repeat (first|(with_reducible first|exact HI0.out|apply ze.alloc|apply ze.drewN|apply ze.drew|apply ze.set_1|apply ze.set_2)|exact HI0.out)) hb);have n2_:=zm.mk (zA.trans (by repeat (first|(with_reducible first|exact HK.out|apply zA.set_|apply zY|apply zaj|apply zZ)|exact HK.out)) (zA.of_below hb g none) (.inl rfl));have n3_:=zm.mk (zc4 (by repeat (first|(with_reducible first|exact HB.out|apply zw|apply zn|apply zu|refine zl ?_ (ze.ge HI0.out))|exact HB.out)) hb);clear HI0;clear HK;clear HB;have HO130:=n0_;have HI0:=n1_;have HK:=n2_;have HB:=n3_;clear n0_ n1_ n2_ n3_;clear hb ho27;obtain ⟨Ao28,co28,eo28⟩:=Kd.R_slice HO130.out;subst eo28)|((with_reducible refine zaB (f:=170) rfl ?_);refine zdf (some 36) rfl rfl Tryz.func170 (by kernel_rfl) rfl #[.pointer (some ⟨g,0,none⟩),.slice Ao28 y128.length co28] rfl (by (try simp only [List.map_toArray,List.map_cons,List.map_nil]);first|done|rfl|(simp only [List.length_drop,List.length_take];rfl)) ?_;(with_reducible refine (zaT.calls g s0_0 t120 t121 _ _ y128 t131 t132 t133 w0 _ ?side1 ?side2 ?side3 ?side4 ?side5 A22.out).mono ?_);(case side1=>repeat (first|(with_reducible first|exact HI0.out|apply ze.alloc|apply ze.drewN|apply ze.drew|apply ze.set_1|apply ze.set_2)|exact HI0.out));(case side2=>repeat (first|(with_reducible first|exact HB.out|apply zw|apply zn|apply zu|refine zl ?_ (ze.ge HI0.out))|exact HB.out));(case side3=>repeat (first|exact (Kd.R_reads' HO130.out).2.2|(with_reducible refine Kd.C_alloc ?_ _)|(with_reducible refine Kd.C_drewN ?_ _)|(with_reducible refine Kd.C_drew ?_)));(case side4=>exact (Kd.R_reads' HO130.out).2.1);(case side5=>exact far_slice (ze.own_ne HI0.out HO130.out (by decide)));rintro e w29 ⟨rfl,hi,hb,hk⟩;refine ⟨_,rfl,?_⟩;have n0_:=zm.mk (Kd.R_mono (Kd.R_keep (ze.apart (show ze w0 _ g s0_0 t120 t121 from by repeat (first|(with_reducible first|exact HI0.out|apply ze.alloc|apply ze.drewN|apply ze.drew|apply ze.set_1|apply ze.set_2)|exact HI0.out)) (by (with_reducible repeat (first|apply Kd.R_alloc|apply Kd.R_drewN|apply Kd.R_drew));exact HO130.out) (by decide)) hk (fun _ h=>h.2)) (fun _ h=>h.1));have n1_:=zm.mk (zA.trans (by repeat (first|(with_reducible first|exact HK.out|apply zA.set_|apply zY|apply zaj|apply zZ)|exact HK.out)) hk (.inl rfl));have n2_:=zm.mk (hb);have n3_:=zm.mk (hi);clear HO130;clear HK;clear HB;clear HI0;have HO130:=n0_;have HK:=n1_;have HB:=n2_;have HI0:=n3_;clear n0_ n1_ n2_ n3_;(try clear hb);(try clear hb2);(try clear hk);(try clear hi))|((with_reducible refine zaB (f:=187) rfl ?_);refine zdf (some 38) rfl rfl Tryz.func187 (by kernel_rfl) rfl #[.pointer (some ⟨g,0,none⟩),.int .i64 2] rfl (by (try simp only [List.map_toArray,List.map_cons,List.map_nil]);first|done|rfl|(simp only [List.length_drop,List.length_take];rfl)) ?_;(with_reducible refine (zaF.calls g s0_0 t132 t133 2 true t135 t136 w0 _ ?side1 ?side2 A23.out).mono ?_);(case side1=>repeat (first|(with_reducible first|exact HI0.out|apply ze.alloc|apply ze.drewN|apply ze.drew|apply ze.set_1|apply ze.set_2)|exact HI0.out));(case side2=>repeat (first|(with_reducible first|exact HB.out|apply zw|apply zn|apply zu|refine zl ?_ (ze.ge HI0.out))|exact HB.out));rintro e w30 ⟨rfl,hi,hb,hk⟩;refine ⟨_,rfl,?_⟩;have n0_:=zm.mk (Kd.R_mono (Kd.R_keep (ze.apart (show ze w0 _ g s0_0 t132 t133 from by repeat (first|(with_reducible first|exact HI0.out|apply ze.alloc|apply ze.drewN|apply ze.drew|apply ze.set_1|apply ze.set_2)|exact HI0.out)) (by (with_reducible repeat (first|apply Kd.R_alloc|apply Kd.R_drewN|apply Kd.R_drew));exact HO130.out) (by decide)) hk (fun _ h=>h.2)) (fun _ h=>h.1));have n1_:=zm.mk (zA.trans (by repeat (first|(with_reducible first|exact HK.out|apply zA.set_|apply zY|apply zaj|apply zZ)|exact HK.out)) hk (.inl rfl));have n2_:=zm.mk (hb);have n3_:=zm.mk (hi);clear HO130;clear HK;clear HB;clear HI0;have HO130:=n0_;have HK:=n1_;have HB:=n2_;have HI0:=n3_;clear n0_ n1_ n2_ n3_;(try clear hb);(try clear hb2);(try clear hk);(try clear hi)))
        go_ret
        exact ⟨by first|rfl|(simp [zay,zax]<;>rfl)|(simp [*,zay,zax]<;>rfl),by repeat (first|(with_reducible first|exact HI0.out|apply ze.alloc|apply ze.drewN|apply ze.drew|apply ze.set_1|apply ze.set_2)|exact HI0.out),by repeat (first|(with_reducible first|exact HB.out|apply zw|apply zn|apply zu|refine zl ?_ (ze.ge HI0.out))|exact HB.out),by repeat (first|(with_reducible first|exact HK.out|apply zA.set_|apply zY|apply zaj|apply zZ)|exact HK.out)⟩
       ·replace c24:=Bool.eq_false_iff.mpr c24
        subst c24
        have H1:(some (t131,t135,t136))=some (r1,r2,r3):=by rw [if_neg (show ¬(false=true) by decide)] at H;exact H
        clear H
        have H:=H1
        clear H1
        simp only [Option.some.injEq,Prod.mk.injEq] at H
        obtain ⟨rfl,rfl,rfl⟩:=H
        go_wp2_with (first|((with_reducible refine zaB (f:=75) rfl ?_);refine zdf (some 21) rfl rfl Tryz.func75 (by kernel_rfl) rfl #[.pointer (some ⟨g,0,none⟩),.int .i64 5] rfl (by (try simp only [List.map_toArray,List.map_cons,List.map_nil]);first|done|rfl|(simp only [List.length_drop,List.length_take];rfl)) ?_;(with_reducible refine (zS.calls g s0_0 x1001_1 x1002_1 5 t119 t120 t121 w0 _ ?side1 ?side2 A7.out).mono ?_);(case side1=>repeat (first|(with_reducible first|exact HI0.out|apply ze.alloc|apply ze.drewN|apply ze.drew|apply ze.set_1|apply ze.set_2)|exact HI0.out));(case side2=>repeat (first|(with_reducible first|exact HB.out|apply zw|apply zn|apply zu|refine zl ?_ (ze.ge HI0.out))|exact HB.out));rintro e w31 ⟨rfl,hi,hb,hk⟩;refine ⟨_,rfl,?_⟩;have n0_:=zm.mk (zA.trans (by repeat (first|(with_reducible first|exact HK.out|apply zA.set_|apply zY|apply zaj|apply zZ)|exact HK.out)) hk (.inl rfl));have n1_:=zm.mk (hb);have n2_:=zm.mk (hi);clear HK;clear HB;clear HI0;have HK:=n0_;have HB:=n1_;have HI0:=n2_;clear n0_ n1_ n2_;(try clear hb);(try clear hb2);(try clear hk);(try clear hi))|((with_reducible refine gate_dst (N:=35) rfl ?_);refine Kd.R_lit (Kd.int .i64) _ 2 ?hg (N:=35) ?hd (xs:=([0,1,a1,wrap64 (Int.tdiv a1 2)]:List Int)) (inner:= [.int .i64 0,.int .i64 1,.int .i64 a1,.int .i64 (wrap64 (Int.tdiv a1 2))]) (ok:=fun _=>True) (okp:=fun _=>True) ?hr ?hp (fun _ hk=>hk) trivial (Below.refl _ _) (Nat.le_refl _) (by simp) ?_;(case hd=>rfl);(case hg=>rfl);(case hr=>first|(go_simp;done)|(go_simp;rfl));(case hp=>exact (Reps.one (show Kd.M (Kd.int .i64) _ _ _ 0 [.int .i64 0] from rfl) (Reps.one (show Kd.M (Kd.int .i64) _ _ _ 1 [.int .i64 1] from rfl) (Reps.one (show Kd.M (Kd.int .i64) _ _ _ a1 [.int .i64 a1] from rfl) (Reps.one (show Kd.M (Kd.int .i64) _ _ _ (wrap64 (Int.tdiv a1 2)) [.int .i64 (wrap64 (Int.tdiv a1 2))] from rfl) (Reps.none _ _))))));intro v129 w32 ho33 hb hg_ hnew_;clear hg_ hnew_;(first|rw [<- Ny128.out] at ho33|(simp only [Int.reduceToNat] at ho33;rw [<- Ny128.out] at ho33));have n0_:=zm.mk (Kd.R_lower ho33 (keep_size (w:=w) (g:=g) (row:=none) (by repeat (first|(with_reducible first|exact HK.out|apply zA.set_|apply zY|apply zaj|apply zZ)|exact HK.out))));have n1_:=zm.mk (ze.below (by repeat (first|(with_reducible first|exact HI0.out|apply ze.alloc|apply ze.drewN|apply ze.drew|apply ze.set_1|apply ze.set_2)|exact HI0.out)) hb);have n2_:=zm.mk (zA.trans (by repeat (first|(with_reducible first|exact HK.out|apply zA.set_|apply zY|apply zaj|apply zZ)|exact HK.out)) (zA.of_below hb g none) (.inl rfl));have n3_:=zm.mk (zc4 (by repeat (first|(with_reducible first|exact HB.out|apply zw|apply zn|apply zu|refine zl ?_ (ze.ge HI0.out))|exact HB.out)) hb);clear HI0;clear HK;clear HB;have HO130:=n0_;have HI0:=n1_;have HK:=n2_;have HB:=n3_;clear n0_ n1_ n2_ n3_;clear hb ho33;obtain ⟨Ao34,co34,eo34⟩:=Kd.R_slice HO130.out;subst eo34)|((with_reducible refine zaB (f:=170) rfl ?_);refine zdf (some 36) rfl rfl Tryz.func170 (by kernel_rfl) rfl #[.pointer (some ⟨g,0,none⟩),.slice Ao34 y128.length co34] rfl (by (try simp only [List.map_toArray,List.map_cons,List.map_nil]);first|done|rfl|(simp only [List.length_drop,List.length_take];rfl)) ?_;(with_reducible refine (zaT.calls g s0_0 t120 t121 _ _ y128 t131 t132 t133 w0 _ ?side1 ?side2 ?side3 ?side4 ?side5 A22.out).mono ?_);(case side1=>repeat (first|(with_reducible first|exact HI0.out|apply ze.alloc|apply ze.drewN|apply ze.drew|apply ze.set_1|apply ze.set_2)|exact HI0.out));(case side2=>repeat (first|(with_reducible first|exact HB.out|apply zw|apply zn|apply zu|refine zl ?_ (ze.ge HI0.out))|exact HB.out));(case side3=>repeat (first|exact (Kd.R_reads' HO130.out).2.2|(with_reducible refine Kd.C_alloc ?_ _)|(with_reducible refine Kd.C_drewN ?_ _)|(with_reducible refine Kd.C_drew ?_)));(case side4=>exact (Kd.R_reads' HO130.out).2.1);(case side5=>exact far_slice (ze.own_ne HI0.out HO130.out (by decide)));rintro e w35 ⟨rfl,hi,hb,hk⟩;refine ⟨_,rfl,?_⟩;have n0_:=zm.mk (Kd.R_mono (Kd.R_keep (ze.apart (show ze w0 _ g s0_0 t120 t121 from by repeat (first|(with_reducible first|exact HI0.out|apply ze.alloc|apply ze.drewN|apply ze.drew|apply ze.set_1|apply ze.set_2)|exact HI0.out)) (by (with_reducible repeat (first|apply Kd.R_alloc|apply Kd.R_drewN|apply Kd.R_drew));exact HO130.out) (by decide)) hk (fun _ h=>h.2)) (fun _ h=>h.1));have n1_:=zm.mk (zA.trans (by repeat (first|(with_reducible first|exact HK.out|apply zA.set_|apply zY|apply zaj|apply zZ)|exact HK.out)) hk (.inl rfl));have n2_:=zm.mk (hb);have n3_:=zm.mk (hi);clear HO130;clear HK;clear HB;clear HI0;have HO130:=n0_;have HK:=n1_;have HB:=n2_;have HI0:=n3_;clear n0_ n1_ n2_ n3_;(try clear hb);(try clear hb2);(try clear hk);(try clear hi))|((with_reducible refine zaB (f:=187) rfl ?_);refine zdf (some 38) rfl rfl Tryz.func187 (by kernel_rfl) rfl #[.pointer (some ⟨g,0,none⟩),.int .i64 2] rfl (by (try simp only [List.map_toArray,List.map_cons,List.map_nil]);first|done|rfl|(simp only [List.length_drop,List.length_take];rfl)) ?_;(with_reducible refine (zaF.calls g s0_0 t132 t133 2 false t135 t136 w0 _ ?side1 ?side2 A23.out).mono ?_);(case side1=>repeat (first|(with_reducible first|exact HI0.out|apply ze.alloc|apply ze.drewN|apply ze.drew|apply ze.set_1|apply ze.set_2)|exact HI0.out));(case side2=>repeat (first|(with_reducible first|exact HB.out|apply zw|apply zn|apply zu|refine zl ?_ (ze.ge HI0.out))|exact HB.out));rintro e w36 ⟨rfl,hi,hb,hk⟩;refine ⟨_,rfl,?_⟩;have n0_:=zm.mk (Kd.R_mono (Kd.R_keep (ze.apart (show ze w0 _ g s0_0 t132 t133 from by repeat (first|(with_reducible first|exact HI0.out|apply ze.alloc|apply ze.drewN|apply ze.drew|apply ze.set_1|apply ze.set_2)|exact HI0.out)) (by (with_reducible repeat (first|apply Kd.R_alloc|apply Kd.R_drewN|apply Kd.R_drew));exact HO130.out) (by decide)) hk (fun _ h=>h.2)) (fun _ h=>h.1));have n1_:=zm.mk (zA.trans (by repeat (first|(with_reducible first|exact HK.out|apply zA.set_|apply zY|apply zaj|apply zZ)|exact HK.out)) hk (.inl rfl));have n2_:=zm.mk (hb);have n3_:=zm.mk (hi);clear HO130;clear HK;clear HB;clear HI0;have HO130:=n0_;have HK:=n1_;have HB:=n2_;have HI0:=n3_;clear n0_ n1_ n2_ n3_;(try clear hb);(try clear hb2);(try clear hk);(try clear hi)))
        go_ret
        exact ⟨by first|rfl|(simp [zay,zax]<;>rfl)|(simp [*,zay,zax]<;>rfl),by repeat (first|(with_reducible first|exact HI0.out|apply ze.alloc|apply ze.drewN|apply ze.drew|apply ze.set_1|apply ze.set_2)|exact HI0.out),by repeat (first|(with_reducible first|exact HB.out|apply zw|apply zn|apply zu|refine zl ?_ (ze.ge HI0.out))|exact HB.out),by repeat (first|(with_reducible first|exact HK.out|apply zA.set_|apply zY|apply zaj|apply zZ)|exact HK.out)⟩
      ·rw [if_neg c21] at H
       have c21b0:(t119==1)=false:=beq_eq_false_iff_ne.mpr c21
       have c21b1:(t119 != 1)=true:=bne_iff_ne.mpr c21
       replace H:=Option.bind_eq_some_iff.mp H
       obtain ⟨⟨t137,t138,t139⟩,A370,H⟩:=H
       replace H:(if t137=true then (some (wrap64 (-(Int.tmod x5_1 (wrap64 (a1+1)))),t138,t139)) else (some (Int.tmod x5_1 (wrap64 (a1+1)),t138,t139)))=some (r1,r2,r3):=H
       have A37:=zm.mk A370
       clear A370
       by_cases c38:t137=true
       ·subst c38
        have H1:(some (wrap64 (-(Int.tmod x5_1 (wrap64 (a1+1)))),t138,t139))=some (r1,r2,r3):=by rw [if_pos rfl] at H;exact H
        clear H
        have H:=H1
        clear H1
        simp only [Option.some.injEq,Prod.mk.injEq] at H
        obtain ⟨rfl,rfl,rfl⟩:=H
        go_wp2_with (first|((with_reducible refine zaB (f:=75) rfl ?_);refine zdf (some 21) rfl rfl Tryz.func75 (by kernel_rfl) rfl #[.pointer (some ⟨g,0,none⟩),.int .i64 5] rfl (by (try simp only [List.map_toArray,List.map_cons,List.map_nil]);first|done|rfl|(simp only [List.length_drop,List.length_take];rfl)) ?_;(with_reducible refine (zS.calls g s0_0 x1001_1 x1002_1 5 t119 t120 t121 w0 _ ?side1 ?side2 A7.out).mono ?_);(case side1=>repeat (first|(with_reducible first|exact HI0.out|apply ze.alloc|apply ze.drewN|apply ze.drew|apply ze.set_1|apply ze.set_2)|exact HI0.out));(case side2=>repeat (first|(with_reducible first|exact HB.out|apply zw|apply zn|apply zu|refine zl ?_ (ze.ge HI0.out))|exact HB.out));rintro e w39 ⟨rfl,hi,hb,hk⟩;refine ⟨_,rfl,?_⟩;have n0_:=zm.mk (zA.trans (by repeat (first|(with_reducible first|exact HK.out|apply zA.set_|apply zY|apply zaj|apply zZ)|exact HK.out)) hk (.inl rfl));have n1_:=zm.mk (hb);have n2_:=zm.mk (hi);clear HK;clear HB;clear HI0;have HK:=n0_;have HB:=n1_;have HI0:=n2_;clear n0_ n1_ n2_;(try clear hb);(try clear hb2);(try clear hk);(try clear hi))|((with_reducible refine zaB (f:=187) rfl ?_);refine zdf (some 38) rfl rfl Tryz.func187 (by kernel_rfl) rfl #[.pointer (some ⟨g,0,none⟩),.int .i64 2] rfl (by (try simp only [List.map_toArray,List.map_cons,List.map_nil]);first|done|rfl|(simp only [List.length_drop,List.length_take];rfl)) ?_;(with_reducible refine (zaF.calls g s0_0 t120 t121 2 true t138 t139 w0 _ ?side1 ?side2 A37.out).mono ?_);(case side1=>repeat (first|(with_reducible first|exact HI0.out|apply ze.alloc|apply ze.drewN|apply ze.drew|apply ze.set_1|apply ze.set_2)|exact HI0.out));(case side2=>repeat (first|(with_reducible first|exact HB.out|apply zw|apply zn|apply zu|refine zl ?_ (ze.ge HI0.out))|exact HB.out));rintro e w40 ⟨rfl,hi,hb,hk⟩;refine ⟨_,rfl,?_⟩;have n0_:=zm.mk (zA.trans (by repeat (first|(with_reducible first|exact HK.out|apply zA.set_|apply zY|apply zaj|apply zZ)|exact HK.out)) hk (.inl rfl));have n1_:=zm.mk (hb);have n2_:=zm.mk (hi);clear HK;clear HB;clear HI0;have HK:=n0_;have HB:=n1_;have HI0:=n2_;clear n0_ n1_ n2_;(try clear hb);(try clear hb2);(try clear hk);(try clear hi)))
        go_ret
        exact ⟨by first|rfl|(simp [zay,zax]<;>rfl)|(simp [*,zay,zax]<;>rfl),by repeat (first|(with_reducible first|exact HI0.out|apply ze.alloc|apply ze.drewN|apply ze.drew|apply ze.set_1|apply ze.set_2)|exact HI0.out),by repeat (first|(with_reducible first|exact HB.out|apply zw|apply zn|apply zu|refine zl ?_ (ze.ge HI0.out))|exact HB.out),by repeat (first|(with_reducible first|exact HK.out|apply zA.set_|apply zY|apply zaj|apply zZ)|exact HK.out)⟩
       ·replace c38:=Bool.eq_false_iff.mpr c38
        subst c38
        have H1:(some (Int.tmod x5_1 (wrap64 (a1+1)),t138,t139))=some (r1,r2,r3):=by rw [if_neg (show ¬(false=true) by decide)] at H;exact H
        clear H
        have H:=H1
        clear H1
        simp only [Option.some.injEq,Prod.mk.injEq] at H
        obtain ⟨rfl,rfl,rfl⟩:=H
        go_wp2_with (first|((with_reducible refine zaB (f:=75) rfl ?_);refine zdf (some 21) rfl rfl Tryz.func75 (by kernel_rfl) rfl #[.pointer (some ⟨g,0,none⟩),.int .i64 5] rfl (by (try simp only [List.map_toArray,List.map_cons,List.map_nil]);first|done|rfl|(simp only [List.length_drop,List.length_take];rfl)) ?_;(with_reducible refine (zS.calls g s0_0 x1001_1 x1002_1 5 t119 t120 t121 w0 _ ?side1 ?side2 A7.out).mono ?_);(case side1=>repeat (first|(with_reducible first|exact HI0.out|apply ze.alloc|apply ze.drewN|apply ze.drew|apply ze.set_1|apply ze.set_2)|exact HI0.out));(case side2=>repeat (first|(with_reducible first|exact HB.out|apply zw|apply zn|apply zu|refine zl ?_ (ze.ge HI0.out))|exact HB.out));rintro e w41 ⟨rfl,hi,hb,hk⟩;refine ⟨_,rfl,?_⟩;have n0_:=zm.mk (zA.trans (by repeat (first|(with_reducible first|exact HK.out|apply zA.set_|apply zY|apply zaj|apply zZ)|exact HK.out)) hk (.inl rfl));have n1_:=zm.mk (hb);have n2_:=zm.mk (hi);clear HK;clear HB;clear HI0;have HK:=n0_;have HB:=n1_;have HI0:=n2_;clear n0_ n1_ n2_;(try clear hb);(try clear hb2);(try clear hk);(try clear hi))|((with_reducible refine zaB (f:=187) rfl ?_);refine zdf (some 38) rfl rfl Tryz.func187 (by kernel_rfl) rfl #[.pointer (some ⟨g,0,none⟩),.int .i64 2] rfl (by (try simp only [List.map_toArray,List.map_cons,List.map_nil]);first|done|rfl|(simp only [List.length_drop,List.length_take];rfl)) ?_;(with_reducible refine (zaF.calls g s0_0 t120 t121 2 false t138 t139 w0 _ ?side1 ?side2 A37.out).mono ?_);(case side1=>repeat (first|(with_reducible first|exact HI0.out|apply ze.alloc|apply ze.drewN|apply ze.drew|apply ze.set_1|apply ze.set_2)|exact HI0.out));(case side2=>repeat (first|(with_reducible first|exact HB.out|apply zw|apply zn|apply zu|refine zl ?_ (ze.ge HI0.out))|exact HB.out));rintro e w42 ⟨rfl,hi,hb,hk⟩;refine ⟨_,rfl,?_⟩;have n0_:=zm.mk (zA.trans (by repeat (first|(with_reducible first|exact HK.out|apply zA.set_|apply zY|apply zaj|apply zZ)|exact HK.out)) hk (.inl rfl));have n1_:=zm.mk (hb);have n2_:=zm.mk (hi);clear HK;clear HB;clear HI0;have HK:=n0_;have HB:=n1_;have HI0:=n2_;clear n0_ n1_ n2_;(try clear hb);(try clear hb2);(try clear hk);(try clear hi)))
        go_ret
        exact ⟨by first|rfl|(simp [zay,zax]<;>rfl)|(simp [*,zay,zax]<;>rfl),by repeat (first|(with_reducible first|exact HI0.out|apply ze.alloc|apply ze.drewN|apply ze.drew|apply ze.set_1|apply ze.set_2)|exact HI0.out),by repeat (first|(with_reducible first|exact HB.out|apply zw|apply zn|apply zu|refine zl ?_ (ze.ge HI0.out))|exact HB.out),by repeat (first|(with_reducible first|exact HK.out|apply zA.set_|apply zY|apply zaj|apply zZ)|exact HK.out)⟩
def zaz.j0:Nat->Int->List Int->Int->Int->Int->Int->Option (Int×Int×Int×Int)
 | 0,_,_,_,_,_,_=>none
 | k+1,x12,x1000,x1001,x1002,x145000,x145001=>if x12=0 then ((zaT.f x1000 x1001 x1002 (([900000000,(-900000000),0,1]:List Int))).bind fun bt155=>(some (bt155.1,x145001,bt155.2.1,bt155.2.2))) else (if x12=1 then ((zaT.f x1000 x1001 x1002 (([1800000000,(-1799999999),0,900000000,(-900000000)]:List Int))).bind fun bt161=>(some (x145000,bt161.1,bt161.2.1,bt161.2.2))) else (some (x145000,x145001,x1001,x1002)))
def zaz.f (k:Nat) (s0_0:List Int) (s0_1:Int) (s0_2:Int):Option (Int×Int×Int×Int):=(zaI.f k s0_0 s0_1 s0_2 900000000).bind fun bt141=>((zaI.f k s0_0 bt141.2.1 bt141.2.2 1800000000).bind fun bt145=>((zcu.f bt145.1).bind fun t148=>((zS.f s0_0 bt145.2.1 bt145.2.2 10).bind fun bt149=>(zaz.j0 k bt149.1 s0_0 bt149.2.1 bt149.2.2 bt141.1 t148))))
set_option maxHeartbeats 8000000 in
set_option maxRecDepth 100000 in
theorem zaz.calls (k:Nat) (g:Nat) (s0_0:List Int) (s0_1:Int) (s0_2:Int) (r1:Int) (r2:Int) (r3:Int) (r4:Int) (w0 w:World) (hI:ze w0 w g s0_0 s0_1 s0_2) (hB:Below w0.heap.size w0 w) (h:zaz.f k s0_0 s0_1 s0_2=some (r1,r2,r3,r4)):
  Calls Tryz.prog 74 #[.pointer (some ⟨g,0,none⟩)] w fun e w'=>e= .returned (.agg #[.int .i64 r1,.int .i64 r2])/\ze w0 w' g s0_0 r3 r4/\Below w0.heap.size w0 w'/\zA w w' g none:=by
 have hu24:=Tryz.underlying24
 have HI0:=zm.mk hI
 have HK:=zm.mk (zA.refl w g none)
 have HL:=zm.mk hB.size
 clear hI
 have HW0:=zm.mk hB.size
 have HB:=zm.mk hB
 clear hB
 have H:((zaI.f k s0_0 s0_1 s0_2 900000000).bind fun bt141=>((zaI.f k s0_0 bt141.2.1 bt141.2.2 1800000000).bind fun bt145=>((zcu.f bt145.1).bind fun t148=>((zS.f s0_0 bt145.2.1 bt145.2.2 10).bind fun bt149=>(zaz.j0 k bt149.1 s0_0 bt149.2.1 bt149.2.2 bt141.1 t148)))))=some (r1,r2,r3,r4):=h
 clear h
 replace H:=Option.bind_eq_some_iff.mp H
 obtain ⟨⟨t141,t142,t143⟩,A20,H⟩:=H
 replace H:((zaI.f k s0_0 t142 t143 1800000000).bind fun bt145=>((zcu.f bt145.1).bind fun t148=>((zS.f s0_0 bt145.2.1 bt145.2.2 10).bind fun bt149=>(zaz.j0 k bt149.1 s0_0 bt149.2.1 bt149.2.2 t141 t148))))=some (r1,r2,r3,r4):=H
 have A2:=zm.mk A20
 clear A20
 replace H:=Option.bind_eq_some_iff.mp H
 obtain ⟨⟨t145,t146,t147⟩,A30,H⟩:=H
 replace H:((zcu.f t145).bind fun t148=>((zS.f s0_0 t146 t147 10).bind fun bt149=>(zaz.j0 k bt149.1 s0_0 bt149.2.1 bt149.2.2 t141 t148)))=some (r1,r2,r3,r4):=H
 have A3:=zm.mk A30
 clear A30
 replace H:=Option.bind_eq_some_iff.mp H
 obtain ⟨t148,A40,H⟩:=H
 replace H:((zS.f s0_0 t146 t147 10).bind fun bt149=>(zaz.j0 k bt149.1 s0_0 bt149.2.1 bt149.2.2 t141 t148))=some (r1,r2,r3,r4):=H
 have A4:=zm.mk A40
 clear A40
 have HC5:=zm.mk H
 clear H
 go_enter Tryz.func74,Tryz.ntmps74
 go_upto_region 3 with (first|((with_reducible refine gate_dst (N:=2) rfl ?_);refine box_event ?hg (N:=2) ?hd (cs:=#[.int .i64 0,.int .i64 0]) (t:=24) ?hr ?_;(case hd=>rfl);(case hg=>rfl);(case hr=>first|(go_simp;done)|(go_simp;rfl));intro gb140 hg w6 hbox hb;have n0_:=zm.mk (ze.below (by repeat (first|(with_reducible first|exact HI0.out|apply ze.alloc|apply ze.drewN|apply ze.drew|apply ze.set_1|apply ze.set_2)|exact HI0.out)) hb);have n1_:=zm.mk (zA.trans (by repeat (first|(with_reducible first|exact HK.out|apply zA.set_|apply zY|apply zaj|apply zZ)|exact HK.out)) (zA.of_below hb g none) (.inl rfl));have n2_:=zm.mk (zc4 (by repeat (first|(with_reducible first|exact HB.out|apply zw|apply zn|apply zu|refine zl ?_ (ze.ge HI0.out))|exact HB.out)) hb);have n3_:=zm.mk (hbox);have n4_:=zm.mk ((by rw [hg];exact (keep_size (w:=w) (g:=g) (row:=none) (by repeat (first|(with_reducible first|exact HK.out|apply zA.set_|apply zY|apply zaj|apply zZ)|exact HK.out))):w.heap.size<=gb140));have n5_:=zm.mk ((Nat.le_trans HW0.out (by rw [hg];exact (keep_size (w:=w) (g:=g) (row:=none) (by repeat (first|(with_reducible first|exact HK.out|apply zA.set_|apply zY|apply zaj|apply zZ)|exact HK.out))):w.heap.size<=gb140):w0.heap.size<=gb140));have n6_:=zm.mk ((by rw [hg];exact Nat.ne_of_lt (ze.lt (show ze w0 _ g s0_0 s0_1 s0_2 from by repeat (first|(with_reducible first|exact HI0.out|apply ze.alloc|apply ze.drewN|apply ze.drew|apply ze.set_1|apply ze.set_2)|exact HI0.out))):g≠gb140));have n7_:=zm.mk ((by rw [hg];exact Nat.ne_of_gt (ze.lt (show ze w0 _ g s0_0 s0_1 s0_2 from by repeat (first|(with_reducible first|exact HI0.out|apply ze.alloc|apply ze.drewN|apply ze.drew|apply ze.set_1|apply ze.set_2)|exact HI0.out))):gb140≠g));clear HI0;clear HK;clear HB;have HI0:=n0_;have HK:=n1_;have HB:=n2_;have BK140:=n3_;have GW140:=n4_;have GE140:=n5_;have NB0_140:=n6_;have NB140_0:=n7_;clear n0_ n1_ n2_ n3_ n4_ n5_ n6_ n7_;clear hb hbox hg)|((with_reducible refine zaB (f:=109) rfl ?_);refine zdf (some 5) rfl rfl Tryz.func109 (by kernel_rfl) rfl #[.pointer (some ⟨g,0,none⟩),.int .i64 900000000] rfl (by (try simp only [List.map_toArray,List.map_cons,List.map_nil]);first|done|rfl|(simp only [List.length_drop,List.length_take];rfl)) ?_;(with_reducible refine (zaI.calls k g s0_0 s0_1 s0_2 900000000 t141 t142 t143 w0 _ ?side1 ?side2 A2.out).mono ?_);(case side1=>repeat (first|(with_reducible first|exact HI0.out|apply ze.alloc|apply ze.drewN|apply ze.drew|apply ze.set_1|apply ze.set_2|refine ze.far ?_ NB0_140.out _)|exact HI0.out));(case side2=>repeat (first|(with_reducible first|exact HB.out|apply zw|apply zn|apply zu|refine zl ?_ (ze.ge HI0.out)|refine zl ?_ GE140.out)|exact HB.out));rintro e w7 ⟨rfl,hi,hb,hk⟩;refine ⟨_,rfl,?_⟩;have n0_:=zm.mk (zA.blk hk (g':=gb140) (o:= .cells #[.int .i64 0,.int .i64 0] 24 (0,0)) (by (with_reducible repeat (first|refine zf ?_ _|refine zk ?_|refine zh ?_ _));exact BK140.out) NB140_0.out (by simp));have n1_:=zm.mk (zA.trans (by repeat (first|(with_reducible first|exact HK.out|apply zA.set_|apply zY|apply zaj|apply zZ|refine zbx ?_ GW140.out _)|exact HK.out)) hk (.inl rfl));have n2_:=zm.mk (hb);have n3_:=zm.mk (hi);clear BK140;clear HK;clear HB;clear HI0;have BK140:=n0_;have HK:=n1_;have HB:=n2_;have HI0:=n3_;clear n0_ n1_ n2_ n3_;(try clear hb);(try clear hb2);(try clear hk);(try clear hi))|((with_reducible refine gate_dst (N:=3) rfl ?_);refine box_event ?hg (N:=3) ?hd (cs:=#[.int .i64 0,.int .i64 0]) (t:=24) ?hr ?_;(case hd=>rfl);(case hg=>rfl);(case hr=>first|(go_simp;done)|(go_simp;rfl));intro gb144 hg w8 hbox hb;have n0_:=zm.mk (ze.below (by repeat (first|(with_reducible first|exact HI0.out|apply ze.alloc|apply ze.drewN|apply ze.drew|apply ze.set_1|apply ze.set_2|refine ze.far ?_ NB0_140.out _)|exact HI0.out)) hb);have n1_:=zm.mk (zbh (g:=gb140) (o:= .cells #[.int .i64 0,.int .i64 0] 24 (0,0)) (by (with_reducible repeat (first|refine zf ?_ _|refine zk ?_|refine zh ?_ _));exact BK140.out) hb);have n2_:=zm.mk (zA.trans (by repeat (first|(with_reducible first|exact HK.out|apply zA.set_|apply zY|apply zaj|apply zZ|refine zbx ?_ GW140.out _)|exact HK.out)) (zA.of_below hb g none) (.inl rfl));have n3_:=zm.mk (zc4 (by repeat (first|(with_reducible first|exact HB.out|apply zw|apply zn|apply zu|refine zl ?_ (ze.ge HI0.out)|refine zl ?_ GE140.out)|exact HB.out)) hb);have n4_:=zm.mk (hbox);have n5_:=zm.mk ((by rw [hg];exact (keep_size (w:=w) (g:=g) (row:=none) (by repeat (first|(with_reducible first|exact HK.out|apply zA.set_|apply zY|apply zaj|apply zZ|refine zbx ?_ GW140.out _)|exact HK.out))):w.heap.size<=gb144));have n6_:=zm.mk ((Nat.le_trans HW0.out (by rw [hg];exact (keep_size (w:=w) (g:=g) (row:=none) (by repeat (first|(with_reducible first|exact HK.out|apply zA.set_|apply zY|apply zaj|apply zZ|refine zbx ?_ GW140.out _)|exact HK.out))):w.heap.size<=gb144):w0.heap.size<=gb144));have n7_:=zm.mk ((by rw [hg];exact Nat.ne_of_lt (zcA (g:=gb140) (o:= .cells #[.int .i64 0,.int .i64 0] 24 (0,0)) (by (with_reducible repeat (first|refine zf ?_ _|refine zk ?_|refine zh ?_ _));exact BK140.out)):gb140≠gb144));have n8_:=zm.mk ((by rw [hg];exact Nat.ne_of_gt (zcA (g:=gb140) (o:= .cells #[.int .i64 0,.int .i64 0] 24 (0,0)) (by (with_reducible repeat (first|refine zf ?_ _|refine zk ?_|refine zh ?_ _));exact BK140.out)):gb144≠gb140));have n9_:=zm.mk ((by rw [hg];exact Nat.ne_of_lt (ze.lt (show ze w0 _ g s0_0 t142 t143 from by repeat (first|(with_reducible first|exact HI0.out|apply ze.alloc|apply ze.drewN|apply ze.drew|apply ze.set_1|apply ze.set_2|refine ze.far ?_ NB0_140.out _)|exact HI0.out))):g≠gb144));have n10_:=zm.mk ((by rw [hg];exact Nat.ne_of_gt (ze.lt (show ze w0 _ g s0_0 t142 t143 from by repeat (first|(with_reducible first|exact HI0.out|apply ze.alloc|apply ze.drewN|apply ze.drew|apply ze.set_1|apply ze.set_2|refine ze.far ?_ NB0_140.out _)|exact HI0.out))):gb144≠g));clear HI0;clear BK140;clear HK;clear HB;have HI0:=n0_;have BK140:=n1_;have HK:=n2_;have HB:=n3_;have BK144:=n4_;have GW144:=n5_;have GE144:=n6_;have NB140_144:=n7_;have NB144_140:=n8_;have NB0_144:=n9_;have NB144_0:=n10_;clear n0_ n1_ n2_ n3_ n4_ n5_ n6_ n7_ n8_ n9_ n10_;clear hb hbox hg;have hnb9:=NB144_140.out;have hnc9:=NB140_144.out;have hnb10:=NB144_0.out;have hnc10:=NB0_144.out;have hcz11_0:w8.cell? ⟨gb144,0,none⟩=some (.int .i64 0):=(zU BK144.out 0).trans rfl;have hcz11_1:w8.cell? ⟨gb144,1,none⟩=some (.int .i64 0):=(zU BK144.out 1).trans rfl;have hfz11_0:=zT BK144.out 0;have hfz11_1:=zT BK144.out 1)|((with_reducible refine zaB (f:=109) rfl ?_);refine zdf (some 8) rfl rfl Tryz.func109 (by kernel_rfl) rfl #[.pointer (some ⟨g,0,none⟩),.int .i64 1800000000] rfl (by (try simp only [List.map_toArray,List.map_cons,List.map_nil]);first|done|rfl|(simp only [List.length_drop,List.length_take];rfl)) ?_;(with_reducible refine (zaI.calls k g s0_0 t142 t143 1800000000 t145 t146 t147 w0 _ ?side1 ?side2 A3.out).mono ?_);(case side1=>repeat (first|(with_reducible first|exact HI0.out|apply ze.alloc|apply ze.drewN|apply ze.drew|apply ze.set_1|apply ze.set_2|refine ze.far ?_ NB0_140.out _|refine ze.far ?_ NB0_144.out _)|exact HI0.out));(case side2=>repeat (first|(with_reducible first|exact HB.out|apply zw|apply zn|apply zu|refine zl ?_ (ze.ge HI0.out)|refine zl ?_ GE140.out|refine zl ?_ GE144.out)|exact HB.out));rintro e w12 ⟨rfl,hi,hb,hk⟩;refine ⟨_,rfl,?_⟩;have n0_:=zm.mk (zA.blk hk (g':=gb140) (o:= .cells #[.int .i64 0,.int .i64 0] 24 (0,0)) (by (with_reducible repeat (first|refine zf ?_ _|refine zk ?_|refine zh ?_ _));refine zad ?_ NB140_144.out _;(with_reducible repeat (first|refine zf ?_ _|refine zk ?_|refine zh ?_ _));refine zad ?_ NB140_144.out _;(with_reducible repeat (first|refine zf ?_ _|refine zk ?_|refine zh ?_ _));exact BK140.out) NB140_0.out (by simp));have n1_:=zm.mk (zA.blk hk (g':=gb144) (o:= .cells #[.int .i64 t141,.int .i64 0] 24 (0,0)) (by (with_reducible repeat (first|refine zf ?_ _|refine zk ?_|refine zh ?_ _));refine zbg (cs:=#[.int .i64 t141,.int .i64 0]) ?_ 1 _ rfl;(with_reducible repeat (first|refine zf ?_ _|refine zk ?_|refine zh ?_ _));refine zbg (cs:=#[.int .i64 0,.int .i64 0]) ?_ 0 _ rfl;(with_reducible repeat (first|refine zf ?_ _|refine zk ?_|refine zh ?_ _));exact BK144.out) NB144_0.out (by simp));have n2_:=zm.mk (zA.trans (by repeat (first|(with_reducible first|exact HK.out|apply zA.set_|apply zY|apply zaj|apply zZ|refine zbx ?_ GW140.out _|refine zbx ?_ GW144.out _)|exact HK.out)) hk (.inl rfl));have n3_:=zm.mk (hb);have n4_:=zm.mk (hi);clear BK140;clear BK144;clear HK;clear HB;clear HI0;have BK140:=n0_;have BK144:=n1_;have HK:=n2_;have HB:=n3_;have HI0:=n4_;clear n0_ n1_ n2_ n3_ n4_;(try clear hb);(try clear hb2);(try clear hk);(try clear hi))|((with_reducible refine zaB (f:=76) rfl ?_);refine zdf (some 9) rfl rfl Tryz.func76 (by kernel_rfl) rfl #[.int .i64 t145] rfl (by (try simp only [List.map_toArray,List.map_cons,List.map_nil]);first|done|rfl|(simp only [List.length_drop,List.length_take];rfl)) ?_;(with_reducible refine (zcu.calls t145 t148 _ A4.out).mono ?_);rintro e w' ⟨rfl,⟨nd,rfl⟩⟩;refine ⟨_,rfl,?_⟩;(try (rw [drewN_self w12];generalize hq_:World.drewN w12 _=w12;have n0_:zm (w12.heap[gb140]?=some (.cells #[.int .i64 0,.int .i64 0] 24 (0,0))):=⟨by rw [<- hq_];exact (by (with_reducible repeat (first|refine zf ?_ _|refine zk ?_|refine zh ?_ _));exact BK140.out)⟩;have n1_:zm (w12.heap[gb144]?=some (.cells #[.int .i64 t141,.int .i64 0] 24 (0,0))):=⟨by rw [<- hq_];exact (by (with_reducible repeat (first|refine zf ?_ _|refine zk ?_|refine zh ?_ _));exact BK144.out)⟩;have n2_:zm (ze w0 w12 g s0_0 t146 t147):=⟨by rw [<- hq_];exact (by repeat (first|(with_reducible first|exact HI0.out|apply ze.alloc|apply ze.drewN|apply ze.drew|apply ze.set_1|apply ze.set_2|refine ze.far ?_ NB0_140.out _|refine ze.far ?_ NB0_144.out _)|exact HI0.out))⟩;have n3_:zm (zA w w12 g none):=⟨by rw [<- hq_];exact (by repeat (first|(with_reducible first|exact HK.out|apply zA.set_|apply zY|apply zaj|apply zZ|refine zbx ?_ GW140.out _|refine zbx ?_ GW144.out _)|exact HK.out))⟩;have n4_:zm (Below w0.heap.size w0 w12):=⟨by rw [<- hq_];exact (by repeat (first|(with_reducible first|exact HB.out|apply zw|apply zn|apply zu|refine zl ?_ (ze.ge HI0.out)|refine zl ?_ GE140.out|refine zl ?_ GE144.out)|exact HB.out))⟩;clear BK140 BK144 HI0 HK HB hq_;have BK140:=n0_;have BK144:=n1_;have HI0:=n2_;have HK:=n3_;have HB:=n4_;clear n0_ n1_ n2_ n3_ n4_));have hcz13_0:w12.cell? ⟨gb144,0,none⟩=some (.int .i64 t141):=(zU BK144.out 0).trans rfl;have hcz13_1:w12.cell? ⟨gb144,1,none⟩=some (.int .i64 0):=(zU BK144.out 1).trans rfl;have hfz13_0:=zT BK144.out 0;have hfz13_1:=zT BK144.out 1))
 (try simp only [Act.put,List.setIfInBounds_toArray,List.set_cons_zero,List.set_cons_succ])
 go_cut [12] (fun v12 wc=>∃(kq:Nat) (x12_4:Int) (x1001_4:Int) (x1002_4:Int),v12= .int .i64 x12_4/\zm (zaz.j0 kq x12_4 s0_0 x1001_4 x1002_4 t141 t148=some (r1,r2,r3,r4))/\zm (kq<=k)/\zm (wc.heap[gb140]?=some (.cells #[.int .i64 0,.int .i64 0] 24 (0,0)))/\zm (wc.heap[gb144]?=some (.cells #[.int .i64 t141,.int .i64 t148] 24 (0,0)))/\zm (ze w0 wc g s0_0 x1001_4 x1002_4)/\zm (zA w wc g none)/\zm (Below w0.heap.size w0 wc))
 case first=>
  have H:=HC5.out
  clear HC5
  replace H:=Option.bind_eq_some_iff.mp H
  obtain ⟨⟨t149,t150,t151⟩,A140,H⟩:=H
  replace H:(zaz.j0 k t149 s0_0 t150 t151 t141 t148)=some (r1,r2,r3,r4):=H
  have A14:=zm.mk A140
  clear A140
  have H':=zm.mk H
  clear H
  go_wp2_with (first|((with_reducible refine zaB (f:=75) rfl ?_);refine zdf (some 12) rfl rfl Tryz.func75 (by kernel_rfl) rfl #[.pointer (some ⟨g,0,none⟩),.int .i64 10] rfl (by (try simp only [List.map_toArray,List.map_cons,List.map_nil]);first|done|rfl|(simp only [List.length_drop,List.length_take];rfl)) ?_;(with_reducible refine (zS.calls g s0_0 t146 t147 10 t149 t150 t151 w0 _ ?side1 ?side2 A14.out).mono ?_);(case side1=>repeat (first|(with_reducible first|exact HI0.out|apply ze.alloc|apply ze.drewN|apply ze.drew|apply ze.set_1|apply ze.set_2|refine ze.far ?_ NB0_140.out _|refine ze.far ?_ NB0_144.out _)|exact HI0.out));(case side2=>repeat (first|(with_reducible first|exact HB.out|apply zw|apply zn|apply zu|refine zl ?_ (ze.ge HI0.out)|refine zl ?_ GE140.out|refine zl ?_ GE144.out)|exact HB.out));rintro e w15 ⟨rfl,hi,hb,hk⟩;refine ⟨_,rfl,?_⟩;have n0_:=zm.mk (zA.blk hk (g':=gb140) (o:= .cells #[.int .i64 0,.int .i64 0] 24 (0,0)) (by (with_reducible repeat (first|refine zf ?_ _|refine zk ?_|refine zh ?_ _));refine zad ?_ NB140_144.out _;(with_reducible repeat (first|refine zf ?_ _|refine zk ?_|refine zh ?_ _));exact BK140.out) NB140_0.out (by simp));have n1_:=zm.mk (zA.blk hk (g':=gb144) (o:= .cells #[.int .i64 t141,.int .i64 t148] 24 (0,0)) (by (with_reducible repeat (first|refine zf ?_ _|refine zk ?_|refine zh ?_ _));refine zbg (cs:=#[.int .i64 t141,.int .i64 0]) ?_ 1 _ rfl;(with_reducible repeat (first|refine zf ?_ _|refine zk ?_|refine zh ?_ _));exact BK144.out) NB144_0.out (by simp));have n2_:=zm.mk (zA.trans (by repeat (first|(with_reducible first|exact HK.out|apply zA.set_|apply zY|apply zaj|apply zZ|refine zbx ?_ GW140.out _|refine zbx ?_ GW144.out _)|exact HK.out)) hk (.inl rfl));have n3_:=zm.mk (hb);have n4_:=zm.mk (hi);clear BK140;clear BK144;clear HK;clear HB;clear HI0;have BK140:=n0_;have BK144:=n1_;have HK:=n2_;have HB:=n3_;have HI0:=n4_;clear n0_ n1_ n2_ n3_ n4_;(try clear hb);(try clear hb2);(try clear hk);(try clear hi)))
  go_meet
  case rel=>exact ⟨_,(t149),(t150),(t151),(by first|rfl|(simp;done)|(simp [*];done)),H',⟨by first|omega|exact Nat.le_refl _⟩,⟨by (with_reducible repeat (first|refine zf ?_ _|refine zk ?_|refine zh ?_ _));exact BK140.out⟩,⟨by (with_reducible repeat (first|refine zf ?_ _|refine zk ?_|refine zh ?_ _));exact BK144.out⟩,⟨by repeat (first|(with_reducible first|exact HI0.out|apply ze.alloc|apply ze.drewN|apply ze.drew|apply ze.set_1|apply ze.set_2|refine ze.far ?_ NB0_140.out _|refine ze.far ?_ NB0_144.out _)|exact HI0.out)⟩,⟨by repeat (first|(with_reducible first|exact HK.out|apply zA.set_|apply zY|apply zaj|apply zZ|refine zbx ?_ GW140.out _|refine zbx ?_ GW144.out _)|exact HK.out)⟩,⟨by repeat (first|(with_reducible first|exact HB.out|apply zw|apply zn|apply zu|refine zl ?_ (ze.ge HI0.out)|refine zl ?_ GE140.out|refine zl ?_ GE144.out)|exact HB.out)⟩⟩
 case rest=>
  clear HC5
  try clear c1
  try clear p2
  try clear c7
  try clear c9
  try clear c10
  try clear hcz11_0
  try clear hcz11_1
  try clear hcz13_0
  try clear hcz13_1
  try clear hfz11_0
  try clear hfz11_1
  try clear hfz13_0
  try clear hfz13_1
  obtain ⟨kq,x12_4,x1001_4,x1002_4,rfl,HA,HJ4,BK140,BK144,HI0,HK,HB⟩:=hcut
  cases kq with
  | zero=>exact absurd HA.out (by simp [zaz.j0])
  | succ kj4=>
   have H:=HA.out
   clear HA
   simp only [zaz.j0] at H
   by_cases c16:x12_4=0
   ·rw [if_pos c16] at H
    have c16b0:(x12_4==0)=true:=beq_iff_eq.mpr c16
    have c16b1:(x12_4 != 0)=false:=bne_eq_false_iff_eq.mpr c16
    clear c16
    obtain ⟨y152,hy152⟩:∃y_:List Int,y_=(([900000000,(-900000000),0,1]:List Int)):=⟨_,rfl⟩
    replace H:((zaT.f s0_0 x1001_4 x1002_4 y152).bind fun bt155=>(some (bt155.1,t148,bt155.2.1,bt155.2.2)))=some (r1,r2,r3,r4):=by first|(rw [hy152];with_reducible exact H)|(have H2_:=(Option.bind_some _ _).symm.trans H;rw [hy152];with_reducible exact H2_)|(have H2_:=(Option.bind_some _ _).symm.trans H;with_reducible exact H2_)|with_reducible exact H|(rw [hy152];exact H)|exact H
    have Ny152:=zm.mk hy152
    clear hy152
    replace H:=Option.bind_eq_some_iff.mp H
    obtain ⟨⟨t155,t156,t157⟩,A170,H⟩:=H
    replace H:(some (t155,t148,t156,t157))=some (r1,r2,r3,r4):=H
    have A17:=zm.mk A170
    clear A170
    simp only [Option.some.injEq,Prod.mk.injEq] at H
    obtain ⟨rfl,rfl,rfl,rfl⟩:=H
    go_wp2_with (first|((with_reducible refine gate_dst (N:=16) rfl ?_);refine Kd.R_lit (Kd.int .i64) _ 2 ?hg (N:=16) ?hd (xs:=([900000000,(-900000000),0,1]:List Int)) (inner:= [.int .i64 900000000,.int .i64 (-900000000),.int .i64 0,.int .i64 1]) (ok:=fun _=>True) (okp:=fun _=>True) ?hr ?hp (fun _ hk=>hk) trivial (Below.refl _ _) (Nat.le_refl _) (by simp) ?_;(case hd=>rfl);(case hg=>rfl);(case hr=>first|(go_simp;done)|(go_simp;rfl));(case hp=>exact (Reps.one (show Kd.M (Kd.int .i64) _ _ _ 900000000 [.int .i64 900000000] from rfl) (Reps.one (show Kd.M (Kd.int .i64) _ _ _ (-900000000) [.int .i64 (-900000000)] from rfl) (Reps.one (show Kd.M (Kd.int .i64) _ _ _ 0 [.int .i64 0] from rfl) (Reps.one (show Kd.M (Kd.int .i64) _ _ _ 1 [.int .i64 1] from rfl) (Reps.none _ _))))));intro v153 w18 ho19 hb hg_ hnew_;clear hg_ hnew_;(first|rw [<- Ny152.out] at ho19|(simp only [Int.reduceToNat] at ho19;rw [<- Ny152.out] at ho19));have n0_:=zm.mk (Kd.R_lower ho19 (keep_size (w:=w) (g:=g) (row:=none) (by repeat (first|(with_reducible first|exact HK.out|apply zA.set_|apply zY|apply zaj|apply zZ|refine zbx ?_ GW140.out _|refine zbx ?_ GW144.out _)|exact HK.out))));have n1_:=zm.mk (zbh (g:=gb140) (o:= .cells #[.int .i64 0,.int .i64 0] 24 (0,0)) (by (with_reducible repeat (first|refine zf ?_ _|refine zk ?_|refine zh ?_ _));exact BK140.out) hb);have n2_:=zm.mk (zbh (g:=gb144) (o:= .cells #[.int .i64 t141,.int .i64 t148] 24 (0,0)) (by (with_reducible repeat (first|refine zf ?_ _|refine zk ?_|refine zh ?_ _));exact BK144.out) hb);have n3_:=zm.mk (ze.below (by repeat (first|(with_reducible first|exact HI0.out|apply ze.alloc|apply ze.drewN|apply ze.drew|apply ze.set_1|apply ze.set_2|refine ze.far ?_ NB0_140.out _|refine ze.far ?_ NB0_144.out _)|exact HI0.out)) hb);have n4_:=zm.mk (zA.trans (by repeat (first|(with_reducible first|exact HK.out|apply zA.set_|apply zY|apply zaj|apply zZ|refine zbx ?_ GW140.out _|refine zbx ?_ GW144.out _)|exact HK.out)) (zA.of_below hb g none) (.inl rfl));have n5_:=zm.mk (zc4 (by repeat (first|(with_reducible first|exact HB.out|apply zw|apply zn|apply zu|refine zl ?_ (ze.ge HI0.out)|refine zl ?_ GE140.out|refine zl ?_ GE144.out)|exact HB.out)) hb);clear BK140;clear BK144;clear HI0;clear HK;clear HB;have HO154:=n0_;have BK140:=n1_;have BK144:=n2_;have HI0:=n3_;have HK:=n4_;have HB:=n5_;clear n0_ n1_ n2_ n3_ n4_ n5_;clear hb ho19;obtain ⟨Ao20,co20,eo20⟩:=Kd.R_slice HO154.out;subst eo20)|((with_reducible refine zaB (f:=170) rfl ?_);refine zdf (some 17) rfl rfl Tryz.func170 (by kernel_rfl) rfl #[.pointer (some ⟨g,0,none⟩),.slice Ao20 y152.length co20] rfl (by (try simp only [List.map_toArray,List.map_cons,List.map_nil]);first|done|rfl|(simp only [List.length_drop,List.length_take];rfl)) ?_;(with_reducible refine (zaT.calls g s0_0 x1001_4 x1002_4 _ _ y152 t155 t156 t157 w0 _ ?side1 ?side2 ?side3 ?side4 ?side5 A17.out).mono ?_);(case side1=>repeat (first|(with_reducible first|exact HI0.out|apply ze.alloc|apply ze.drewN|apply ze.drew|apply ze.set_1|apply ze.set_2|refine ze.far ?_ NB0_140.out _|refine ze.far ?_ NB0_144.out _)|exact HI0.out));(case side2=>repeat (first|(with_reducible first|exact HB.out|apply zw|apply zn|apply zu|refine zl ?_ (ze.ge HI0.out)|refine zl ?_ GE140.out|refine zl ?_ GE144.out)|exact HB.out));(case side3=>repeat (first|exact (Kd.R_reads' HO154.out).2.2|(with_reducible refine Kd.C_alloc ?_ _)|(with_reducible refine Kd.C_drewN ?_ _)|(with_reducible refine Kd.C_drew ?_)));(case side4=>exact (Kd.R_reads' HO154.out).2.1);(case side5=>exact far_slice (ze.own_ne HI0.out HO154.out (by decide)));rintro e w21 ⟨rfl,hi,hb,hk⟩;refine ⟨_,rfl,?_⟩;have n0_:=zm.mk (zA.blk hk (g':=gb140) (o:= .cells #[.int .i64 0,.int .i64 0] 24 (0,0)) (by (with_reducible repeat (first|refine zf ?_ _|refine zk ?_|refine zh ?_ _));exact BK140.out) NB140_0.out (by simp));have n1_:=zm.mk (zA.blk hk (g':=gb144) (o:= .cells #[.int .i64 t141,.int .i64 t148] 24 (0,0)) (by (with_reducible repeat (first|refine zf ?_ _|refine zk ?_|refine zh ?_ _));exact BK144.out) NB144_0.out (by simp));have n2_:=zm.mk (Kd.R_mono (Kd.R_keep (ze.apart (show ze w0 _ g s0_0 x1001_4 x1002_4 from by repeat (first|(with_reducible first|exact HI0.out|apply ze.alloc|apply ze.drewN|apply ze.drew|apply ze.set_1|apply ze.set_2|refine ze.far ?_ NB0_140.out _|refine ze.far ?_ NB0_144.out _)|exact HI0.out)) (by (with_reducible repeat (first|apply Kd.R_alloc|apply Kd.R_drewN|apply Kd.R_drew));exact HO154.out) (by decide)) hk (fun _ h=>h.2)) (fun _ h=>h.1));have n3_:=zm.mk (zA.trans (by repeat (first|(with_reducible first|exact HK.out|apply zA.set_|apply zY|apply zaj|apply zZ|refine zbx ?_ GW140.out _|refine zbx ?_ GW144.out _)|exact HK.out)) hk (.inl rfl));have n4_:=zm.mk (hb);have n5_:=zm.mk (hi);clear BK140;clear BK144;clear HO154;clear HK;clear HB;clear HI0;have BK140:=n0_;have BK144:=n1_;have HO154:=n2_;have HK:=n3_;have HB:=n4_;have HI0:=n5_;clear n0_ n1_ n2_ n3_ n4_ n5_;(try clear hb);(try clear hb2);(try clear hk);(try clear hi);have hnb22:=NB144_140.out;have hnc22:=NB140_144.out;have hnb23:=NB144_0.out;have hnc23:=NB0_144.out;have hcz24_0:w21.cell? ⟨gb144,0,none⟩=some (.int .i64 t141):=(zU BK144.out 0).trans rfl;have hcz24_1:w21.cell? ⟨gb144,1,none⟩=some (.int .i64 t148):=(zU BK144.out 1).trans rfl;have hfz24_0:=zT BK144.out 0;have hfz24_1:=zT BK144.out 1;have hnb25:=NB140_0.out;have hnc25:=NB0_140.out;have hcz26_0:w21.cell? ⟨gb140,0,none⟩=some (.int .i64 0):=(zU BK140.out 0).trans rfl;have hcz26_1:w21.cell? ⟨gb140,1,none⟩=some (.int .i64 0):=(zU BK140.out 1).trans rfl;have hfz26_0:=zT BK140.out 0;have hfz26_1:=zT BK140.out 1))
    refine bodyPost_ret (results_cell_row rfl _ _ gb140 24 #[.int .i64 t155,.int .i64 t148] (0,0) _ rfl (by (with_reducible repeat (first|refine zf ?_ _|refine zk ?_|refine zh ?_ _));refine zbg (cs:=#[.int .i64 t155,.int .i64 0]) ?_ 1 _ rfl;(with_reducible repeat (first|refine zf ?_ _|refine zk ?_|refine zh ?_ _));refine zbg (cs:=#[.int .i64 0,.int .i64 0]) ?_ 0 _ rfl;(with_reducible repeat (first|refine zf ?_ _|refine zk ?_|refine zh ?_ _));refine zad ?_ NB140_144.out _;(with_reducible repeat (first|refine zf ?_ _|refine zk ?_|refine zh ?_ _));exact BK140.out) Tryz.underlying24 rfl (by kernel_rfl)) rfl ?_
    exact ⟨by first|rfl|(simp [zay,zax]<;>rfl)|(simp [*,zay,zax]<;>rfl),by repeat (first|(with_reducible first|exact HI0.out|apply ze.alloc|apply ze.drewN|apply ze.drew|apply ze.set_1|apply ze.set_2|refine ze.far ?_ NB0_140.out _|refine ze.far ?_ NB0_144.out _)|exact HI0.out),by repeat (first|(with_reducible first|exact HB.out|apply zw|apply zn|apply zu|refine zl ?_ (ze.ge HI0.out)|refine zl ?_ GE140.out|refine zl ?_ GE144.out)|exact HB.out),by repeat (first|(with_reducible first|exact HK.out|apply zA.set_|apply zY|apply zaj|apply zZ|refine zbx ?_ GW140.out _|refine zbx ?_ GW144.out _)|exact HK.out)⟩
   ·rw [if_neg c16] at H
    have c16b0:(x12_4==0)=false:=beq_eq_false_iff_ne.mpr c16
    have c16b1:(x12_4 != 0)=true:=bne_iff_ne.mpr c16
    by_cases c27:x12_4=1
    ·rw [if_pos c27] at H
     have c27b0:(x12_4==1)=true:=beq_iff_eq.mpr c27
     have c27b1:(x12_4 != 1)=false:=bne_eq_false_iff_eq.mpr c27
     clear c27
     obtain ⟨y158,hy158⟩:∃y_:List Int,y_=(([1800000000,(-1799999999),0,900000000,(-900000000)]:List Int)):=⟨_,rfl⟩
     replace H:((zaT.f s0_0 x1001_4 x1002_4 y158).bind fun bt161=>(some (t141,bt161.1,bt161.2.1,bt161.2.2)))=some (r1,r2,r3,r4):=by first|(rw [hy158];with_reducible exact H)|(have H2_:=(Option.bind_some _ _).symm.trans H;rw [hy158];with_reducible exact H2_)|(have H2_:=(Option.bind_some _ _).symm.trans H;with_reducible exact H2_)|with_reducible exact H|(rw [hy158];exact H)|exact H
     have Ny158:=zm.mk hy158
     clear hy158
     replace H:=Option.bind_eq_some_iff.mp H
     obtain ⟨⟨t161,t162,t163⟩,A280,H⟩:=H
     replace H:(some (t141,t161,t162,t163))=some (r1,r2,r3,r4):=H
     have A28:=zm.mk A280
     clear A280
     simp only [Option.some.injEq,Prod.mk.injEq] at H
     obtain ⟨rfl,rfl,rfl,rfl⟩:=H
     go_wp2_with (first|((with_reducible refine gate_dst (N:=22) rfl ?_);refine Kd.R_lit (Kd.int .i64) _ 2 ?hg (N:=22) ?hd (xs:=([1800000000,(-1799999999),0,900000000,(-900000000)]:List Int)) (inner:= [.int .i64 1800000000,.int .i64 (-1799999999),.int .i64 0,.int .i64 900000000,.int .i64 (-900000000)]) (ok:=fun _=>True) (okp:=fun _=>True) ?hr ?hp (fun _ hk=>hk) trivial (Below.refl _ _) (Nat.le_refl _) (by simp) ?_;(case hd=>rfl);(case hg=>rfl);(case hr=>first|(go_simp;done)|(go_simp;rfl));(case hp=>exact (Reps.one (show Kd.M (Kd.int .i64) _ _ _ 1800000000 [.int .i64 1800000000] from rfl) (Reps.one (show Kd.M (Kd.int .i64) _ _ _ (-1799999999) [.int .i64 (-1799999999)] from rfl) (Reps.one (show Kd.M (Kd.int .i64) _ _ _ 0 [.int .i64 0] from rfl) (Reps.one (show Kd.M (Kd.int .i64) _ _ _ 900000000 [.int .i64 900000000] from rfl) (Reps.one (show Kd.M (Kd.int .i64) _ _ _ (-900000000) [.int .i64 (-900000000)] from rfl) (Reps.none _ _)))))));intro v159 w29 ho30 hb hg_ hnew_;clear hg_ hnew_;(first|rw [<- Ny158.out] at ho30|(simp only [Int.reduceToNat] at ho30;rw [<- Ny158.out] at ho30));have n0_:=zm.mk (Kd.R_lower ho30 (keep_size (w:=w) (g:=g) (row:=none) (by repeat (first|(with_reducible first|exact HK.out|apply zA.set_|apply zY|apply zaj|apply zZ|refine zbx ?_ GW140.out _|refine zbx ?_ GW144.out _)|exact HK.out))));have n1_:=zm.mk (zbh (g:=gb140) (o:= .cells #[.int .i64 0,.int .i64 0] 24 (0,0)) (by (with_reducible repeat (first|refine zf ?_ _|refine zk ?_|refine zh ?_ _));exact BK140.out) hb);have n2_:=zm.mk (zbh (g:=gb144) (o:= .cells #[.int .i64 t141,.int .i64 t148] 24 (0,0)) (by (with_reducible repeat (first|refine zf ?_ _|refine zk ?_|refine zh ?_ _));exact BK144.out) hb);have n3_:=zm.mk (ze.below (by repeat (first|(with_reducible first|exact HI0.out|apply ze.alloc|apply ze.drewN|apply ze.drew|apply ze.set_1|apply ze.set_2|refine ze.far ?_ NB0_140.out _|refine ze.far ?_ NB0_144.out _)|exact HI0.out)) hb);have n4_:=zm.mk (zA.trans (by repeat (first|(with_reducible first|exact HK.out|apply zA.set_|apply zY|apply zaj|apply zZ|refine zbx ?_ GW140.out _|refine zbx ?_ GW144.out _)|exact HK.out)) (zA.of_below hb g none) (.inl rfl));have n5_:=zm.mk (zc4 (by repeat (first|(with_reducible first|exact HB.out|apply zw|apply zn|apply zu|refine zl ?_ (ze.ge HI0.out)|refine zl ?_ GE140.out|refine zl ?_ GE144.out)|exact HB.out)) hb);clear BK140;clear BK144;clear HI0;clear HK;clear HB;have HO160:=n0_;have BK140:=n1_;have BK144:=n2_;have HI0:=n3_;have HK:=n4_;have HB:=n5_;clear n0_ n1_ n2_ n3_ n4_ n5_;clear hb ho30;obtain ⟨Ao31,co31,eo31⟩:=Kd.R_slice HO160.out;subst eo31)|((with_reducible refine zaB (f:=170) rfl ?_);refine zdf (some 23) rfl rfl Tryz.func170 (by kernel_rfl) rfl #[.pointer (some ⟨g,0,none⟩),.slice Ao31 y158.length co31] rfl (by (try simp only [List.map_toArray,List.map_cons,List.map_nil]);first|done|rfl|(simp only [List.length_drop,List.length_take];rfl)) ?_;(with_reducible refine (zaT.calls g s0_0 x1001_4 x1002_4 _ _ y158 t161 t162 t163 w0 _ ?side1 ?side2 ?side3 ?side4 ?side5 A28.out).mono ?_);(case side1=>repeat (first|(with_reducible first|exact HI0.out|apply ze.alloc|apply ze.drewN|apply ze.drew|apply ze.set_1|apply ze.set_2|refine ze.far ?_ NB0_140.out _|refine ze.far ?_ NB0_144.out _)|exact HI0.out));(case side2=>repeat (first|(with_reducible first|exact HB.out|apply zw|apply zn|apply zu|refine zl ?_ (ze.ge HI0.out)|refine zl ?_ GE140.out|refine zl ?_ GE144.out)|exact HB.out));(case side3=>repeat (first|exact (Kd.R_reads' HO160.out).2.2|(with_reducible refine Kd.C_alloc ?_ _)|(with_reducible refine Kd.C_drewN ?_ _)|(with_reducible refine Kd.C_drew ?_)));(case side4=>exact (Kd.R_reads' HO160.out).2.1);(case side5=>exact far_slice (ze.own_ne HI0.out HO160.out (by decide)));rintro e w32 ⟨rfl,hi,hb,hk⟩;refine ⟨_,rfl,?_⟩;have n0_:=zm.mk (zA.blk hk (g':=gb140) (o:= .cells #[.int .i64 0,.int .i64 0] 24 (0,0)) (by (with_reducible repeat (first|refine zf ?_ _|refine zk ?_|refine zh ?_ _));exact BK140.out) NB140_0.out (by simp));have n1_:=zm.mk (zA.blk hk (g':=gb144) (o:= .cells #[.int .i64 t141,.int .i64 t148] 24 (0,0)) (by (with_reducible repeat (first|refine zf ?_ _|refine zk ?_|refine zh ?_ _));exact BK144.out) NB144_0.out (by simp));have n2_:=zm.mk (Kd.R_mono (Kd.R_keep (ze.apart (show ze w0 _ g s0_0 x1001_4 x1002_4 from by repeat (first|(with_reducible first|exact HI0.out|apply ze.alloc|apply ze.drewN|apply ze.drew|apply ze.set_1|apply ze.set_2|refine ze.far ?_ NB0_140.out _|refine ze.far ?_ NB0_144.out _)|exact HI0.out)) (by (with_reducible repeat (first|apply Kd.R_alloc|apply Kd.R_drewN|apply Kd.R_drew));exact HO160.out) (by decide)) hk (fun _ h=>h.2)) (fun _ h=>h.1));have n3_:=zm.mk (zA.trans (by repeat (first|(with_reducible first|exact HK.out|apply zA.set_|apply zY|apply zaj|apply zZ|refine zbx ?_ GW140.out _|refine zbx ?_ GW144.out _)|exact HK.out)) hk (.inl rfl));have n4_:=zm.mk (hb);have n5_:=zm.mk (hi);clear BK140;clear BK144;clear HO160;clear HK;clear HB;clear HI0;have BK140:=n0_;have BK144:=n1_;have HO160:=n2_;have HK:=n3_;have HB:=n4_;have HI0:=n5_;clear n0_ n1_ n2_ n3_ n4_ n5_;(try clear hb);(try clear hb2);(try clear hk);(try clear hi);have hnb33:=NB144_140.out;have hnc33:=NB140_144.out;have hnb34:=NB144_0.out;have hnc34:=NB0_144.out;have hcz35_0:w32.cell? ⟨gb144,0,none⟩=some (.int .i64 t141):=(zU BK144.out 0).trans rfl;have hcz35_1:w32.cell? ⟨gb144,1,none⟩=some (.int .i64 t148):=(zU BK144.out 1).trans rfl;have hfz35_0:=zT BK144.out 0;have hfz35_1:=zT BK144.out 1;have hnb36:=NB140_0.out;have hnc36:=NB0_140.out;have hcz37_0:w32.cell? ⟨gb140,0,none⟩=some (.int .i64 0):=(zU BK140.out 0).trans rfl;have hcz37_1:w32.cell? ⟨gb140,1,none⟩=some (.int .i64 0):=(zU BK140.out 1).trans rfl;have hfz37_0:=zT BK140.out 0;have hfz37_1:=zT BK140.out 1))
     refine bodyPost_ret (results_cell_row rfl _ _ gb140 24 #[.int .i64 t141,.int .i64 t161] (0,0) _ rfl (by (with_reducible repeat (first|refine zf ?_ _|refine zk ?_|refine zh ?_ _));refine zbg (cs:=#[.int .i64 t141,.int .i64 0]) ?_ 1 _ rfl;(with_reducible repeat (first|refine zf ?_ _|refine zk ?_|refine zh ?_ _));refine zbg (cs:=#[.int .i64 0,.int .i64 0]) ?_ 0 _ rfl;(with_reducible repeat (first|refine zf ?_ _|refine zk ?_|refine zh ?_ _));refine zad ?_ NB140_144.out _;(with_reducible repeat (first|refine zf ?_ _|refine zk ?_|refine zh ?_ _));exact BK140.out) Tryz.underlying24 rfl (by kernel_rfl)) rfl ?_
     exact ⟨by first|rfl|(simp [zay,zax]<;>rfl)|(simp [*,zay,zax]<;>rfl),by repeat (first|(with_reducible first|exact HI0.out|apply ze.alloc|apply ze.drewN|apply ze.drew|apply ze.set_1|apply ze.set_2|refine ze.far ?_ NB0_140.out _|refine ze.far ?_ NB0_144.out _)|exact HI0.out),by repeat (first|(with_reducible first|exact HB.out|apply zw|apply zn|apply zu|refine zl ?_ (ze.ge HI0.out)|refine zl ?_ GE140.out|refine zl ?_ GE144.out)|exact HB.out),by repeat (first|(with_reducible first|exact HK.out|apply zA.set_|apply zY|apply zaj|apply zZ|refine zbx ?_ GW140.out _|refine zbx ?_ GW144.out _)|exact HK.out)⟩
    ·rw [if_neg c27] at H
     have c27b0:(x12_4==1)=false:=beq_eq_false_iff_ne.mpr c27
     have c27b1:(x12_4 != 1)=true:=bne_iff_ne.mpr c27
     simp only [Option.some.injEq,Prod.mk.injEq] at H
     obtain ⟨rfl,rfl,rfl,rfl⟩:=H
     have hnb38:=NB144_140.out
     have hnc38:=NB140_144.out
     have hnb39:=NB144_0.out
     have hnc39:=NB0_144.out
     have hcz40_0:wc.cell? ⟨gb144,0,none⟩=some (.int .i64 t141):=(zU BK144.out 0).trans rfl
     have hcz40_1:wc.cell? ⟨gb144,1,none⟩=some (.int .i64 t148):=(zU BK144.out 1).trans rfl
     have hfz40_0:=zT BK144.out 0
     have hfz40_1:=zT BK144.out 1
     have hnb41:=NB140_0.out
     have hnc41:=NB0_140.out
     have hcz42_0:wc.cell? ⟨gb140,0,none⟩=some (.int .i64 0):=(zU BK140.out 0).trans rfl
     have hcz42_1:wc.cell? ⟨gb140,1,none⟩=some (.int .i64 0):=(zU BK140.out 1).trans rfl
     have hfz42_0:=zT BK140.out 0
     have hfz42_1:=zT BK140.out 1
     go_wp2
     refine bodyPost_ret (results_cell_row rfl _ _ gb140 24 #[.int .i64 t141,.int .i64 t148] (0,0) _ rfl (by (with_reducible repeat (first|refine zf ?_ _|refine zk ?_|refine zh ?_ _));refine zbg (cs:=#[.int .i64 t141,.int .i64 0]) ?_ 1 _ rfl;(with_reducible repeat (first|refine zf ?_ _|refine zk ?_|refine zh ?_ _));refine zbg (cs:=#[.int .i64 0,.int .i64 0]) ?_ 0 _ rfl;(with_reducible repeat (first|refine zf ?_ _|refine zk ?_|refine zh ?_ _));exact BK140.out) Tryz.underlying24 rfl (by kernel_rfl)) rfl ?_
     exact ⟨by first|rfl|(simp [zay,zax]<;>rfl)|(simp [*,zay,zax]<;>rfl),by repeat (first|(with_reducible first|exact HI0.out|apply ze.alloc|apply ze.drewN|apply ze.drew|apply ze.set_1|apply ze.set_2|refine ze.far ?_ NB0_140.out _|refine ze.far ?_ NB0_144.out _)|exact HI0.out),by repeat (first|(with_reducible first|exact HB.out|apply zw|apply zn|apply zu|refine zl ?_ (ze.ge HI0.out)|refine zl ?_ GE140.out|refine zl ?_ GE144.out)|exact HB.out),by repeat (first|(with_reducible first|exact HK.out|apply zA.set_|apply zY|apply zaj|apply zZ|refine zbx ?_ GW140.out _|refine zbx ?_ GW144.out _)|exact HK.out)⟩
end Go.Proofs.YtfcjhkkpbnobhaaGreat.PFnRhumbs
