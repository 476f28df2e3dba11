/- The law FnOmega gives true, whatever comes in; each argument reads behind the call as it read before. No conditions. (One of the texts of its proof, put together by a program of this session.) -/
import Derived.Test.YtaoakfodkoifoaaGreatZX0
set_option linter.unusedSectionVars false
set_option linter.unusedSimpArgs false
set_option linter.unusedVariables false
namespace Go.Proofs.YtaoakfodkoifoaaGreat.PFnOmega
open Go.RowKit Go.Proofs.YtaoakfodkoifoaaGreatW.PrintWords Go.Proofs.YtaoakfodkoifoaaGreatW.PrintLast Go.Proofs.YtaoakfodkoifoaaGreatW.PrintMore
def zmB.f (l0:List Int) (l1:List Int):Option (Bool):=if (l0.length:Int)>3000 then (some true) else (some (decide ((l1.length:Int)>3000)))
set_option maxHeartbeats 8000000 in
set_option maxRecDepth 100000 in
theorem zmB.calls (A0:Option Addr) (c0:Nat) (l0:List Int) (A1:Option Addr) (c1:Nat) (l1:List Int) (r:Bool) (w:World) (hr0:Kd.C (Kd.int .u8) w A0 l0.length l0) (hc0:l0.length<=c0) (hr1:Kd.C (Kd.int .u8) w A1 l1.length l1) (hc1:l1.length<=c1) (h:zmB.f l0 l1=some r):
  Calls Tryz.prog 11 #[.slice A0 l0.length c0,.slice A1 l1.length c1] w fun e w'=>e= .returned (.bool r)/\zkk w w':=by
 have HR0:=zl.mk hr0
 have HC0:=zl.mk hc0
 clear hr0 hc0
 have HR1:=zl.mk hr1
 have HC1:=zl.mk hc1
 clear hr1 hc1
 have H:(if (l0.length:Int)>3000 then (some true) else (some (decide ((l1.length:Int)>3000))))=some r:=h
 clear h
 by_cases c3:(l0.length:Int)>3000
 ·rw [if_pos c3] at H
  have c3b0:decide (3000<(l0.length:Int))=true:=decide_eq_true c3
  have c3b1:decide (3000<l0.length)=true:=decide_eq_true (by omega)
  clear c3
  obtain rfl:=Option.some.inj H
  go_enter Tryz.func11,Tryz.ntmps11
  go_wp2
  go_ret
  exact ⟨by first|rfl|(simp;done)|(simp [*];done),by repeat (first|exact zkk.refl _|apply zkk.step)⟩
 ·rw [if_neg c3] at H
  have c3b0:decide (3000<(l0.length:Int))=false:=decide_eq_false c3
  have c3b1:decide (3000<l0.length)=false:=decide_eq_false (by omega)
  clear c3
  obtain rfl:=Option.some.inj H
  go_enter Tryz.func11,Tryz.ntmps11
  go_wp2
  go_ret
  exact ⟨by first|rfl|(simp;done)|(simp [*];done),by repeat (first|exact zkk.refl _|apply zkk.step)⟩
def ze (w0 W:World) (g:Nat) (f0:List Int) (f1:Int) (f2:Int):Prop:=∃A0 c0,W.heap[g]?=some (.cells #[.slice A0 f0.length c0,.int .i64 f1,.int .u64 f2] 111 (0,0))/\w0.heap.size<=g/\Kd.C (Kd.int .u8) w0 A0 f0.length f0
theorem ze.grown {w0 W:World} {g:Nat} {f0:List Int} {f1:Int} {f2:Int} {W1:World} {row:Option Nat} (h:ze w0 W g f0 f1 f2) (hw:W.grownBy W1 row) (hne:some g≠row):ze w0 W1 g f0 f1 f2:=by
 obtain ⟨A0,c0,hb,hg,hr0⟩:=h
 exact ⟨A0,c0,zIr hb hw hne,hg,hr0⟩
theorem ze.below {w0 W:World} {g:Nat} {f0:List Int} {f1:Int} {f2:Int} {W1:World} (h:ze w0 W g f0 f1 f2) (hw:Below W.heap.size W W1):ze w0 W1 g f0 f1 f2:=h.grown (zxy hw none) (by simp)
theorem ze.alloc {w0 W:World} {g:Nat} {f0:List Int} {f1:Int} {f2:Int} (h:ze w0 W g f0 f1 f2) (o:Obj):ze w0 (W.alloc o) g f0 f1 f2:=h.below (zy (Below.refl _ _) o)
theorem ze.drewN {w0 W:World} {g:Nat} {f0:List Int} {f1:Int} {f2:Int} (h:ze w0 W g f0 f1 f2) (m:Nat):ze w0 (W.drewN m) g f0 f1 f2:=h
theorem ze.drew {w0 W:World} {g:Nat} {f0:List Int} {f1:Int} {f2:Int} (h:ze w0 W g f0 f1 f2):ze w0 W.drew g f0 f1 f2:=h
theorem ze.apart {w0 W:World} {g:Nat} {f0:List Int} {f1:Int} {f2:Int} {α:Type} {d:Kd α} {e:Nat} {base:Nat} {ok:Nat->Prop} {v:Value} {xs:List α} (h:ze w0 W g f0 f1 f2) (ho:d.R e W base ok v xs) (ht:∀q,q∈e::d.E->q≠111):d.R e W base (fun k=>ok k/\k≠g) v xs:=by
 obtain ⟨A0,c0,hb,hg,hr0⟩:=h
 exact Kd.zM2 ho hb ht
theorem ze.own_ne {w0 W:World} {g:Nat} {f0:List Int} {f1:Int} {f2:Int} {α:Type} {d:Kd α} {e:Nat} {base:Nat} {ok:Nat->Prop} {v:Value} {xs:List α} (h:ze w0 W g f0 f1 f2) (ho:d.R e W base ok v xs) (ht:e≠111):some g≠v.ownBlock:=by
 obtain ⟨A0,c0,hb,hg,hr0⟩:=h
 exact Kd.R_ne ho hb ht
theorem ze.lt {w0 W:World} {g:Nat} {f0:List Int} {f1:Int} {f2:Int} (h:ze w0 W g f0 f1 f2):g<W.heap.size:=by
 obtain ⟨A0,c0,hb,hg,hr0⟩:=h
 exact zfC hb
theorem ze.ge {w0 W:World} {g:Nat} {f0:List Int} {f1:Int} {f2:Int} (h:ze w0 W g f0 f1 f2):w0.heap.size<=g:=by
 obtain ⟨A0,c0,hb,hg,hr0⟩:=h
 exact hg
theorem ze.ne_blk {w0 W:World} {g:Nat} {f0:List Int} {f1:Int} {f2:Int} {a:Nat} {cs:Array Value} {t:TypeId} {fr:Nat×Nat} (h:ze w0 W g f0 f1 f2) (hb2:W.heap[a]?=some (.cells cs t fr)) (ht:t≠111):g≠a:=by
 obtain ⟨A0,c0,hb,hg,hr0⟩:=h
 rintro rfl
 rw [hb] at hb2
 injection hb2 with hb2
 injection hb2 with _ ht2
 exact ht ht2.symm
theorem ze.far {w0 W:World} {g:Nat} {f0:List Int} {f1:Int} {f2:Int} {p:Addr} (h:ze w0 W g f0 f1 f2) (hne:g≠p.block) (u:Value):ze w0 (W.setCell p u) g f0 f1 f2:=by
 obtain ⟨A0,c0,hb,hg,hr0⟩:=h
 exact ⟨A0,c0,zce hb hne u,hg,hr0⟩
theorem zqc {W:World} {g:Nat} {A0:Option Addr} {c0:Nat} {f0:List Int} {f1:Int} {f2:Int} (h:W.heap[g]?=some (.cells #[.slice A0 f0.length c0,.int .i64 f1,.int .u64 f2] 111 (0,0))):W.cell? ⟨g,0,none⟩=some (.slice A0 f0.length c0):=(zaL h 0).trans rfl
theorem zqb {W:World} {g:Nat} {A0:Option Addr} {c0:Nat} {f0:List Int} {f1:Int} {f2:Int} (h:W.heap[g]?=some (.cells #[.slice A0 f0.length c0,.int .i64 f1,.int .u64 f2] 111 (0,0))):W.cell? ⟨g,1,none⟩=some (.int .i64 f1):=(zaL h 1).trans rfl
theorem ze.set_1 {w0 W:World} {g:Nat} {f0:List Int} {f1:Int} {f2:Int} (h:ze w0 W g f0 f1 f2) (x:Int):ze w0 (W.setCell ⟨g,1,none⟩ (.int .i64 x)) g f0 x f2:=by
 obtain ⟨A0,c0,hb,hg,hr0⟩:=h
 exact ⟨A0,c0,by simpa using zDD hb 1 (.int .i64 x),hg,hr0⟩
theorem zqa {W:World} {g:Nat} {A0:Option Addr} {c0:Nat} {f0:List Int} {f1:Int} {f2:Int} (h:W.heap[g]?=some (.cells #[.slice A0 f0.length c0,.int .i64 f1,.int .u64 f2] 111 (0,0))):W.cell? ⟨g,2,none⟩=some (.int .u64 f2):=(zaL h 2).trans rfl
theorem ze.set_2 {w0 W:World} {g:Nat} {f0:List Int} {f1:Int} {f2:Int} (h:ze w0 W g f0 f1 f2) (x:Int):ze w0 (W.setCell ⟨g,2,none⟩ (.int .u64 x)) g f0 f1 x:=by
 obtain ⟨A0,c0,hb,hg,hr0⟩:=h
 exact ⟨A0,c0,by simpa using zDD hb 2 (.int .u64 x),hg,hr0⟩
def zbu.f (s0_0:List Int) (s0_1:Int) (s0_2:Int):Option (Int×Int×Int):=if s0_1<(s0_0.length:Int) then (if 0<=s0_1 then (if (wrap64 (s0_1+1))<=(s0_0.length:Int) then (some (wrap64 (rd s0_0 s0_1),wrap64 (s0_1+1),IntKind.u64.wrap ((IntKind.u64.wrap ((IntKind.u64.wrap (s0_2*6364136223846793005))+(IntKind.u64.wrap (wrap64 (rd s0_0 s0_1)))))+1442695040888963407))) else (some (wrap64 (Go.bits .and .u64 ((IntKind.u64.wrap ((IntKind.u64.wrap ((IntKind.u64.wrap (s0_2*6364136223846793005))+(IntKind.u64.wrap (wrap64 (rd s0_0 s0_1)))))+1442695040888963407))/1099511627776) 255),wrap64 (s0_1+1),IntKind.u64.wrap ((IntKind.u64.wrap ((IntKind.u64.wrap (s0_2*6364136223846793005))+(IntKind.u64.wrap (wrap64 (rd s0_0 s0_1)))))+1442695040888963407)))) else (none)) else (if (wrap64 (s0_1+1))<=(s0_0.length:Int) then (some (0,wrap64 (s0_1+1),IntKind.u64.wrap ((IntKind.u64.wrap (IntKind.u64.wrap (s0_2*6364136223846793005)))+1442695040888963407))) else (some (wrap64 (Go.bits .and .u64 ((IntKind.u64.wrap ((IntKind.u64.wrap (IntKind.u64.wrap (s0_2*6364136223846793005)))+1442695040888963407))/1099511627776) 255),wrap64 (s0_1+1),IntKind.u64.wrap ((IntKind.u64.wrap (IntKind.u64.wrap (s0_2*6364136223846793005)))+1442695040888963407))))
set_option maxHeartbeats 8000000 in
set_option maxRecDepth 100000 in
theorem zbu.calls (g:Nat) (s0_0:List Int) (s0_1:Int) (s0_2:Int) (r1:Int) (r2:Int) (r3:Int) (w0 w:World) (hI:ze w0 w g s0_0 s0_1 s0_2) (hB:Below w0.heap.size w0 w) (h:zbu.f s0_0 s0_1 s0_2=some (r1,r2,r3)):
  Calls Tryz.prog 172 #[.pointer (some ⟨g,0,none⟩)] w fun e w'=>e= .returned (.int .i64 r1)/\ze w0 w' g s0_0 r2 r3/\Below w0.heap.size w0 w'/\zA w w' g none:=by
 have HI0:=zl.mk hI
 have HK:=zl.mk (zA.refl w g none)
 have HL:=zl.mk hB.size
 clear hI
 have HW0:=zl.mk hB.size
 have HB:=zl.mk hB
 clear hB
 have H:(if s0_1<(s0_0.length:Int) then (if 0<=s0_1 then (if (wrap64 (s0_1+1))<=(s0_0.length:Int) then (some (wrap64 (rd s0_0 s0_1),wrap64 (s0_1+1),IntKind.u64.wrap ((IntKind.u64.wrap ((IntKind.u64.wrap (s0_2*6364136223846793005))+(IntKind.u64.wrap (wrap64 (rd s0_0 s0_1)))))+1442695040888963407))) else (some (wrap64 (Go.bits .and .u64 ((IntKind.u64.wrap ((IntKind.u64.wrap ((IntKind.u64.wrap (s0_2*6364136223846793005))+(IntKind.u64.wrap (wrap64 (rd s0_0 s0_1)))))+1442695040888963407))/1099511627776) 255),wrap64 (s0_1+1),IntKind.u64.wrap ((IntKind.u64.wrap ((IntKind.u64.wrap (s0_2*6364136223846793005))+(IntKind.u64.wrap (wrap64 (rd s0_0 s0_1)))))+1442695040888963407)))) else (none)) else (if (wrap64 (s0_1+1))<=(s0_0.length:Int) then (some (0,wrap64 (s0_1+1),IntKind.u64.wrap ((IntKind.u64.wrap (IntKind.u64.wrap (s0_2*6364136223846793005)))+1442695040888963407))) else (some (wrap64 (Go.bits .and .u64 ((IntKind.u64.wrap ((IntKind.u64.wrap (IntKind.u64.wrap (s0_2*6364136223846793005)))+1442695040888963407))/1099511627776) 255),wrap64 (s0_1+1),IntKind.u64.wrap ((IntKind.u64.wrap (IntKind.u64.wrap (s0_2*6364136223846793005)))+1442695040888963407)))))=some (r1,r2,r3):=h
 clear h
 by_cases c2:s0_1<(s0_0.length:Int)
 ·rw [if_pos c2] at H
  have c2b0:decide (s0_1<(s0_0.length:Int))=true:=decide_eq_true c2
  clear c2
  by_cases c3:0<=s0_1
  ·rw [if_pos c3] at H
   have c3b0:decide (0<=s0_1)=true:=decide_eq_true c3
   clear c3
   by_cases c4:(wrap64 (s0_1+1))<=(s0_0.length:Int)
   ·rw [if_pos c4] at H
    have c4b0:decide ((wrap64 (s0_1+1))<=(s0_0.length:Int))=true:=decide_eq_true c4
    clear c4
    simp only [Option.some.injEq,Prod.mk.injEq] at H
    obtain ⟨rfl,rfl,rfl⟩:=H
    obtain ⟨ASz5_0,cSz5_0,HGz5,hgz5,HSz5_0⟩:=HI0.out
    have hcz5_0:=zqc HGz5
    have hcz5_1:=zqb HGz5
    have hcz5_2:=zqa HGz5
    have hfz5_1:=zao HGz5 1
    have hfz5_2:=zao HGz5 2
    clear HGz5 hgz5
    have p101:0<=(s0_1:Int):=of_decide_eq_true (by first|(with_reducible assumption)|assumption)
    have q101:s0_1<(s0_0.length:Int):=of_decide_eq_true (by first|(with_reducible assumption)|assumption)
    obtain ⟨ad101,e101,hx101_0⟩:=Kd.zIA HSz5_0 s0_1 p101 q101
    cases e101
    replace hx101_0:=zoy HB.out hx101_0
    replace p101:=eq_true p101
    replace q101:=eq_true q101
    go_enter Tryz.func172,Tryz.ntmps172
    go_wp2
    repeat (go_quiet (fail);try go_wp2)
    go_ret
    exact ⟨by first|rfl|(simp [*]<;>rfl),by repeat (with_reducible first|exact HI0.out|apply ze.alloc|apply ze.drewN|apply ze.set_1|apply ze.set_2),by repeat (with_reducible first|exact HB.out|apply zy|apply zm|refine zn ?_ (ze.ge HI0.out)),by repeat (with_reducible first|exact HK.out|apply zA.set_|apply zL|apply zM)⟩
   ·rw [if_neg c4] at H
    have c4b0:decide ((wrap64 (s0_1+1))<=(s0_0.length:Int))=false:=decide_eq_false c4
    clear c4
    simp only [Option.some.injEq,Prod.mk.injEq] at H
    obtain ⟨rfl,rfl,rfl⟩:=H
    obtain ⟨ASz6_0,cSz6_0,HGz6,hgz6,HSz6_0⟩:=HI0.out
    have hcz6_0:=zqc HGz6
    have hcz6_1:=zqb HGz6
    have hcz6_2:=zqa HGz6
    have hfz6_1:=zao HGz6 1
    have hfz6_2:=zao HGz6 2
    clear HGz6 hgz6
    have p101:0<=(s0_1:Int):=of_decide_eq_true (by first|(with_reducible assumption)|assumption)
    have q101:s0_1<(s0_0.length:Int):=of_decide_eq_true (by first|(with_reducible assumption)|assumption)
    obtain ⟨ad101,e101,hx101_0⟩:=Kd.zIA HSz6_0 s0_1 p101 q101
    cases e101
    replace hx101_0:=zoy HB.out hx101_0
    replace p101:=eq_true p101
    replace q101:=eq_true q101
    go_enter Tryz.func172,Tryz.ntmps172
    go_wp2
    repeat (go_quiet (fail);try go_wp2)
    go_ret
    exact ⟨by first|rfl|(simp [*]<;>rfl),by repeat (with_reducible first|exact HI0.out|apply ze.alloc|apply ze.drewN|apply ze.set_1|apply ze.set_2),by repeat (with_reducible first|exact HB.out|apply zy|apply zm|refine zn ?_ (ze.ge HI0.out)),by repeat (with_reducible first|exact HK.out|apply zA.set_|apply zL|apply zM)⟩
  ·rw [if_neg c3] at H
   exact absurd H (by simp)
 ·rw [if_neg c2] at H
  have c2b0:decide (s0_1<(s0_0.length:Int))=false:=decide_eq_false c2
  clear c2
  by_cases c7:(wrap64 (s0_1+1))<=(s0_0.length:Int)
  ·rw [if_pos c7] at H
   have c7b0:decide ((wrap64 (s0_1+1))<=(s0_0.length:Int))=true:=decide_eq_true c7
   clear c7
   simp only [Option.some.injEq,Prod.mk.injEq] at H
   obtain ⟨rfl,rfl,rfl⟩:=H
   obtain ⟨ASz8_0,cSz8_0,HGz8,hgz8,HSz8_0⟩:=HI0.out
   have hcz8_0:=zqc HGz8
   have hcz8_1:=zqb HGz8
   have hcz8_2:=zqa HGz8
   have hfz8_1:=zao HGz8 1
   have hfz8_2:=zao HGz8 2
   clear HGz8 hgz8
   go_enter Tryz.func172,Tryz.ntmps172
   go_wp2
   repeat (go_quiet (fail);try go_wp2)
   go_ret
   exact ⟨by first|rfl|(simp [*]<;>rfl),by repeat (with_reducible first|exact HI0.out|apply ze.alloc|apply ze.drewN|apply ze.set_1|apply ze.set_2),by repeat (with_reducible first|exact HB.out|apply zy|apply zm|refine zn ?_ (ze.ge HI0.out)),by repeat (with_reducible first|exact HK.out|apply zA.set_|apply zL|apply zM)⟩
  ·rw [if_neg c7] at H
   have c7b0:decide ((wrap64 (s0_1+1))<=(s0_0.length:Int))=false:=decide_eq_false c7
   clear c7
   simp only [Option.some.injEq,Prod.mk.injEq] at H
   obtain ⟨rfl,rfl,rfl⟩:=H
   obtain ⟨ASz9_0,cSz9_0,HGz9,hgz9,HSz9_0⟩:=HI0.out
   have hcz9_0:=zqc HGz9
   have hcz9_1:=zqb HGz9
   have hcz9_2:=zqa HGz9
   have hfz9_1:=zao HGz9 1
   have hfz9_2:=zao HGz9 2
   clear HGz9 hgz9
   go_enter Tryz.func172,Tryz.ntmps172
   go_wp2
   repeat (go_quiet (fail);try go_wp2)
   go_ret
   exact ⟨by first|rfl|(simp [*]<;>rfl),by repeat (with_reducible first|exact HI0.out|apply ze.alloc|apply ze.drewN|apply ze.set_1|apply ze.set_2),by repeat (with_reducible first|exact HB.out|apply zy|apply zm|refine zn ?_ (ze.ge HI0.out)),by repeat (with_reducible first|exact HK.out|apply zA.set_|apply zL|apply zM)⟩
def zV.f (s0_0:List Int) (s0_1:Int) (s0_2:Int) (a1:Int):Option (Int×Int×Int):=if a1<=1 then (some (0,s0_1,s0_2)) else ((zbu.f s0_0 s0_1 s0_2).bind fun bt102=>(if a1>200 then ((zbu.f s0_0 bt102.2.1 bt102.2.2).bind fun bt105=>(if a1=0 then (none) else (some (Int.tmod (wrap64 ((wrap64 (bt102.1*256))+bt105.1)) a1,bt105.2.1,bt105.2.2)))) else (if a1=0 then (none) else (some (Int.tmod bt102.1 a1,bt102.2.1,bt102.2.2)))))
set_option maxHeartbeats 8000000 in
set_option maxRecDepth 100000 in
theorem zV.calls (g:Nat) (s0_0:List Int) (s0_1:Int) (s0_2:Int) (a1:Int) (r1:Int) (r2:Int) (r3:Int) (w0 w:World) (hI:ze w0 w g s0_0 s0_1 s0_2) (hB:Below w0.heap.size w0 w) (h:zV.f s0_0 s0_1 s0_2 a1=some (r1,r2,r3)):
  Calls Tryz.prog 102 #[.pointer (some ⟨g,0,none⟩),.int .i64 a1] w fun e w'=>e= .returned (.int .i64 r1)/\ze w0 w' g s0_0 r2 r3/\Below w0.heap.size w0 w'/\zA w w' g none:=by
 have HI0:=zl.mk hI
 have HK:=zl.mk (zA.refl w g none)
 have HL:=zl.mk hB.size
 clear hI
 have HW0:=zl.mk hB.size
 have HB:=zl.mk hB
 clear hB
 have H:(if a1<=1 then (some (0,s0_1,s0_2)) else ((zbu.f s0_0 s0_1 s0_2).bind fun bt102=>(if a1>200 then ((zbu.f s0_0 bt102.2.1 bt102.2.2).bind fun bt105=>(if a1=0 then (none) else (some (Int.tmod (wrap64 ((wrap64 (bt102.1*256))+bt105.1)) a1,bt105.2.1,bt105.2.2)))) else (if a1=0 then (none) else (some (Int.tmod bt102.1 a1,bt102.2.1,bt102.2.2))))))=some (r1,r2,r3):=h
 clear h
 by_cases c3:a1<=1
 ·rw [if_pos c3] at H
  have c3b0:decide (a1<=1)=true:=decide_eq_true c3
  clear c3
  simp only [Option.some.injEq,Prod.mk.injEq] at H
  obtain ⟨rfl,rfl,rfl⟩:=H
  go_enter Tryz.func102,Tryz.ntmps102
  go_wp2
  go_ret
  exact ⟨by first|rfl|(simp [*]<;>rfl),by repeat (with_reducible first|exact HI0.out|apply ze.alloc|apply ze.drewN|apply ze.set_1|apply ze.set_2),by repeat (with_reducible first|exact HB.out|apply zy|apply zm|refine zn ?_ (ze.ge HI0.out)),by repeat (with_reducible first|exact HK.out|apply zA.set_|apply zL|apply zM)⟩
 ·rw [if_neg c3] at H
  have c3b0:decide (a1<=1)=false:=decide_eq_false c3
  clear c3
  obtain ⟨⟨t102,t103,t104⟩,A40,H⟩:=Option.bind_eq_some_iff.mp H
  replace H:(if a1>200 then ((zbu.f s0_0 t103 t104).bind fun bt105=>(if a1=0 then (none) else (some (Int.tmod (wrap64 ((wrap64 (t102*256))+bt105.1)) a1,bt105.2.1,bt105.2.2)))) else (if a1=0 then (none) else (some (Int.tmod t102 a1,t103,t104))))=some (r1,r2,r3):=H
  have A4:=zl.mk A40
  clear A40
  by_cases c5:a1>200
  ·rw [if_pos c5] at H
   have c5b0:decide (200<a1)=true:=decide_eq_true c5
   clear c5
   obtain ⟨⟨t105,t106,t107⟩,A60,H⟩:=Option.bind_eq_some_iff.mp H
   replace H:(if a1=0 then (none) else (some (Int.tmod (wrap64 ((wrap64 (t102*256))+t105)) a1,t106,t107)))=some (r1,r2,r3):=H
   have A6:=zl.mk A60
   clear A60
   by_cases c7:a1=0
   ·rw [if_pos c7] at H
    exact absurd H (by simp)
   ·rw [if_neg c7] at H
    have c7b0:(a1==0)=false:=beq_eq_false_iff_ne.mpr c7
    have c7b1:(a1 != 0)=true:=bne_iff_ne.mpr c7
    simp only [Option.some.injEq,Prod.mk.injEq] at H
    obtain ⟨rfl,rfl,rfl⟩:=H
    go_enter Tryz.func102,Tryz.ntmps102
    go_wp2_with (first|((with_reducible refine zax (f:=172) rfl ?_);refine zc1 (some 9) rfl rfl Tryz.func172 (by kernel_rfl) rfl #[.pointer (some ⟨g,0,none⟩)] rfl (by (try simp only [List.map_toArray,List.map_cons,List.map_nil]);first|done|rfl) ?_;(with_reducible refine (zbu.calls g s0_0 s0_1 s0_2 t102 t103 t104 w0 _ ?side1 ?side2 A4.out).mono ?_);(case side1=>repeat (with_reducible first|exact HI0.out|apply ze.alloc|apply ze.drewN|apply ze.set_1|apply ze.set_2));(case side2=>repeat (with_reducible first|exact HB.out|apply zy|apply zm|refine zn ?_ (ze.ge HI0.out)));rintro e w8 ⟨rfl,hi,hb,hk⟩;refine ⟨_,rfl,?_⟩;have n0_:=zl.mk (zA.trans (by repeat (with_reducible first|exact HK.out|apply zA.set_|apply zL|apply zM)) hk (.inl rfl));have n1_:=zl.mk (hb);have n2_:=zl.mk (hi);clear HK;clear HB;clear HI0;have HK:=n0_;have HB:=n1_;have HI0:=n2_;clear n0_ n1_ n2_;(try clear hb);(try clear hb2);(try clear hk);(try clear hi))|((with_reducible refine zax (f:=172) rfl ?_);refine zc1 (some 15) rfl rfl Tryz.func172 (by kernel_rfl) rfl #[.pointer (some ⟨g,0,none⟩)] rfl (by (try simp only [List.map_toArray,List.map_cons,List.map_nil]);first|done|rfl) ?_;(with_reducible refine (zbu.calls g s0_0 t103 t104 t105 t106 t107 w0 _ ?side1 ?side2 A6.out).mono ?_);(case side1=>repeat (with_reducible first|exact HI0.out|apply ze.alloc|apply ze.drewN|apply ze.set_1|apply ze.set_2));(case side2=>repeat (with_reducible first|exact HB.out|apply zy|apply zm|refine zn ?_ (ze.ge HI0.out)));rintro e w9 ⟨rfl,hi,hb,hk⟩;refine ⟨_,rfl,?_⟩;have n0_:=zl.mk (zA.trans (by repeat (with_reducible first|exact HK.out|apply zA.set_|apply zL|apply zM)) hk (.inl rfl));have n1_:=zl.mk (hb);have n2_:=zl.mk (hi);clear HK;clear HB;clear HI0;have HK:=n0_;have HB:=n1_;have HI0:=n2_;clear n0_ n1_ n2_;(try clear hb);(try clear hb2);(try clear hk);(try clear hi)))
    go_ret
    exact ⟨by first|rfl|(simp [*]<;>rfl),by repeat (with_reducible first|exact HI0.out|apply ze.alloc|apply ze.drewN|apply ze.set_1|apply ze.set_2),by repeat (with_reducible first|exact HB.out|apply zy|apply zm|refine zn ?_ (ze.ge HI0.out)),by repeat (with_reducible first|exact HK.out|apply zA.set_|apply zL|apply zM)⟩
  ·rw [if_neg c5] at H
   have c5b0:decide (200<a1)=false:=decide_eq_false c5
   clear c5
   by_cases c10:a1=0
   ·rw [if_pos c10] at H
    exact absurd H (by simp)
   ·rw [if_neg c10] at H
    have c10b0:(a1==0)=false:=beq_eq_false_iff_ne.mpr c10
    have c10b1:(a1 != 0)=true:=bne_iff_ne.mpr c10
    simp only [Option.some.injEq,Prod.mk.injEq] at H
    obtain ⟨rfl,rfl,rfl⟩:=H
    go_enter Tryz.func102,Tryz.ntmps102
    go_wp2_with (first|((with_reducible refine zax (f:=172) rfl ?_);refine zc1 (some 9) rfl rfl Tryz.func172 (by kernel_rfl) rfl #[.pointer (some ⟨g,0,none⟩)] rfl (by (try simp only [List.map_toArray,List.map_cons,List.map_nil]);first|done|rfl) ?_;(with_reducible refine (zbu.calls g s0_0 s0_1 s0_2 t102 t103 t104 w0 _ ?side1 ?side2 A4.out).mono ?_);(case side1=>repeat (with_reducible first|exact HI0.out|apply ze.alloc|apply ze.drewN|apply ze.set_1|apply ze.set_2));(case side2=>repeat (with_reducible first|exact HB.out|apply zy|apply zm|refine zn ?_ (ze.ge HI0.out)));rintro e w11 ⟨rfl,hi,hb,hk⟩;refine ⟨_,rfl,?_⟩;have n0_:=zl.mk (zA.trans (by repeat (with_reducible first|exact HK.out|apply zA.set_|apply zL|apply zM)) hk (.inl rfl));have n1_:=zl.mk (hb);have n2_:=zl.mk (hi);clear HK;clear HB;clear HI0;have HK:=n0_;have HB:=n1_;have HI0:=n2_;clear n0_ n1_ n2_;(try clear hb);(try clear hb2);(try clear hk);(try clear hi)))
    go_ret
    exact ⟨by first|rfl|(simp [*]<;>rfl),by repeat (with_reducible first|exact HI0.out|apply ze.alloc|apply ze.drewN|apply ze.set_1|apply ze.set_2),by repeat (with_reducible first|exact HB.out|apply zy|apply zm|refine zn ?_ (ze.ge HI0.out)),by repeat (with_reducible first|exact HK.out|apply zA.set_|apply zL|apply zM)⟩
def zkw.f  : Option (Int×Int×Int):=some (6378137000,1000000000,298257223563)
set_option maxHeartbeats 8000000 in
set_option maxRecDepth 100000 in
theorem zkw.calls  (r1:Int) (r2:Int) (r3:Int) (w:World) (h:zkw.f  = some (r1,r2,r3)):
  Calls Tryz.prog 109 #[] w fun e w'=>e= .returned (.agg #[.int .i64 r1,.int .i64 r2,.int .i64 r3])/\Below w.heap.size w w':=by
 have hu25:=Tryz.underlying25
 have HB:=zl.mk (Below.refl w.heap.size w)
 have H:(some (6378137000,1000000000,298257223563))=some (r1,r2,r3):=h
 clear h
 simp only [Option.some.injEq,Prod.mk.injEq] at H
 obtain ⟨rfl,rfl,rfl⟩:=H
 go_enter Tryz.func109,Tryz.ntmps109
 go_wp2_with (first|((with_reducible refine zdE (N:=0) rfl ?_);refine zeM ?hg (N:=0) ?hd (cs:=#[.int .i64 0,.int .i64 0,.int .i64 0]) (t:=25) ?hr ?_;(case hd=>rfl);(case hg=>rfl);(case hr=>first|(go_simp;done)|(go_simp;rfl));intro gb108 hg w1 hbox hb;have n0_:=zl.mk (zbQ (by repeat (with_reducible first|exact HB.out|apply zy|apply zm|apply zdx)) hb);have n1_:=zl.mk (hbox);have n2_:=zl.mk ((by rw [hg];exact (zdm (by repeat (with_reducible first|exact HB.out|apply zy|apply zm|apply zdx))):w.heap.size<=gb108));have n3_:=zl.mk ((by rw [hg];exact (zdm (by repeat (with_reducible first|exact HB.out|apply zy|apply zm|apply zdx))):w.heap.size<=gb108));clear HB;have HB:=n0_;have BK108:=n1_;have GW108:=n2_;have GE108:=n3_;clear n0_ n1_ n2_ n3_;clear hb hbox hg;have hcz2_0:w1.cell? ⟨gb108,0,none⟩=some (.int .i64 0):=(zaL BK108.out 0).trans rfl;have hcz2_1:w1.cell? ⟨gb108,1,none⟩=some (.int .i64 0):=(zaL BK108.out 1).trans rfl;have hcz2_2:w1.cell? ⟨gb108,2,none⟩=some (.int .i64 0):=(zaL BK108.out 2).trans rfl;have hfz2_0:=zao BK108.out 0;have hfz2_1:=zao BK108.out 1;have hfz2_2:=zao BK108.out 2))
 refine bodyPost_ret (results_cell_row rfl _ _ gb108 25 #[.int .i64 6378137000,.int .i64 1000000000,.int .i64 298257223563] (0,0) _ rfl (by refine zca (cs:=#[.int .i64 6378137000,.int .i64 1000000000,.int .i64 0]) ?_ 2 _ rfl;refine zca (cs:=#[.int .i64 6378137000,.int .i64 0,.int .i64 0]) ?_ 1 _ rfl;refine zca (cs:=#[.int .i64 0,.int .i64 0,.int .i64 0]) ?_ 0 _ rfl;exact BK108.out) Tryz.underlying25 rfl (by kernel_rfl)) rfl ?_
 exact ⟨by first|rfl|(simp [*]<;>rfl),by repeat (with_reducible first|exact HB.out|apply zy|apply zm|refine zn ?_ GE108.out)⟩
def zat.f (s0_0:List Int) (s0_1:Int) (s0_2:Int) (l1:List Int):Option (Int×Int×Int):=(zV.f s0_0 s0_1 s0_2 (l1.length:Int)).bind fun bt109=>(if 0<=bt109.1 then (if bt109.1<(l1.length:Int) then (some (rd l1 bt109.1,bt109.2.1,bt109.2.2)) else (none)) else (none))
set_option maxHeartbeats 8000000 in
set_option maxRecDepth 100000 in
theorem zat.calls (g:Nat) (s0_0:List Int) (s0_1:Int) (s0_2:Int) (A1:Option Addr) (c1:Nat) (l1:List Int) (r1:Int) (r2:Int) (r3:Int) (w0 w:World) (hI:ze w0 w g s0_0 s0_1 s0_2) (hB:Below w0.heap.size w0 w) (hr1:Kd.C (Kd.int .i64) w A1 l1.length l1) (hc1:l1.length<=c1) (hf1:∀ad,A1=some ad->0<l1.length->ad.block≠g) (h:zat.f s0_0 s0_1 s0_2 l1=some (r1,r2,r3)):
  Calls Tryz.prog 110 #[.pointer (some ⟨g,0,none⟩),.slice A1 l1.length c1] w fun e w'=>e= .returned (.int .i64 r1)/\ze w0 w' g s0_0 r2 r3/\Below w0.heap.size w0 w'/\zA w w' g none:=by
 have HR1:=zl.mk hr1
 have HC1:=zl.mk hc1
 clear hr1 hc1
 have HI0:=zl.mk hI
 have HK:=zl.mk (zA.refl w g none)
 have HL:=zl.mk hB.size
 clear hI
 have HW0:=zl.mk hB.size
 have HB:=zl.mk hB
 clear hB
 have H:((zV.f s0_0 s0_1 s0_2 (l1.length:Int)).bind fun bt109=>(if 0<=bt109.1 then (if bt109.1<(l1.length:Int) then (some (rd l1 bt109.1,bt109.2.1,bt109.2.2)) else (none)) else (none)))=some (r1,r2,r3):=h
 clear h
 obtain ⟨⟨t109,t110,t111⟩,A30,H⟩:=Option.bind_eq_some_iff.mp H
 replace H:(if 0<=t109 then (if t109<(l1.length:Int) then (some (rd l1 t109,t110,t111)) else (none)) else (none))=some (r1,r2,r3):=H
 have A3:=zl.mk A30
 clear A30
 by_cases c4:0<=t109
 ·rw [if_pos c4] at H
  have c4b0:decide (0<=t109)=true:=decide_eq_true c4
  clear c4
  by_cases c5:t109<(l1.length:Int)
  ·rw [if_pos c5] at H
   have c5b0:decide (t109<(l1.length:Int))=true:=decide_eq_true c5
   clear c5
   simp only [Option.some.injEq,Prod.mk.injEq] at H
   obtain ⟨rfl,rfl,rfl⟩:=H
   go_enter Tryz.func110,Tryz.ntmps110
   go_wp2_with (first|((with_reducible refine zax (f:=102) rfl ?_);refine zc1 (some 9) rfl rfl Tryz.func102 (by kernel_rfl) rfl #[.pointer (some ⟨g,0,none⟩),.int .i64 (l1.length:Int)] rfl (by (try simp only [List.map_toArray,List.map_cons,List.map_nil]);first|done|rfl) ?_;(with_reducible refine (zV.calls g s0_0 s0_1 s0_2 (l1.length:Int) t109 t110 t111 w0 _ ?side1 ?side2 A3.out).mono ?_);(case side1=>repeat (with_reducible first|exact HI0.out|apply ze.alloc|apply ze.drewN|apply ze.set_1|apply ze.set_2));(case side2=>repeat (with_reducible first|exact HB.out|apply zy|apply zm|refine zn ?_ (ze.ge HI0.out)));rintro e w6 ⟨rfl,hi,hb,hk⟩;refine ⟨_,rfl,?_⟩;have n0_:=zl.mk (zA.trans (by repeat (with_reducible first|exact HK.out|apply zA.set_|apply zL|apply zM)) hk (.inl rfl));have n1_:=zl.mk (hb);have n2_:=zl.mk (hi);clear HK;clear HB;clear HI0;have HK:=n0_;have HB:=n1_;have HI0:=n2_;clear n0_ n1_ n2_;(try clear hb);(try clear hb2);(try clear hk);(try clear hi);have p112:0<=(t109:Int):=of_decide_eq_true (by first|(with_reducible assumption)|assumption);have q112:t109<(l1.length:Int):=of_decide_eq_true (by first|(with_reducible assumption)|assumption);obtain ⟨ad112,e112,hx112_0⟩:=Kd.zIA HR1.out t109 p112 q112;cases e112;replace hx112_0:=zHz HK.out hx112_0 (by first|(rw [add_block];exact hf1 _ rfl (by omega))|exact hf1 _ rfl (by omega)|exact hf1 ad112 rfl (by omega));replace p112:=eq_true p112;replace q112:=eq_true q112))
   go_ret
   exact ⟨by first|rfl|(simp [*]<;>rfl),by repeat (with_reducible first|exact HI0.out|apply ze.alloc|apply ze.drewN|apply ze.set_1|apply ze.set_2),by repeat (with_reducible first|exact HB.out|apply zy|apply zm|refine zn ?_ (ze.ge HI0.out)),by repeat (with_reducible first|exact HK.out|apply zA.set_|apply zL|apply zM)⟩
  ·rw [if_neg c5] at H
   exact absurd H (by simp)
 ·rw [if_neg c4] at H
  exact absurd H (by simp)
def zga.f (s0_0:List Int) (s0_1:Int) (s0_2:Int):Option (Int×Int×Int×Int×Int):=(zV.f s0_0 s0_1 s0_2 5).bind fun bt114=>(if bt114.1=0 then ((zkw.f).bind fun bt117=>(some (bt117.1,bt117.2.1,bt117.2.2,bt114.2.1,bt114.2.2))) else (if bt114.1=1 then ((zat.f s0_0 bt114.2.1 bt114.2.2 (([6371000000,1000,1000000,100000000000]:List Int))).bind fun bt123=>(some (bt123.1,0,1,bt123.2.1,bt123.2.2))) else (if bt114.1=2 then (some (6377397155,1000000,299152813,bt114.2.1,bt114.2.2)) else ((zV.f s0_0 bt114.2.1 bt114.2.2 9000000).bind fun bt126=>((zat.f s0_0 bt126.2.1 bt126.2.2 (([100,150,200,300,1000,100000]:List Int))).bind fun bt132=>(some (wrap64 (1000*(wrap64 (1+bt126.1))),1,bt132.1,bt132.2.1,bt132.2.2)))))))
set_option maxHeartbeats 8000000 in
set_option maxRecDepth 100000 in
theorem zga.calls (g:Nat) (s0_0:List Int) (s0_1:Int) (s0_2:Int) (r1:Int) (r2:Int) (r3:Int) (r4:Int) (r5:Int) (w0 w:World) (hI:ze w0 w g s0_0 s0_1 s0_2) (hB:Below w0.heap.size w0 w) (h:zga.f s0_0 s0_1 s0_2=some (r1,r2,r3,r4,r5)):
  Calls Tryz.prog 52 #[.pointer (some ⟨g,0,none⟩)] w fun e w'=>e= .returned (.agg #[.int .i64 r1,.int .i64 r2,.int .i64 r3])/\ze w0 w' g s0_0 r4 r5/\Below w0.heap.size w0 w'/\zA w w' g none:=by
 have hu25:=Tryz.underlying25
 have HI0:=zl.mk hI
 have HK:=zl.mk (zA.refl w g none)
 have HL:=zl.mk hB.size
 clear hI
 have HW0:=zl.mk hB.size
 have HB:=zl.mk hB
 clear hB
 have H:((zV.f s0_0 s0_1 s0_2 5).bind fun bt114=>(if bt114.1=0 then ((zkw.f).bind fun bt117=>(some (bt117.1,bt117.2.1,bt117.2.2,bt114.2.1,bt114.2.2))) else (if bt114.1=1 then ((zat.f s0_0 bt114.2.1 bt114.2.2 (([6371000000,1000,1000000,100000000000]:List Int))).bind fun bt123=>(some (bt123.1,0,1,bt123.2.1,bt123.2.2))) else (if bt114.1=2 then (some (6377397155,1000000,299152813,bt114.2.1,bt114.2.2)) else ((zV.f s0_0 bt114.2.1 bt114.2.2 9000000).bind fun bt126=>((zat.f s0_0 bt126.2.1 bt126.2.2 (([100,150,200,300,1000,100000]:List Int))).bind fun bt132=>(some (wrap64 (1000*(wrap64 (1+bt126.1))),1,bt132.1,bt132.2.1,bt132.2.2))))))))=some (r1,r2,r3,r4,r5):=h
 clear h
 obtain ⟨⟨t114,t115,t116⟩,A20,H⟩:=Option.bind_eq_some_iff.mp H
 replace H:(if t114=0 then ((zkw.f).bind fun bt117=>(some (bt117.1,bt117.2.1,bt117.2.2,t115,t116))) else (if t114=1 then ((zat.f s0_0 t115 t116 (([6371000000,1000,1000000,100000000000]:List Int))).bind fun bt123=>(some (bt123.1,0,1,bt123.2.1,bt123.2.2))) else (if t114=2 then (some (6377397155,1000000,299152813,t115,t116)) else ((zV.f s0_0 t115 t116 9000000).bind fun bt126=>((zat.f s0_0 bt126.2.1 bt126.2.2 (([100,150,200,300,1000,100000]:List Int))).bind fun bt132=>(some (wrap64 (1000*(wrap64 (1+bt126.1))),1,bt132.1,bt132.2.1,bt132.2.2)))))))=some (r1,r2,r3,r4,r5):=H
 have A2:=zl.mk A20
 clear A20
 by_cases c3:t114=0
 ·rw [if_pos c3] at H
  have c3b0:(t114==0)=true:=beq_iff_eq.mpr c3
  have c3b1:(t114 != 0)=false:=bne_eq_false_iff_eq.mpr c3
  clear c3
  obtain ⟨⟨t117,t118,t119⟩,A40,H⟩:=Option.bind_eq_some_iff.mp H
  replace H:(some (t117,t118,t119,t115,t116))=some (r1,r2,r3,r4,r5):=H
  have A4:=zl.mk A40
  clear A40
  simp only [Option.some.injEq,Prod.mk.injEq] at H
  obtain ⟨rfl,rfl,rfl,rfl,rfl⟩:=H
  go_enter Tryz.func52,Tryz.ntmps52
  go_wp2_with (first|((with_reducible refine zdE (N:=2) rfl ?_);refine zeM ?hg (N:=2) ?hd (cs:=#[.int .i64 0,.int .i64 0,.int .i64 0]) (t:=25) ?hr ?_;(case hd=>rfl);(case hg=>rfl);(case hr=>first|(go_simp;done)|(go_simp;rfl));intro gb113 hg w5 hbox hb;have n0_:=zl.mk (ze.below (by repeat (with_reducible first|exact HI0.out|apply ze.alloc|apply ze.drewN|apply ze.set_1|apply ze.set_2)) hb);have n1_:=zl.mk (zA.trans (by repeat (with_reducible first|exact HK.out|apply zA.set_|apply zL|apply zM)) (zA.of_below hb g none) (.inl rfl));have n2_:=zl.mk (zbQ (by repeat (with_reducible first|exact HB.out|apply zy|apply zm|refine zn ?_ (ze.ge HI0.out))) hb);have n3_:=zl.mk (hbox);have n4_:=zl.mk ((by rw [hg];exact (zc0 (w:=w) (g:=g) (row:=none) (by repeat (with_reducible first|exact HK.out|apply zA.set_|apply zL|apply zM))):w.heap.size<=gb113));have n5_:=zl.mk ((Nat.le_trans HW0.out (by rw [hg];exact (zc0 (w:=w) (g:=g) (row:=none) (by repeat (with_reducible first|exact HK.out|apply zA.set_|apply zL|apply zM))):w.heap.size<=gb113):w0.heap.size<=gb113));have n6_:=zl.mk ((by rw [hg];exact Nat.ne_of_lt (ze.lt (show ze w0 _ g s0_0 s0_1 s0_2 from by repeat (with_reducible first|exact HI0.out|apply ze.alloc|apply ze.drewN|apply ze.set_1|apply ze.set_2))):g≠gb113));have n7_:=zl.mk ((by rw [hg];exact Nat.ne_of_gt (ze.lt (show ze w0 _ g s0_0 s0_1 s0_2 from by repeat (with_reducible first|exact HI0.out|apply ze.alloc|apply ze.drewN|apply ze.set_1|apply ze.set_2))):gb113≠g));clear HI0;clear HK;clear HB;have HI0:=n0_;have HK:=n1_;have HB:=n2_;have BK113:=n3_;have GW113:=n4_;have GE113:=n5_;have NB0_113:=n6_;have NB113_0:=n7_;clear n0_ n1_ n2_ n3_ n4_ n5_ n6_ n7_;clear hb hbox hg)|((with_reducible refine zax (f:=102) rfl ?_);refine zc1 (some 5) rfl rfl Tryz.func102 (by kernel_rfl) rfl #[.pointer (some ⟨g,0,none⟩),.int .i64 5] rfl (by (try simp only [List.map_toArray,List.map_cons,List.map_nil]);first|done|rfl) ?_;(with_reducible refine (zV.calls g s0_0 s0_1 s0_2 5 t114 t115 t116 w0 _ ?side1 ?side2 A2.out).mono ?_);(case side1=>repeat (with_reducible first|exact HI0.out|apply ze.alloc|apply ze.drewN|apply ze.set_1|apply ze.set_2|refine ze.far ?_ NB0_113.out _));(case side2=>repeat (with_reducible first|exact HB.out|apply zy|apply zm|refine zn ?_ (ze.ge HI0.out)|refine zn ?_ GE113.out));rintro e w6 ⟨rfl,hi,hb,hk⟩;refine ⟨_,rfl,?_⟩;have n0_:=zl.mk (zA.blk hk (g':=gb113) (o:= .cells #[.int .i64 0,.int .i64 0,.int .i64 0] 25 (0,0)) (by exact BK113.out) NB113_0.out (by simp));have n1_:=zl.mk (zA.trans (by repeat (with_reducible first|exact HK.out|apply zA.set_|apply zL|apply zM|refine zaX ?_ GW113.out _)) hk (.inl rfl));have n2_:=zl.mk (hb);have n3_:=zl.mk (hi);clear BK113;clear HK;clear HB;clear HI0;have BK113:=n0_;have HK:=n1_;have HB:=n2_;have HI0:=n3_;clear n0_ n1_ n2_ n3_;(try clear hb);(try clear hb2);(try clear hk);(try clear hi))|((with_reducible refine zax (f:=109) rfl ?_);refine zc1 (some 8) rfl rfl Tryz.func109 (by kernel_rfl) rfl #[] rfl (by (try simp only [List.map_toArray,List.map_cons,List.map_nil]);first|done|rfl) ?_;(with_reducible refine (zkw.calls  t117 t118 t119 _ A4.out).mono ?_);rintro e w7 ⟨rfl,hb⟩;refine ⟨_,rfl,?_⟩;have n0_:=zl.mk (ze.below (by repeat (with_reducible first|exact HI0.out|apply ze.alloc|apply ze.drewN|apply ze.set_1|apply ze.set_2|refine ze.far ?_ NB0_113.out _)) hb);have n1_:=zl.mk (zbx (g:=gb113) (o:= .cells #[.int .i64 0,.int .i64 0,.int .i64 0] 25 (0,0)) (by exact BK113.out) hb);have n2_:=zl.mk (zA.trans (by repeat (with_reducible first|exact HK.out|apply zA.set_|apply zL|apply zM|refine zaX ?_ GW113.out _)) (zA.of_below hb g none) (.inl rfl));have n3_:=zl.mk (zbQ (by repeat (with_reducible first|exact HB.out|apply zy|apply zm|refine zn ?_ (ze.ge HI0.out)|refine zn ?_ GE113.out)) hb);clear HI0;clear BK113;clear HK;clear HB;have HI0:=n0_;have BK113:=n1_;have HK:=n2_;have HB:=n3_;clear n0_ n1_ n2_ n3_;(try clear hb);(try clear hb2);(try clear hk);(try clear hi);have hnb8:=NB113_0.out;have hnc8:=NB0_113.out;have hcz9_0:w7.cell? ⟨gb113,0,none⟩=some (.int .i64 0):=(zaL BK113.out 0).trans rfl;have hcz9_1:w7.cell? ⟨gb113,1,none⟩=some (.int .i64 0):=(zaL BK113.out 1).trans rfl;have hcz9_2:w7.cell? ⟨gb113,2,none⟩=some (.int .i64 0):=(zaL BK113.out 2).trans rfl;have hfz9_0:=zao BK113.out 0;have hfz9_1:=zao BK113.out 1;have hfz9_2:=zao BK113.out 2))
  refine bodyPost_ret (results_cell_row rfl _ _ gb113 25 #[.int .i64 t117,.int .i64 t118,.int .i64 t119] (0,0) _ rfl (by refine zca (cs:=#[.int .i64 t117,.int .i64 t118,.int .i64 0]) ?_ 2 _ rfl;refine zca (cs:=#[.int .i64 t117,.int .i64 0,.int .i64 0]) ?_ 1 _ rfl;refine zca (cs:=#[.int .i64 0,.int .i64 0,.int .i64 0]) ?_ 0 _ rfl;exact BK113.out) Tryz.underlying25 rfl (by kernel_rfl)) rfl ?_
  exact ⟨by first|rfl|(simp [*]<;>rfl),by repeat (with_reducible first|exact HI0.out|apply ze.alloc|apply ze.drewN|apply ze.set_1|apply ze.set_2|refine ze.far ?_ NB0_113.out _),by repeat (with_reducible first|exact HB.out|apply zy|apply zm|refine zn ?_ (ze.ge HI0.out)|refine zn ?_ GE113.out),by repeat (with_reducible first|exact HK.out|apply zA.set_|apply zL|apply zM|refine zaX ?_ GW113.out _)⟩
 ·rw [if_neg c3] at H
  have c3b0:(t114==0)=false:=beq_eq_false_iff_ne.mpr c3
  have c3b1:(t114 != 0)=true:=bne_iff_ne.mpr c3
  by_cases c10:t114=1
  ·rw [if_pos c10] at H
   have c10b0:(t114==1)=true:=beq_iff_eq.mpr c10
   have c10b1:(t114 != 1)=false:=bne_eq_false_iff_eq.mpr c10
   clear c10
   obtain ⟨y120,hy120⟩:∃y_:List Int,y_=(([6371000000,1000,1000000,100000000000]:List Int)):=⟨_,rfl⟩
   replace H:((zat.f s0_0 t115 t116 y120).bind fun bt123=>(some (bt123.1,0,1,bt123.2.1,bt123.2.2)))=some (r1,r2,r3,r4,r5):=by first|(rw [hy120];with_reducible exact H)|(have H2_:=(Option.bind_some _ _).symm.trans H;rw [hy120];with_reducible exact H2_)|(have H2_:=(Option.bind_some _ _).symm.trans H;with_reducible exact H2_)|with_reducible exact H|(rw [hy120];exact H)|exact H
   have Ny120:=zl.mk hy120
   clear hy120
   obtain ⟨⟨t123,t124,t125⟩,A110,H⟩:=Option.bind_eq_some_iff.mp H
   replace H:(some (t123,0,1,t124,t125))=some (r1,r2,r3,r4,r5):=H
   have A11:=zl.mk A110
   clear A110
   simp only [Option.some.injEq,Prod.mk.injEq] at H
   obtain ⟨rfl,rfl,rfl,rfl,rfl⟩:=H
   go_enter Tryz.func52,Tryz.ntmps52
   go_wp2_with (first|((with_reducible refine zdE (N:=2) rfl ?_);refine zeM ?hg (N:=2) ?hd (cs:=#[.int .i64 0,.int .i64 0,.int .i64 0]) (t:=25) ?hr ?_;(case hd=>rfl);(case hg=>rfl);(case hr=>first|(go_simp;done)|(go_simp;rfl));intro gb113 hg w12 hbox hb;have n0_:=zl.mk (ze.below (by repeat (with_reducible first|exact HI0.out|apply ze.alloc|apply ze.drewN|apply ze.set_1|apply ze.set_2)) hb);have n1_:=zl.mk (zA.trans (by repeat (with_reducible first|exact HK.out|apply zA.set_|apply zL|apply zM)) (zA.of_below hb g none) (.inl rfl));have n2_:=zl.mk (zbQ (by repeat (with_reducible first|exact HB.out|apply zy|apply zm|refine zn ?_ (ze.ge HI0.out))) hb);have n3_:=zl.mk (hbox);have n4_:=zl.mk ((by rw [hg];exact (zc0 (w:=w) (g:=g) (row:=none) (by repeat (with_reducible first|exact HK.out|apply zA.set_|apply zL|apply zM))):w.heap.size<=gb113));have n5_:=zl.mk ((Nat.le_trans HW0.out (by rw [hg];exact (zc0 (w:=w) (g:=g) (row:=none) (by repeat (with_reducible first|exact HK.out|apply zA.set_|apply zL|apply zM))):w.heap.size<=gb113):w0.heap.size<=gb113));have n6_:=zl.mk ((by rw [hg];exact Nat.ne_of_lt (ze.lt (show ze w0 _ g s0_0 s0_1 s0_2 from by repeat (with_reducible first|exact HI0.out|apply ze.alloc|apply ze.drewN|apply ze.set_1|apply ze.set_2))):g≠gb113));have n7_:=zl.mk ((by rw [hg];exact Nat.ne_of_gt (ze.lt (show ze w0 _ g s0_0 s0_1 s0_2 from by repeat (with_reducible first|exact HI0.out|apply ze.alloc|apply ze.drewN|apply ze.set_1|apply ze.set_2))):gb113≠g));clear HI0;clear HK;clear HB;have HI0:=n0_;have HK:=n1_;have HB:=n2_;have BK113:=n3_;have GW113:=n4_;have GE113:=n5_;have NB0_113:=n6_;have NB113_0:=n7_;clear n0_ n1_ n2_ n3_ n4_ n5_ n6_ n7_;clear hb hbox hg)|((with_reducible refine zax (f:=102) rfl ?_);refine zc1 (some 5) rfl rfl Tryz.func102 (by kernel_rfl) rfl #[.pointer (some ⟨g,0,none⟩),.int .i64 5] rfl (by (try simp only [List.map_toArray,List.map_cons,List.map_nil]);first|done|rfl) ?_;(with_reducible refine (zV.calls g s0_0 s0_1 s0_2 5 t114 t115 t116 w0 _ ?side1 ?side2 A2.out).mono ?_);(case side1=>repeat (with_reducible first|exact HI0.out|apply ze.alloc|apply ze.drewN|apply ze.set_1|apply ze.set_2|refine ze.far ?_ NB0_113.out _));(case side2=>repeat (with_reducible first|exact HB.out|apply zy|apply zm|refine zn ?_ (ze.ge HI0.out)|refine zn ?_ GE113.out));rintro e w13 ⟨rfl,hi,hb,hk⟩;refine ⟨_,rfl,?_⟩;have n0_:=zl.mk (zA.blk hk (g':=gb113) (o:= .cells #[.int .i64 0,.int .i64 0,.int .i64 0] 25 (0,0)) (by exact BK113.out) NB113_0.out (by simp));have n1_:=zl.mk (zA.trans (by repeat (with_reducible first|exact HK.out|apply zA.set_|apply zL|apply zM|refine zaX ?_ GW113.out _)) hk (.inl rfl));have n2_:=zl.mk (hb);have n3_:=zl.mk (hi);clear BK113;clear HK;clear HB;clear HI0;have BK113:=n0_;have HK:=n1_;have HB:=n2_;have HI0:=n3_;clear n0_ n1_ n2_ n3_;(try clear hb);(try clear hb2);(try clear hk);(try clear hi))|((with_reducible refine zdE (N:=12) rfl ?_);refine Kd.zF5 (Kd.int .i64) _ 2 ?hg (N:=12) ?hd (xs:=([6371000000,1000,1000000,100000000000]:List Int)) (inner:= [.int .i64 6371000000,.int .i64 1000,.int .i64 1000000,.int .i64 100000000000]) (ok:=fun _=>True) (okp:=fun _=>True) ?hr ?hp (fun _ hk=>hk) trivial (Below.refl _ _) (Nat.le_refl _) (by simp) ?_;(case hd=>rfl);(case hg=>rfl);(case hr=>first|(go_simp;done)|(go_simp;rfl));(case hp=>exact (Reps.one (show Kd.M (Kd.int .i64) _ _ _ 6371000000 [.int .i64 6371000000] from rfl) (Reps.one (show Kd.M (Kd.int .i64) _ _ _ 1000 [.int .i64 1000] from rfl) (Reps.one (show Kd.M (Kd.int .i64) _ _ _ 1000000 [.int .i64 1000000] from rfl) (Reps.one (show Kd.M (Kd.int .i64) _ _ _ 100000000000 [.int .i64 100000000000] from rfl) (Reps.none _ _))))));intro v121 w14 ho15 hb hg_ hnew_;clear hg_ hnew_;(first|rw [<- Ny120.out] at ho15|(simp only [Int.reduceToNat] at ho15;rw [<- Ny120.out] at ho15));have n0_:=zl.mk (Kd.zrb ho15 (zc0 (w:=w) (g:=g) (row:=none) (by repeat (with_reducible first|exact HK.out|apply zA.set_|apply zL|apply zM|refine zaX ?_ GW113.out _))));have n1_:=zl.mk (ze.below (by repeat (with_reducible first|exact HI0.out|apply ze.alloc|apply ze.drewN|apply ze.set_1|apply ze.set_2|refine ze.far ?_ NB0_113.out _)) hb);have n2_:=zl.mk (zbx (g:=gb113) (o:= .cells #[.int .i64 0,.int .i64 0,.int .i64 0] 25 (0,0)) (by exact BK113.out) hb);have n3_:=zl.mk (zA.trans (by repeat (with_reducible first|exact HK.out|apply zA.set_|apply zL|apply zM|refine zaX ?_ GW113.out _)) (zA.of_below hb g none) (.inl rfl));have n4_:=zl.mk (zbQ (by repeat (with_reducible first|exact HB.out|apply zy|apply zm|refine zn ?_ (ze.ge HI0.out)|refine zn ?_ GE113.out)) hb);clear HI0;clear BK113;clear HK;clear HB;have HO122:=n0_;have HI0:=n1_;have BK113:=n2_;have HK:=n3_;have HB:=n4_;clear n0_ n1_ n2_ n3_ n4_;clear hb ho15;obtain ⟨Ao16,co16,eo16⟩:=Kd.zs7 HO122.out;subst eo16)|((with_reducible refine zax (f:=110) rfl ?_);refine zc1 (some 13) rfl rfl Tryz.func110 (by kernel_rfl) rfl #[.pointer (some ⟨g,0,none⟩),.slice Ao16 y120.length co16] rfl (by (try simp only [List.map_toArray,List.map_cons,List.map_nil]);first|done|rfl) ?_;(with_reducible refine (zat.calls g s0_0 t115 t116 _ _ y120 t123 t124 t125 w0 _ ?side1 ?side2 ?side3 ?side4 ?side5 A11.out).mono ?_);(case side1=>repeat (with_reducible first|exact HI0.out|apply ze.alloc|apply ze.drewN|apply ze.set_1|apply ze.set_2|refine ze.far ?_ NB0_113.out _));(case side2=>repeat (with_reducible first|exact HB.out|apply zy|apply zm|refine zn ?_ (ze.ge HI0.out)|refine zn ?_ GE113.out));(case side3=>repeat (first|exact (Kd.zi0 HO122.out).2.2|(with_reducible refine Kd.ztm ?_ _)|(with_reducible refine Kd.ztl ?_ _)|(with_reducible refine Kd.zyr ?_)));(case side4=>exact (Kd.zi0 HO122.out).2.1);(case side5=>exact zn1 (ze.own_ne HI0.out HO122.out (by decide)));rintro e w17 ⟨rfl,hi,hb,hk⟩;refine ⟨_,rfl,?_⟩;have n0_:=zl.mk (zA.blk hk (g':=gb113) (o:= .cells #[.int .i64 0,.int .i64 0,.int .i64 0] 25 (0,0)) (by exact BK113.out) NB113_0.out (by simp));have n1_:=zl.mk (Kd.zpN (Kd.ztA (ze.apart (show ze w0 _ g s0_0 t115 t116 from by repeat (with_reducible first|exact HI0.out|apply ze.alloc|apply ze.drewN|apply ze.set_1|apply ze.set_2|refine ze.far ?_ NB0_113.out _)) (by (with_reducible repeat (first|apply Kd.zoL|apply Kd.zoK|apply Kd.zr3));exact HO122.out) (by decide)) hk (fun _ h=>h.2)) (fun _ h=>h.1));have n2_:=zl.mk (zA.trans (by repeat (with_reducible first|exact HK.out|apply zA.set_|apply zL|apply zM|refine zaX ?_ GW113.out _)) hk (.inl rfl));have n3_:=zl.mk (hb);have n4_:=zl.mk (hi);clear BK113;clear HO122;clear HK;clear HB;clear HI0;have BK113:=n0_;have HO122:=n1_;have HK:=n2_;have HB:=n3_;have HI0:=n4_;clear n0_ n1_ n2_ n3_ n4_;(try clear hb);(try clear hb2);(try clear hk);(try clear hi);have hnb18:=NB113_0.out;have hnc18:=NB0_113.out;have hcz19_0:w17.cell? ⟨gb113,0,none⟩=some (.int .i64 0):=(zaL BK113.out 0).trans rfl;have hcz19_1:w17.cell? ⟨gb113,1,none⟩=some (.int .i64 0):=(zaL BK113.out 1).trans rfl;have hcz19_2:w17.cell? ⟨gb113,2,none⟩=some (.int .i64 0):=(zaL BK113.out 2).trans rfl;have hfz19_0:=zao BK113.out 0;have hfz19_1:=zao BK113.out 1;have hfz19_2:=zao BK113.out 2))
   refine bodyPost_ret (results_cell_row rfl _ _ gb113 25 #[.int .i64 t123,.int .i64 0,.int .i64 1] (0,0) _ rfl (by refine zca (cs:=#[.int .i64 t123,.int .i64 0,.int .i64 0]) ?_ 2 _ rfl;refine zca (cs:=#[.int .i64 t123,.int .i64 0,.int .i64 0]) ?_ 1 _ rfl;refine zca (cs:=#[.int .i64 0,.int .i64 0,.int .i64 0]) ?_ 0 _ rfl;exact BK113.out) Tryz.underlying25 rfl (by kernel_rfl)) rfl ?_
   exact ⟨by first|rfl|(simp [*]<;>rfl),by repeat (with_reducible first|exact HI0.out|apply ze.alloc|apply ze.drewN|apply ze.set_1|apply ze.set_2|refine ze.far ?_ NB0_113.out _),by repeat (with_reducible first|exact HB.out|apply zy|apply zm|refine zn ?_ (ze.ge HI0.out)|refine zn ?_ GE113.out),by repeat (with_reducible first|exact HK.out|apply zA.set_|apply zL|apply zM|refine zaX ?_ GW113.out _)⟩
  ·rw [if_neg c10] at H
   have c10b0:(t114==1)=false:=beq_eq_false_iff_ne.mpr c10
   have c10b1:(t114 != 1)=true:=bne_iff_ne.mpr c10
   by_cases c20:t114=2
   ·rw [if_pos c20] at H
    have c20b0:(t114==2)=true:=beq_iff_eq.mpr c20
    have c20b1:(t114 != 2)=false:=bne_eq_false_iff_eq.mpr c20
    clear c20
    simp only [Option.some.injEq,Prod.mk.injEq] at H
    obtain ⟨rfl,rfl,rfl,rfl,rfl⟩:=H
    go_enter Tryz.func52,Tryz.ntmps52
    go_wp2_with (first|((with_reducible refine zdE (N:=2) rfl ?_);refine zeM ?hg (N:=2) ?hd (cs:=#[.int .i64 0,.int .i64 0,.int .i64 0]) (t:=25) ?hr ?_;(case hd=>rfl);(case hg=>rfl);(case hr=>first|(go_simp;done)|(go_simp;rfl));intro gb113 hg w21 hbox hb;have n0_:=zl.mk (ze.below (by repeat (with_reducible first|exact HI0.out|apply ze.alloc|apply ze.drewN|apply ze.set_1|apply ze.set_2)) hb);have n1_:=zl.mk (zA.trans (by repeat (with_reducible first|exact HK.out|apply zA.set_|apply zL|apply zM)) (zA.of_below hb g none) (.inl rfl));have n2_:=zl.mk (zbQ (by repeat (with_reducible first|exact HB.out|apply zy|apply zm|refine zn ?_ (ze.ge HI0.out))) hb);have n3_:=zl.mk (hbox);have n4_:=zl.mk ((by rw [hg];exact (zc0 (w:=w) (g:=g) (row:=none) (by repeat (with_reducible first|exact HK.out|apply zA.set_|apply zL|apply zM))):w.heap.size<=gb113));have n5_:=zl.mk ((Nat.le_trans HW0.out (by rw [hg];exact (zc0 (w:=w) (g:=g) (row:=none) (by repeat (with_reducible first|exact HK.out|apply zA.set_|apply zL|apply zM))):w.heap.size<=gb113):w0.heap.size<=gb113));have n6_:=zl.mk ((by rw [hg];exact Nat.ne_of_lt (ze.lt (show ze w0 _ g s0_0 s0_1 s0_2 from by repeat (with_reducible first|exact HI0.out|apply ze.alloc|apply ze.drewN|apply ze.set_1|apply ze.set_2))):g≠gb113));have n7_:=zl.mk ((by rw [hg];exact Nat.ne_of_gt (ze.lt (show ze w0 _ g s0_0 s0_1 s0_2 from by repeat (with_reducible first|exact HI0.out|apply ze.alloc|apply ze.drewN|apply ze.set_1|apply ze.set_2))):gb113≠g));clear HI0;clear HK;clear HB;have HI0:=n0_;have HK:=n1_;have HB:=n2_;have BK113:=n3_;have GW113:=n4_;have GE113:=n5_;have NB0_113:=n6_;have NB113_0:=n7_;clear n0_ n1_ n2_ n3_ n4_ n5_ n6_ n7_;clear hb hbox hg)|((with_reducible refine zax (f:=102) rfl ?_);refine zc1 (some 5) rfl rfl Tryz.func102 (by kernel_rfl) rfl #[.pointer (some ⟨g,0,none⟩),.int .i64 5] rfl (by (try simp only [List.map_toArray,List.map_cons,List.map_nil]);first|done|rfl) ?_;(with_reducible refine (zV.calls g s0_0 s0_1 s0_2 5 t114 t115 t116 w0 _ ?side1 ?side2 A2.out).mono ?_);(case side1=>repeat (with_reducible first|exact HI0.out|apply ze.alloc|apply ze.drewN|apply ze.set_1|apply ze.set_2|refine ze.far ?_ NB0_113.out _));(case side2=>repeat (with_reducible first|exact HB.out|apply zy|apply zm|refine zn ?_ (ze.ge HI0.out)|refine zn ?_ GE113.out));rintro e w22 ⟨rfl,hi,hb,hk⟩;refine ⟨_,rfl,?_⟩;have n0_:=zl.mk (zA.blk hk (g':=gb113) (o:= .cells #[.int .i64 0,.int .i64 0,.int .i64 0] 25 (0,0)) (by exact BK113.out) NB113_0.out (by simp));have n1_:=zl.mk (zA.trans (by repeat (with_reducible first|exact HK.out|apply zA.set_|apply zL|apply zM|refine zaX ?_ GW113.out _)) hk (.inl rfl));have n2_:=zl.mk (hb);have n3_:=zl.mk (hi);clear BK113;clear HK;clear HB;clear HI0;have BK113:=n0_;have HK:=n1_;have HB:=n2_;have HI0:=n3_;clear n0_ n1_ n2_ n3_;(try clear hb);(try clear hb2);(try clear hk);(try clear hi);have hnb23:=NB113_0.out;have hnc23:=NB0_113.out;have hcz24_0:w22.cell? ⟨gb113,0,none⟩=some (.int .i64 0):=(zaL BK113.out 0).trans rfl;have hcz24_1:w22.cell? ⟨gb113,1,none⟩=some (.int .i64 0):=(zaL BK113.out 1).trans rfl;have hcz24_2:w22.cell? ⟨gb113,2,none⟩=some (.int .i64 0):=(zaL BK113.out 2).trans rfl;have hfz24_0:=zao BK113.out 0;have hfz24_1:=zao BK113.out 1;have hfz24_2:=zao BK113.out 2))
    refine bodyPost_ret (results_cell_row rfl _ _ gb113 25 #[.int .i64 6377397155,.int .i64 1000000,.int .i64 299152813] (0,0) _ rfl (by refine zca (cs:=#[.int .i64 6377397155,.int .i64 1000000,.int .i64 0]) ?_ 2 _ rfl;refine zca (cs:=#[.int .i64 6377397155,.int .i64 0,.int .i64 0]) ?_ 1 _ rfl;refine zca (cs:=#[.int .i64 0,.int .i64 0,.int .i64 0]) ?_ 0 _ rfl;exact BK113.out) Tryz.underlying25 rfl (by kernel_rfl)) rfl ?_
    exact ⟨by first|rfl|(simp [*]<;>rfl),by repeat (with_reducible first|exact HI0.out|apply ze.alloc|apply ze.drewN|apply ze.set_1|apply ze.set_2|refine ze.far ?_ NB0_113.out _),by repeat (with_reducible first|exact HB.out|apply zy|apply zm|refine zn ?_ (ze.ge HI0.out)|refine zn ?_ GE113.out),by repeat (with_reducible first|exact HK.out|apply zA.set_|apply zL|apply zM|refine zaX ?_ GW113.out _)⟩
   ·rw [if_neg c20] at H
    have c20b0:(t114==2)=false:=beq_eq_false_iff_ne.mpr c20
    have c20b1:(t114 != 2)=true:=bne_iff_ne.mpr c20
    obtain ⟨⟨t126,t127,t128⟩,A250,H⟩:=Option.bind_eq_some_iff.mp H
    replace H:((zat.f s0_0 t127 t128 (([100,150,200,300,1000,100000]:List Int))).bind fun bt132=>(some (wrap64 (1000*(wrap64 (1+t126))),1,bt132.1,bt132.2.1,bt132.2.2)))=some (r1,r2,r3,r4,r5):=H
    have A25:=zl.mk A250
    clear A250
    obtain ⟨y129,hy129⟩:∃y_:List Int,y_=(([100,150,200,300,1000,100000]:List Int)):=⟨_,rfl⟩
    replace H:((zat.f s0_0 t127 t128 y129).bind fun bt132=>(some (wrap64 (1000*(wrap64 (1+t126))),1,bt132.1,bt132.2.1,bt132.2.2)))=some (r1,r2,r3,r4,r5):=by first|(rw [hy129];with_reducible exact H)|(have H2_:=(Option.bind_some _ _).symm.trans H;rw [hy129];with_reducible exact H2_)|(have H2_:=(Option.bind_some _ _).symm.trans H;with_reducible exact H2_)|with_reducible exact H|(rw [hy129];exact H)|exact H
    have Ny129:=zl.mk hy129
    clear hy129
    obtain ⟨⟨t132,t133,t134⟩,A260,H⟩:=Option.bind_eq_some_iff.mp H
    replace H:(some (wrap64 (1000*(wrap64 (1+t126))),1,t132,t133,t134))=some (r1,r2,r3,r4,r5):=H
    have A26:=zl.mk A260
    clear A260
    simp only [Option.some.injEq,Prod.mk.injEq] at H
    obtain ⟨rfl,rfl,rfl,rfl,rfl⟩:=H
    go_enter Tryz.func52,Tryz.ntmps52
    go_wp2_with (first|((with_reducible refine zdE (N:=2) rfl ?_);refine zeM ?hg (N:=2) ?hd (cs:=#[.int .i64 0,.int .i64 0,.int .i64 0]) (t:=25) ?hr ?_;(case hd=>rfl);(case hg=>rfl);(case hr=>first|(go_simp;done)|(go_simp;rfl));intro gb113 hg w27 hbox hb;have n0_:=zl.mk (ze.below (by repeat (with_reducible first|exact HI0.out|apply ze.alloc|apply ze.drewN|apply ze.set_1|apply ze.set_2)) hb);have n1_:=zl.mk (zA.trans (by repeat (with_reducible first|exact HK.out|apply zA.set_|apply zL|apply zM)) (zA.of_below hb g none) (.inl rfl));have n2_:=zl.mk (zbQ (by repeat (with_reducible first|exact HB.out|apply zy|apply zm|refine zn ?_ (ze.ge HI0.out))) hb);have n3_:=zl.mk (hbox);have n4_:=zl.mk ((by rw [hg];exact (zc0 (w:=w) (g:=g) (row:=none) (by repeat (with_reducible first|exact HK.out|apply zA.set_|apply zL|apply zM))):w.heap.size<=gb113));have n5_:=zl.mk ((Nat.le_trans HW0.out (by rw [hg];exact (zc0 (w:=w) (g:=g) (row:=none) (by repeat (with_reducible first|exact HK.out|apply zA.set_|apply zL|apply zM))):w.heap.size<=gb113):w0.heap.size<=gb113));have n6_:=zl.mk ((by rw [hg];exact Nat.ne_of_lt (ze.lt (show ze w0 _ g s0_0 s0_1 s0_2 from by repeat (with_reducible first|exact HI0.out|apply ze.alloc|apply ze.drewN|apply ze.set_1|apply ze.set_2))):g≠gb113));have n7_:=zl.mk ((by rw [hg];exact Nat.ne_of_gt (ze.lt (show ze w0 _ g s0_0 s0_1 s0_2 from by repeat (with_reducible first|exact HI0.out|apply ze.alloc|apply ze.drewN|apply ze.set_1|apply ze.set_2))):gb113≠g));clear HI0;clear HK;clear HB;have HI0:=n0_;have HK:=n1_;have HB:=n2_;have BK113:=n3_;have GW113:=n4_;have GE113:=n5_;have NB0_113:=n6_;have NB113_0:=n7_;clear n0_ n1_ n2_ n3_ n4_ n5_ n6_ n7_;clear hb hbox hg)|((with_reducible refine zax (f:=102) rfl ?_);refine zc1 (some 5) rfl rfl Tryz.func102 (by kernel_rfl) rfl #[.pointer (some ⟨g,0,none⟩),.int .i64 5] rfl (by (try simp only [List.map_toArray,List.map_cons,List.map_nil]);first|done|rfl) ?_;(with_reducible refine (zV.calls g s0_0 s0_1 s0_2 5 t114 t115 t116 w0 _ ?side1 ?side2 A2.out).mono ?_);(case side1=>repeat (with_reducible first|exact HI0.out|apply ze.alloc|apply ze.drewN|apply ze.set_1|apply ze.set_2|refine ze.far ?_ NB0_113.out _));(case side2=>repeat (with_reducible first|exact HB.out|apply zy|apply zm|refine zn ?_ (ze.ge HI0.out)|refine zn ?_ GE113.out));rintro e w28 ⟨rfl,hi,hb,hk⟩;refine ⟨_,rfl,?_⟩;have n0_:=zl.mk (zA.blk hk (g':=gb113) (o:= .cells #[.int .i64 0,.int .i64 0,.int .i64 0] 25 (0,0)) (by exact BK113.out) NB113_0.out (by simp));have n1_:=zl.mk (zA.trans (by repeat (with_reducible first|exact HK.out|apply zA.set_|apply zL|apply zM|refine zaX ?_ GW113.out _)) hk (.inl rfl));have n2_:=zl.mk (hb);have n3_:=zl.mk (hi);clear BK113;clear HK;clear HB;clear HI0;have BK113:=n0_;have HK:=n1_;have HB:=n2_;have HI0:=n3_;clear n0_ n1_ n2_ n3_;(try clear hb);(try clear hb2);(try clear hk);(try clear hi))|((with_reducible refine zax (f:=102) rfl ?_);refine zc1 (some 19) rfl rfl Tryz.func102 (by kernel_rfl) rfl #[.pointer (some ⟨g,0,none⟩),.int .i64 9000000] rfl (by (try simp only [List.map_toArray,List.map_cons,List.map_nil]);first|done|rfl) ?_;(with_reducible refine (zV.calls g s0_0 t115 t116 9000000 t126 t127 t128 w0 _ ?side1 ?side2 A25.out).mono ?_);(case side1=>repeat (with_reducible first|exact HI0.out|apply ze.alloc|apply ze.drewN|apply ze.set_1|apply ze.set_2|refine ze.far ?_ NB0_113.out _));(case side2=>repeat (with_reducible first|exact HB.out|apply zy|apply zm|refine zn ?_ (ze.ge HI0.out)|refine zn ?_ GE113.out));rintro e w29 ⟨rfl,hi,hb,hk⟩;refine ⟨_,rfl,?_⟩;have n0_:=zl.mk (zA.blk hk (g':=gb113) (o:= .cells #[.int .i64 0,.int .i64 0,.int .i64 0] 25 (0,0)) (by exact BK113.out) NB113_0.out (by simp));have n1_:=zl.mk (zA.trans (by repeat (with_reducible first|exact HK.out|apply zA.set_|apply zL|apply zM|refine zaX ?_ GW113.out _)) hk (.inl rfl));have n2_:=zl.mk (hb);have n3_:=zl.mk (hi);clear BK113;clear HK;clear HB;clear HI0;have BK113:=n0_;have HK:=n1_;have HB:=n2_;have HI0:=n3_;clear n0_ n1_ n2_ n3_;(try clear hb);(try clear hb2);(try clear hk);(try clear hi))|((with_reducible refine zdE (N:=23) rfl ?_);refine Kd.zF5 (Kd.int .i64) _ 2 ?hg (N:=23) ?hd (xs:=([100,150,200,300,1000,100000]:List Int)) (inner:= [.int .i64 100,.int .i64 150,.int .i64 200,.int .i64 300,.int .i64 1000,.int .i64 100000]) (ok:=fun _=>True) (okp:=fun _=>True) ?hr ?hp (fun _ hk=>hk) trivial (Below.refl _ _) (Nat.le_refl _) (by simp) ?_;(case hd=>rfl);(case hg=>rfl);(case hr=>first|(go_simp;done)|(go_simp;rfl));(case hp=>exact (Reps.one (show Kd.M (Kd.int .i64) _ _ _ 100 [.int .i64 100] from rfl) (Reps.one (show Kd.M (Kd.int .i64) _ _ _ 150 [.int .i64 150] from rfl) (Reps.one (show Kd.M (Kd.int .i64) _ _ _ 200 [.int .i64 200] from rfl) (Reps.one (show Kd.M (Kd.int .i64) _ _ _ 300 [.int .i64 300] from rfl) (Reps.one (show Kd.M (Kd.int .i64) _ _ _ 1000 [.int .i64 1000] from rfl) (Reps.one (show Kd.M (Kd.int .i64) _ _ _ 100000 [.int .i64 100000] from rfl) (Reps.none _ _))))))));intro v130 w30 ho31 hb hg_ hnew_;clear hg_ hnew_;(first|rw [<- Ny129.out] at ho31|(simp only [Int.reduceToNat] at ho31;rw [<- Ny129.out] at ho31));have n0_:=zl.mk (Kd.zrb ho31 (zc0 (w:=w) (g:=g) (row:=none) (by repeat (with_reducible first|exact HK.out|apply zA.set_|apply zL|apply zM|refine zaX ?_ GW113.out _))));have n1_:=zl.mk (ze.below (by repeat (with_reducible first|exact HI0.out|apply ze.alloc|apply ze.drewN|apply ze.set_1|apply ze.set_2|refine ze.far ?_ NB0_113.out _)) hb);have n2_:=zl.mk (zbx (g:=gb113) (o:= .cells #[.int .i64 0,.int .i64 0,.int .i64 0] 25 (0,0)) (by exact BK113.out) hb);have n3_:=zl.mk (zA.trans (by repeat (with_reducible first|exact HK.out|apply zA.set_|apply zL|apply zM|refine zaX ?_ GW113.out _)) (zA.of_below hb g none) (.inl rfl));have n4_:=zl.mk (zbQ (by repeat (with_reducible first|exact HB.out|apply zy|apply zm|refine zn ?_ (ze.ge HI0.out)|refine zn ?_ GE113.out)) hb);clear HI0;clear BK113;clear HK;clear HB;have HO131:=n0_;have HI0:=n1_;have BK113:=n2_;have HK:=n3_;have HB:=n4_;clear n0_ n1_ n2_ n3_ n4_;clear hb ho31;obtain ⟨Ao32,co32,eo32⟩:=Kd.zs7 HO131.out;subst eo32)|((with_reducible refine zax (f:=110) rfl ?_);refine zc1 (some 24) rfl rfl Tryz.func110 (by kernel_rfl) rfl #[.pointer (some ⟨g,0,none⟩),.slice Ao32 y129.length co32] rfl (by (try simp only [List.map_toArray,List.map_cons,List.map_nil]);first|done|rfl) ?_;(with_reducible refine (zat.calls g s0_0 t127 t128 _ _ y129 t132 t133 t134 w0 _ ?side1 ?side2 ?side3 ?side4 ?side5 A26.out).mono ?_);(case side1=>repeat (with_reducible first|exact HI0.out|apply ze.alloc|apply ze.drewN|apply ze.set_1|apply ze.set_2|refine ze.far ?_ NB0_113.out _));(case side2=>repeat (with_reducible first|exact HB.out|apply zy|apply zm|refine zn ?_ (ze.ge HI0.out)|refine zn ?_ GE113.out));(case side3=>repeat (first|exact (Kd.zi0 HO131.out).2.2|(with_reducible refine Kd.ztm ?_ _)|(with_reducible refine Kd.ztl ?_ _)|(with_reducible refine Kd.zyr ?_)));(case side4=>exact (Kd.zi0 HO131.out).2.1);(case side5=>exact zn1 (ze.own_ne HI0.out HO131.out (by decide)));rintro e w33 ⟨rfl,hi,hb,hk⟩;refine ⟨_,rfl,?_⟩;have n0_:=zl.mk (zA.blk hk (g':=gb113) (o:= .cells #[.int .i64 0,.int .i64 0,.int .i64 0] 25 (0,0)) (by exact BK113.out) NB113_0.out (by simp));have n1_:=zl.mk (Kd.zpN (Kd.ztA (ze.apart (show ze w0 _ g s0_0 t127 t128 from by repeat (with_reducible first|exact HI0.out|apply ze.alloc|apply ze.drewN|apply ze.set_1|apply ze.set_2|refine ze.far ?_ NB0_113.out _)) (by (with_reducible repeat (first|apply Kd.zoL|apply Kd.zoK|apply Kd.zr3));exact HO131.out) (by decide)) hk (fun _ h=>h.2)) (fun _ h=>h.1));have n2_:=zl.mk (zA.trans (by repeat (with_reducible first|exact HK.out|apply zA.set_|apply zL|apply zM|refine zaX ?_ GW113.out _)) hk (.inl rfl));have n3_:=zl.mk (hb);have n4_:=zl.mk (hi);clear BK113;clear HO131;clear HK;clear HB;clear HI0;have BK113:=n0_;have HO131:=n1_;have HK:=n2_;have HB:=n3_;have HI0:=n4_;clear n0_ n1_ n2_ n3_ n4_;(try clear hb);(try clear hb2);(try clear hk);(try clear hi))|((with_reducible refine zdE (N:=3) rfl ?_);refine zeM ?hg (N:=3) ?hd (cs:=#[.int .i64 0,.int .i64 0,.int .i64 0]) (t:=25) ?hr ?_;(case hd=>rfl);(case hg=>rfl);(case hr=>first|(go_simp;done)|(go_simp;rfl));intro gb135 hg w34 hbox hb;have n0_:=zl.mk (Kd.zz3 (by (with_reducible repeat (first|apply Kd.zoL|apply Kd.zoK|apply Kd.zr3));exact HO131.out) hb);have n1_:=zl.mk (ze.below (by repeat (with_reducible first|exact HI0.out|apply ze.alloc|apply ze.drewN|apply ze.set_1|apply ze.set_2|refine ze.far ?_ NB0_113.out _)) hb);have n2_:=zl.mk (zbx (g:=gb113) (o:= .cells #[.int .i64 0,.int .i64 0,.int .i64 0] 25 (0,0)) (by exact BK113.out) hb);have n3_:=zl.mk (zA.trans (by repeat (with_reducible first|exact HK.out|apply zA.set_|apply zL|apply zM|refine zaX ?_ GW113.out _)) (zA.of_below hb g none) (.inl rfl));have n4_:=zl.mk (zbQ (by repeat (with_reducible first|exact HB.out|apply zy|apply zm|refine zn ?_ (ze.ge HI0.out)|refine zn ?_ GE113.out)) hb);have n5_:=zl.mk (hbox);have n6_:=zl.mk ((by rw [hg];exact (zc0 (w:=w) (g:=g) (row:=none) (by repeat (with_reducible first|exact HK.out|apply zA.set_|apply zL|apply zM|refine zaX ?_ GW113.out _))):w.heap.size<=gb135));have n7_:=zl.mk ((Nat.le_trans HW0.out (by rw [hg];exact (zc0 (w:=w) (g:=g) (row:=none) (by repeat (with_reducible first|exact HK.out|apply zA.set_|apply zL|apply zM|refine zaX ?_ GW113.out _))):w.heap.size<=gb135):w0.heap.size<=gb135));have n8_:=zl.mk ((by rw [hg];exact Nat.ne_of_lt (zfC (g:=gb113) (o:= .cells #[.int .i64 0,.int .i64 0,.int .i64 0] 25 (0,0)) (by exact BK113.out)):gb113≠gb135));have n9_:=zl.mk ((by rw [hg];exact Nat.ne_of_gt (zfC (g:=gb113) (o:= .cells #[.int .i64 0,.int .i64 0,.int .i64 0] 25 (0,0)) (by exact BK113.out)):gb135≠gb113));have n10_:=zl.mk ((by rw [hg];exact Nat.ne_of_lt (ze.lt (show ze w0 _ g s0_0 t133 t134 from by repeat (with_reducible first|exact HI0.out|apply ze.alloc|apply ze.drewN|apply ze.set_1|apply ze.set_2|refine ze.far ?_ NB0_113.out _))):g≠gb135));have n11_:=zl.mk ((by rw [hg];exact Nat.ne_of_gt (ze.lt (show ze w0 _ g s0_0 t133 t134 from by repeat (with_reducible first|exact HI0.out|apply ze.alloc|apply ze.drewN|apply ze.set_1|apply ze.set_2|refine ze.far ?_ NB0_113.out _))):gb135≠g));clear HO131;clear HI0;clear BK113;clear HK;clear HB;have HO131:=n0_;have HI0:=n1_;have BK113:=n2_;have HK:=n3_;have HB:=n4_;have BK135:=n5_;have GW135:=n6_;have GE135:=n7_;have NB113_135:=n8_;have NB135_113:=n9_;have NB0_135:=n10_;have NB135_0:=n11_;clear n0_ n1_ n2_ n3_ n4_ n5_ n6_ n7_ n8_ n9_ n10_ n11_;clear hb hbox hg;have hnb35:=NB135_113.out;have hnc35:=NB113_135.out;have hnb36:=NB135_0.out;have hnc36:=NB0_135.out;have hcz37_0:w34.cell? ⟨gb135,0,none⟩=some (.int .i64 0):=(zaL BK135.out 0).trans rfl;have hcz37_1:w34.cell? ⟨gb135,1,none⟩=some (.int .i64 0):=(zaL BK135.out 1).trans rfl;have hcz37_2:w34.cell? ⟨gb135,2,none⟩=some (.int .i64 0):=(zaL BK135.out 2).trans rfl;have hfz37_0:=zao BK135.out 0;have hfz37_1:=zao BK135.out 1;have hfz37_2:=zao BK135.out 2;have hnb38:=NB113_0.out;have hnc38:=NB0_113.out;have hcz39_0:w34.cell? ⟨gb113,0,none⟩=some (.int .i64 0):=(zaL BK113.out 0).trans rfl;have hcz39_1:w34.cell? ⟨gb113,1,none⟩=some (.int .i64 0):=(zaL BK113.out 1).trans rfl;have hcz39_2:w34.cell? ⟨gb113,2,none⟩=some (.int .i64 0):=(zaL BK113.out 2).trans rfl;have hfz39_0:=zao BK113.out 0;have hfz39_1:=zao BK113.out 1;have hfz39_2:=zao BK113.out 2))
    refine bodyPost_ret (results_cell_row rfl _ _ gb113 25 #[.int .i64 (wrap64 (1000*(wrap64 (1+t126)))),.int .i64 1,.int .i64 t132] (0,0) _ rfl (by refine zca (cs:=#[.int .i64 (wrap64 (1000*(wrap64 (1+t126)))),.int .i64 1,.int .i64 0]) ?_ 2 _ rfl;refine zca (cs:=#[.int .i64 (wrap64 (1000*(wrap64 (1+t126)))),.int .i64 0,.int .i64 0]) ?_ 1 _ rfl;refine zca (cs:=#[.int .i64 0,.int .i64 0,.int .i64 0]) ?_ 0 _ rfl;refine zce ?_ NB113_135.out _;refine zce ?_ NB113_135.out _;refine zce ?_ NB113_135.out _;exact BK113.out) Tryz.underlying25 rfl (by kernel_rfl)) rfl ?_
    exact ⟨by first|rfl|(simp [*]<;>rfl),by repeat (with_reducible first|exact HI0.out|apply ze.alloc|apply ze.drewN|apply ze.set_1|apply ze.set_2|refine ze.far ?_ NB0_113.out _|refine ze.far ?_ NB0_135.out _),by repeat (with_reducible first|exact HB.out|apply zy|apply zm|refine zn ?_ (ze.ge HI0.out)|refine zn ?_ GE113.out|refine zn ?_ GE135.out),by repeat (with_reducible first|exact HK.out|apply zA.set_|apply zL|apply zM|refine zaX ?_ GW113.out _|refine zaX ?_ GW135.out _)⟩
def zfh.f (l0:List Int):Option (List Int×Int×Int):=some (l0,0,0)
set_option maxHeartbeats 8000000 in
set_option maxRecDepth 100000 in
theorem zfh.calls (A0:Option Addr) (c0:Nat) (l0:List Int) (r1:List Int) (r2:Int) (r3:Int) (w0 w:World) (hB:Below w0.heap.size w0 w) (hr0:Kd.C (Kd.int .u8) w0 A0 l0.length l0) (hc0:l0.length<=c0) (h:zfh.f l0=some (r1,r2,r3)):
  Calls Tryz.prog 53 #[.slice A0 l0.length c0] w fun e w'=>∃g_:Nat,e= .returned (.pointer (some ⟨g_,0,none⟩))/\ze w0 w' g_ r1 r2 r3/\Below w0.heap.size w0 w'/\Below w.heap.size w w':=by
 have hu111:=Tryz.underlying111
 have HR0:=zl.mk hr0
 have HC0:=zl.mk hc0
 clear hr0 hc0
 have HBW:=zl.mk (Below.refl w.heap.size w)
 have HW0:=zl.mk hB.size
 have HB:=zl.mk hB
 clear hB
 have H:(some (l0,0,0))=some (r1,r2,r3):=h
 clear h
 simp only [Option.some.injEq,Prod.mk.injEq] at H
 obtain ⟨rfl,rfl,rfl⟩:=H
 go_enter Tryz.func53,Tryz.ntmps53
 go_wp2_with (first|((with_reducible refine zdE (N:=5) rfl ?_);refine zeM ?hg (N:=5) ?hd (cs:=#[.slice A0 l0.length c0,.int .i64 0,.int .u64 0]) (t:=111) ?hr ?_;(case hd=>rfl);(case hg=>rfl);(case hr=>first|(go_simp;done)|(go_simp;rfl));intro gb136 hg w2 hbox hb;have n0_:=zl.mk (zbQ HBW.out hb);have n1_:=zl.mk (zbQ (by repeat (with_reducible first|exact HB.out|apply zy|apply zm|apply zdx)) hb);have n2_:=zl.mk (hbox);have n3_:=zl.mk ((by rw [hg];exact (zdm (by repeat (with_reducible first|exact HBW.out|apply zy|apply zm|apply zdx))):w.heap.size<=gb136));have n4_:=zl.mk ((Nat.le_trans HW0.out (by rw [hg];exact (zdm (by repeat (with_reducible first|exact HBW.out|apply zy|apply zm|apply zdx))):w.heap.size<=gb136):w0.heap.size<=gb136));clear HBW;clear HB;have HBW:=n0_;have HB:=n1_;have BK136:=n2_;have GW136:=n3_;have GE136:=n4_;clear n0_ n1_ n2_ n3_ n4_;clear hb hbox hg))
 go_ret
 exact ⟨_,rfl,(show ze w0 _ gb136 l0 0 0 from ⟨_,_,by exact BK136.out,GE136.out,HR0.out⟩),by repeat (with_reducible first|exact HB.out|apply zy|apply zm|refine zn ?_ GE136.out),by repeat (with_reducible first|exact HBW.out|apply zy|apply zm|refine zn ?_ GW136.out)⟩
def zgz.f (l0:List Int):Option (Int×Int×Int):=(zfh.f l0).bind fun bt138=>((zga.f bt138.1 bt138.2.1 bt138.2.2).bind fun bt142=>(some (bt142.1,bt142.2.1,bt142.2.2.1)))
set_option maxHeartbeats 8000000 in
set_option maxRecDepth 100000 in
theorem zgz.calls (A0:Option Addr) (c0:Nat) (l0:List Int) (r1:Int) (r2:Int) (r3:Int) (w:World) (hr0:Kd.C (Kd.int .u8) w A0 l0.length l0) (hc0:l0.length<=c0) (h:zgz.f l0=some (r1,r2,r3)):
  Calls Tryz.prog 12 #[.slice A0 l0.length c0] w fun e w'=>e= .returned (.agg #[.int .i64 r1,.int .i64 r2,.int .i64 r3])/\Below w.heap.size w w':=by
 have hu25:=Tryz.underlying25
 have HR0:=zl.mk hr0
 have HC0:=zl.mk hc0
 clear hr0 hc0
 have HB:=zl.mk (Below.refl w.heap.size w)
 have H:((zfh.f l0).bind fun bt138=>((zga.f bt138.1 bt138.2.1 bt138.2.2).bind fun bt142=>(some (bt142.1,bt142.2.1,bt142.2.2.1))))=some (r1,r2,r3):=h
 clear h
 obtain ⟨⟨t138,t139,t140⟩,A20,H⟩:=Option.bind_eq_some_iff.mp H
 replace H:((zga.f t138 t139 t140).bind fun bt142=>(some (bt142.1,bt142.2.1,bt142.2.2.1)))=some (r1,r2,r3):=H
 have A2:=zl.mk A20
 clear A20
 obtain ⟨⟨t142,t143,t144,t145,t146⟩,A30,H⟩:=Option.bind_eq_some_iff.mp H
 replace H:(some (t142,t143,t144))=some (r1,r2,r3):=H
 have A3:=zl.mk A30
 clear A30
 simp only [Option.some.injEq,Prod.mk.injEq] at H
 obtain ⟨rfl,rfl,rfl⟩:=H
 go_enter Tryz.func12,Tryz.ntmps12
 go_wp2_with (first|((with_reducible refine zdE (N:=2) rfl ?_);refine zeM ?hg (N:=2) ?hd (cs:=#[.int .i64 0,.int .i64 0,.int .i64 0]) (t:=25) ?hr ?_;(case hd=>rfl);(case hg=>rfl);(case hr=>first|(go_simp;done)|(go_simp;rfl));intro gb137 hg w4 hbox hb;have n0_:=zl.mk (zbQ (by repeat (with_reducible first|exact HB.out|apply zy|apply zm|apply zdx)) hb);have n1_:=zl.mk (hbox);have n2_:=zl.mk ((by rw [hg];exact (zdm (by repeat (with_reducible first|exact HB.out|apply zy|apply zm|apply zdx))):w.heap.size<=gb137));have n3_:=zl.mk ((by rw [hg];exact (zdm (by repeat (with_reducible first|exact HB.out|apply zy|apply zm|apply zdx))):w.heap.size<=gb137));clear HB;have HB:=n0_;have BK137:=n1_;have GW137:=n2_;have GE137:=n3_;clear n0_ n1_ n2_ n3_;clear hb hbox hg)|((with_reducible refine zax (f:=53) rfl ?_);refine zc1 (some 4) rfl rfl Tryz.func53 (by kernel_rfl) rfl #[.slice A0 l0.length c0] rfl (by (try simp only [List.map_toArray,List.map_cons,List.map_nil]);first|done|rfl) ?_;(with_reducible refine (zfh.calls _ _ l0 t138 t139 t140 w _ ?side1 ?side2 ?side3 A2.out).mono ?_);(case side1=>repeat (with_reducible first|exact HB.out|apply zy|apply zm|refine zn ?_ GE137.out));(case side2=>exact HR0.out);(case side3=>exact HC0.out);rintro e w5 ⟨g141,rfl,hi,hb,hb2⟩;refine ⟨_,rfl,?_⟩;have n0_:=zl.mk (zbx (g:=gb137) (o:= .cells #[.int .i64 0,.int .i64 0,.int .i64 0] 25 (0,0)) (by exact BK137.out) hb2);have n1_:=zl.mk (hb);have n2_:=zl.mk (hi);have n3_:=zl.mk (ze.ne_blk hi (zbx (g:=gb137) (o:= .cells #[.int .i64 0,.int .i64 0,.int .i64 0] 25 (0,0)) (by exact BK137.out) hb2) (by decide));have n4_:=zl.mk (Ne.symm (ze.ne_blk hi (zbx (g:=gb137) (o:= .cells #[.int .i64 0,.int .i64 0,.int .i64 0] 25 (0,0)) (by exact BK137.out) hb2) (by decide)));clear BK137;clear HB;have BK137:=n0_;have HB:=n1_;have HI141:=n2_;have NB141_137:=n3_;have NB137_141:=n4_;clear n0_ n1_ n2_ n3_ n4_;(try clear hb);(try clear hb2);(try clear hk);(try clear hi))|((with_reducible refine zax (f:=52) rfl ?_);refine zc1 (some 5) rfl rfl Tryz.func52 (by kernel_rfl) rfl #[.pointer (some ⟨g141,0,none⟩)] rfl (by (try simp only [List.map_toArray,List.map_cons,List.map_nil]);first|done|rfl) ?_;(with_reducible refine (zga.calls g141 t138 t139 t140 t142 t143 t144 t145 t146 w _ ?side1 ?side2 A3.out).mono ?_);(case side1=>repeat (with_reducible first|exact HI141.out|apply ze.alloc|apply ze.drewN|apply ze.set_1|apply ze.set_2|refine ze.far ?_ NB141_137.out _));(case side2=>repeat (with_reducible first|exact HB.out|apply zy|apply zm|refine zn ?_ (ze.ge HI141.out)|refine zn ?_ GE137.out));rintro e w6 ⟨rfl,hi,hb,hk⟩;refine ⟨_,rfl,?_⟩;have n0_:=zl.mk (zA.blk hk (g':=gb137) (o:= .cells #[.int .i64 0,.int .i64 0,.int .i64 0] 25 (0,0)) (by exact BK137.out) NB137_141.out (by simp));have n1_:=zl.mk (hb);have n2_:=zl.mk (hi);clear BK137;clear HB;clear HI141;have BK137:=n0_;have HB:=n1_;have HI141:=n2_;clear n0_ n1_ n2_;(try clear hb);(try clear hb2);(try clear hk);(try clear hi);have hnb7:=NB137_141.out;have hnc7:=NB141_137.out;have hcz8_0:w6.cell? ⟨gb137,0,none⟩=some (.int .i64 0):=(zaL BK137.out 0).trans rfl;have hcz8_1:w6.cell? ⟨gb137,1,none⟩=some (.int .i64 0):=(zaL BK137.out 1).trans rfl;have hcz8_2:w6.cell? ⟨gb137,2,none⟩=some (.int .i64 0):=(zaL BK137.out 2).trans rfl;have hfz8_0:=zao BK137.out 0;have hfz8_1:=zao BK137.out 1;have hfz8_2:=zao BK137.out 2))
 refine bodyPost_ret (results_cell_row rfl _ _ gb137 25 #[.int .i64 t142,.int .i64 t143,.int .i64 t144] (0,0) _ rfl (by refine zca (cs:=#[.int .i64 t142,.int .i64 t143,.int .i64 0]) ?_ 2 _ rfl;refine zca (cs:=#[.int .i64 t142,.int .i64 0,.int .i64 0]) ?_ 1 _ rfl;refine zca (cs:=#[.int .i64 0,.int .i64 0,.int .i64 0]) ?_ 0 _ rfl;exact BK137.out) Tryz.underlying25 rfl (by kernel_rfl)) rfl ?_
 exact ⟨by first|rfl|(simp [*]<;>rfl),by repeat (with_reducible first|exact HB.out|apply zy|apply zm|refine zn ?_ (ze.ge HI141.out)|refine zn ?_ GE137.out)⟩
def zfg.f (a0:Int):Option (Int):=if (Int.tmod a0 3600000000)>1800000000 then (if (wrap64 ((Int.tmod a0 3600000000)-3600000000))<=(-1800000000) then (some (wrap64 ((wrap64 ((Int.tmod a0 3600000000)-3600000000))+3600000000))) else (some (wrap64 ((Int.tmod a0 3600000000)-3600000000)))) else (if (Int.tmod a0 3600000000)<=(-1800000000) then (some (wrap64 ((Int.tmod a0 3600000000)+3600000000))) else (some (Int.tmod a0 3600000000)))
set_option maxHeartbeats 8000000 in
set_option maxRecDepth 100000 in
theorem zfg.calls (a0:Int) (r:Int) (w:World) (h:zfg.f a0=some r):
  Calls Tryz.prog 62 #[.int .i64 a0] w fun e w'=>e= .returned (.int .i64 r)/\zkk w w':=by
 have H:(if (Int.tmod a0 3600000000)>1800000000 then (if (wrap64 ((Int.tmod a0 3600000000)-3600000000))<=(-1800000000) then (some (wrap64 ((wrap64 ((Int.tmod a0 3600000000)-3600000000))+3600000000))) else (some (wrap64 ((Int.tmod a0 3600000000)-3600000000)))) else (if (Int.tmod a0 3600000000)<=(-1800000000) then (some (wrap64 ((Int.tmod a0 3600000000)+3600000000))) else (some (Int.tmod a0 3600000000))))=some r:=h
 clear h
 by_cases c2:(Int.tmod a0 3600000000)>1800000000
 ·rw [if_pos c2] at H
  have c2b0:decide (1800000000<(Int.tmod a0 3600000000))=true:=decide_eq_true c2
  clear c2
  by_cases c3:(wrap64 ((Int.tmod a0 3600000000)-3600000000))<=(-1800000000)
  ·rw [if_pos c3] at H
   have c3b0:decide ((wrap64 ((Int.tmod a0 3600000000)-3600000000))<=(-1800000000))=true:=decide_eq_true c3
   clear c3
   obtain rfl:=Option.some.inj H
   go_enter Tryz.func62,Tryz.ntmps62
   go_wp2
   go_ret
   exact ⟨by first|rfl|(simp;done)|(simp [*];done),by repeat (first|exact zkk.refl _|apply zkk.step)⟩
  ·rw [if_neg c3] at H
   have c3b0:decide ((wrap64 ((Int.tmod a0 3600000000)-3600000000))<=(-1800000000))=false:=decide_eq_false c3
   clear c3
   obtain rfl:=Option.some.inj H
   go_enter Tryz.func62,Tryz.ntmps62
   go_wp2
   go_ret
   exact ⟨by first|rfl|(simp;done)|(simp [*];done),by repeat (first|exact zkk.refl _|apply zkk.step)⟩
 ·rw [if_neg c2] at H
  have c2b0:decide (1800000000<(Int.tmod a0 3600000000))=false:=decide_eq_false c2
  clear c2
  by_cases c4:(Int.tmod a0 3600000000)<=(-1800000000)
  ·rw [if_pos c4] at H
   have c4b0:decide ((Int.tmod a0 3600000000)<=(-1800000000))=true:=decide_eq_true c4
   clear c4
   obtain rfl:=Option.some.inj H
   go_enter Tryz.func62,Tryz.ntmps62
   go_wp2
   go_ret
   exact ⟨by first|rfl|(simp;done)|(simp [*];done),by repeat (first|exact zkk.refl _|apply zkk.step)⟩
  ·rw [if_neg c4] at H
   have c4b0:decide ((Int.tmod a0 3600000000)<=(-1800000000))=false:=decide_eq_false c4
   clear c4
   obtain rfl:=Option.some.inj H
   go_enter Tryz.func62,Tryz.ntmps62
   go_wp2
   go_ret
   exact ⟨by first|rfl|(simp;done)|(simp [*];done),by repeat (first|exact zkk.refl _|apply zkk.step)⟩
def zaV.f (s0_0:List Int) (s0_1:Int) (s0_2:Int) (a1:Int):Option (Bool×Int×Int):=(zV.f s0_0 s0_1 s0_2 a1).bind fun bt147=>(some ((bt147.1==0),bt147.2.1,bt147.2.2))
set_option maxHeartbeats 8000000 in
set_option maxRecDepth 100000 in
theorem zaV.calls (g:Nat) (s0_0:List Int) (s0_1:Int) (s0_2:Int) (a1:Int) (r1:Bool) (r2:Int) (r3:Int) (w0 w:World) (hI:ze w0 w g s0_0 s0_1 s0_2) (hB:Below w0.heap.size w0 w) (h:zaV.f s0_0 s0_1 s0_2 a1=some (r1,r2,r3)):
  Calls Tryz.prog 177 #[.pointer (some ⟨g,0,none⟩),.int .i64 a1] w fun e w'=>e= .returned (.bool r1)/\ze w0 w' g s0_0 r2 r3/\Below w0.heap.size w0 w'/\zA w w' g none:=by
 have HI0:=zl.mk hI
 have HK:=zl.mk (zA.refl w g none)
 have HL:=zl.mk hB.size
 clear hI
 have HW0:=zl.mk hB.size
 have HB:=zl.mk hB
 clear hB
 have H:((zV.f s0_0 s0_1 s0_2 a1).bind fun bt147=>(some ((bt147.1==0),bt147.2.1,bt147.2.2)))=some (r1,r2,r3):=h
 clear h
 obtain ⟨⟨t147,t148,t149⟩,A30,H⟩:=Option.bind_eq_some_iff.mp H
 replace H:(some ((t147==0),t148,t149))=some (r1,r2,r3):=H
 have A3:=zl.mk A30
 clear A30
 simp only [Option.some.injEq,Prod.mk.injEq] at H
 obtain ⟨rfl,rfl,rfl⟩:=H
 go_enter Tryz.func177,Tryz.ntmps177
 go_wp2_with (first|((with_reducible refine zax (f:=102) rfl ?_);refine zc1 (some 7) rfl rfl Tryz.func102 (by kernel_rfl) rfl #[.pointer (some ⟨g,0,none⟩),.int .i64 a1] rfl (by (try simp only [List.map_toArray,List.map_cons,List.map_nil]);first|done|rfl) ?_;(with_reducible refine (zV.calls g s0_0 s0_1 s0_2 a1 t147 t148 t149 w0 _ ?side1 ?side2 A3.out).mono ?_);(case side1=>repeat (with_reducible first|exact HI0.out|apply ze.alloc|apply ze.drewN|apply ze.set_1|apply ze.set_2));(case side2=>repeat (with_reducible first|exact HB.out|apply zy|apply zm|refine zn ?_ (ze.ge HI0.out)));rintro e w4 ⟨rfl,hi,hb,hk⟩;refine ⟨_,rfl,?_⟩;have n0_:=zl.mk (zA.trans (by repeat (with_reducible first|exact HK.out|apply zA.set_|apply zL|apply zM)) hk (.inl rfl));have n1_:=zl.mk (hb);have n2_:=zl.mk (hi);clear HK;clear HB;clear HI0;have HK:=n0_;have HB:=n1_;have HI0:=n2_;clear n0_ n1_ n2_;(try clear hb);(try clear hb2);(try clear hk);(try clear hi)))
 go_ret
 exact ⟨by first|rfl|(simp [*]<;>rfl),by repeat (with_reducible first|exact HI0.out|apply ze.alloc|apply ze.drewN|apply ze.set_1|apply ze.set_2),by repeat (with_reducible first|exact HB.out|apply zy|apply zm|refine zn ?_ (ze.ge HI0.out)),by repeat (with_reducible first|exact HK.out|apply zA.set_|apply zL|apply zM)⟩
def zaY.l0:Nat->Int->Int->Int->List Int->Int->Int->Option (Int×Int×Int)
 | 0,_,_,_,_,_,_=>none
 | k+1,x1,x5,x6,x1000,x1001,x1002=>if x6<7 then ((zbu.f x1000 x1001 x1002).bind fun bt150=>(zaY.l0 k x1 (Go.bits .xor .i64 (wrap64 (x5*256)) bt150.1) (wrap64 (x6+1)) x1000 bt150.2.1 bt150.2.2)) else (if (wrap64 (x1+1))=0 then (none) else ((zV.f x1000 x1001 x1002 5).bind fun bt153=>(if bt153.1=0 then ((zV.f x1000 bt153.2.1 bt153.2.2 40).bind fun bt156=>(if 0<=(IntKind.u64.wrap (bt156.1)) then ((zaV.f x1000 bt156.2.1 bt156.2.2 2).bind fun bt159=>(if bt159.1=true then (some (wrap64 (-(shr .i64 (Int.tmod x5 (wrap64 (x1+1))) (IntKind.u64.wrap (bt156.1)))),bt159.2.1,bt159.2.2)) else (some (shr .i64 (Int.tmod x5 (wrap64 (x1+1))) (IntKind.u64.wrap (bt156.1)),bt159.2.1,bt159.2.2)))) else (none))) else (if bt153.1=1 then ((zat.f x1000 bt153.2.1 bt153.2.2 (([0,1,x1,wrap64 (Int.tdiv x1 2)]:List Int))).bind fun bt165=>((zaV.f x1000 bt165.2.1 bt165.2.2 2).bind fun bt168=>(if bt168.1=true then (some (wrap64 (-bt165.1),bt168.2.1,bt168.2.2)) else (some (bt165.1,bt168.2.1,bt168.2.2))))) else ((zaV.f x1000 bt153.2.1 bt153.2.2 2).bind fun bt171=>(if bt171.1=true then (some (wrap64 (-(Int.tmod x5 (wrap64 (x1+1)))),bt171.2.1,bt171.2.2)) else (some (Int.tmod x5 (wrap64 (x1+1)),bt171.2.1,bt171.2.2))))))))
def zaY.f (k:Nat) (s0_0:List Int) (s0_1:Int) (s0_2:Int) (a1:Int):Option (Int×Int×Int):=zaY.l0 k a1 0 0 s0_0 s0_1 s0_2
set_option maxHeartbeats 8000000 in
set_option maxRecDepth 100000 in
theorem zaY.calls (k:Nat) (g:Nat) (s0_0:List Int) (s0_1:Int) (s0_2:Int) (a1:Int) (r1:Int) (r2:Int) (r3:Int) (w0 w:World) (hI:ze w0 w g s0_0 s0_1 s0_2) (hB:Below w0.heap.size w0 w) (h:zaY.f k s0_0 s0_1 s0_2 a1=some (r1,r2,r3)):
  Calls Tryz.prog 111 #[.pointer (some ⟨g,0,none⟩),.int .i64 a1] w fun e w'=>e= .returned (.int .i64 r1)/\ze w0 w' g s0_0 r2 r3/\Below w0.heap.size w0 w'/\zA w w' g none:=by
 have HI0:=zl.mk hI
 have HK:=zl.mk (zA.refl w g none)
 have HL:=zl.mk hB.size
 clear hI
 have HW0:=zl.mk hB.size
 have HB:=zl.mk hB
 clear hB
 have H:(zaY.l0 k a1 0 0 s0_0 s0_1 s0_2)=some (r1,r2,r3):=h
 clear h
 have H':=zl.mk H
 clear H
 go_enter Tryz.func111,Tryz.ntmps111
 go_wp2
 go_loopg [5,6] k (fun kq v5 v6 w'=>∃(x5_1:Int) (x6_1:Int) (x1001_1:Int) (x1002_1:Int),v5= .int .i64 x5_1/\v6= .int .i64 x6_1/\zl (zaY.l0 kq a1 x5_1 x6_1 s0_0 x1001_1 x1002_1=some (r1,r2,r3))/\zl (kq<=k)/\zl (ze w0 w' g s0_0 x1001_1 x1002_1)/\zl (zA w w' g none)/\zl (Below w0.heap.size w0 w'))
 case atStart=>exact ⟨(0),(0),(s0_1),(s0_2),(by first|rfl|(simp;done)|(simp [*];done)),(by first|rfl|(simp;done)|(simp [*];done)),H',⟨Nat.le_refl _⟩,⟨by repeat (with_reducible first|exact HI0.out|apply ze.alloc|apply ze.drewN|apply ze.set_1|apply ze.set_2)⟩,⟨by repeat (with_reducible first|exact HK.out|apply zA.set_|apply zL|apply zM)⟩,⟨by repeat (with_reducible first|exact HB.out|apply zy|apply zm|refine zn ?_ (ze.ge HI0.out))⟩⟩
 case round=>
  clear H'
  obtain ⟨x5_1,x6_1,x1001_1,x1002_1,rfl,rfl,HA,HK1,HI0,HK,HB⟩:=hrel
  cases gk with
  | zero=>exact absurd HA.out (by simp [zaY.l0])
  | succ k1=>
   have H:=HA.out
   clear HA
   simp only [zaY.l0] at H
   by_cases c3:x6_1<7
   ·rw [if_pos c3] at H
    have c3b0:decide (x6_1<7)=true:=decide_eq_true c3
    clear c3
    obtain ⟨⟨t150,t151,t152⟩,A40,H⟩:=Option.bind_eq_some_iff.mp H
    replace H:(zaY.l0 k1 a1 (Go.bits .xor .i64 (wrap64 (x5_1*256)) t150) (wrap64 (x6_1+1)) s0_0 t151 t152)=some (r1,r2,r3):=H
    have A4:=zl.mk A40
    clear A40
    have H':=zl.mk H
    clear H
    go_wp2_with (first|((with_reducible refine zax (f:=172) rfl ?_);refine zc1 (some 14) rfl rfl Tryz.func172 (by kernel_rfl) rfl #[.pointer (some ⟨g,0,none⟩)] rfl (by (try simp only [List.map_toArray,List.map_cons,List.map_nil]);first|done|rfl) ?_;(with_reducible refine (zbu.calls g s0_0 x1001_1 x1002_1 t150 t151 t152 w0 _ ?side1 ?side2 A4.out).mono ?_);(case side1=>repeat (with_reducible first|exact HI0.out|apply ze.alloc|apply ze.drewN|apply ze.set_1|apply ze.set_2));(case side2=>repeat (with_reducible first|exact HB.out|apply zy|apply zm|refine zn ?_ (ze.ge HI0.out)));rintro e w5 ⟨rfl,hi,hb,hk⟩;refine ⟨_,rfl,?_⟩;have n0_:=zl.mk (zA.trans (by repeat (with_reducible first|exact HK.out|apply zA.set_|apply zL|apply zM)) hk (.inl rfl));have n1_:=zl.mk (hb);have n2_:=zl.mk (hi);clear HK;clear HB;clear HI0;have HK:=n0_;have HB:=n1_;have HI0:=n2_;clear n0_ n1_ n2_;(try clear hb);(try clear hb2);(try clear hk);(try clear hi)))
    go_roundg k1
    case measure=>have:=HK1.out;omega
    case rel=>exact ⟨(Go.bits .xor .i64 (wrap64 (x5_1*256)) t150),(wrap64 (x6_1+1)),(t151),(t152),(by first|rfl|(simp;done)|(simp [*];done)),(by first|rfl|(simp;done)|(simp [*];done)),H',⟨by have:=HK1.out;omega⟩,⟨by repeat (with_reducible first|exact HI0.out|apply ze.alloc|apply ze.drewN|apply ze.set_1|apply ze.set_2)⟩,⟨by repeat (with_reducible first|exact HK.out|apply zA.set_|apply zL|apply zM)⟩,⟨by repeat (with_reducible first|exact HB.out|apply zy|apply zm|refine zn ?_ (ze.ge HI0.out))⟩⟩
   ·rw [if_neg c3] at H
    have c3b0:decide (x6_1<7)=false:=decide_eq_false c3
    clear c3
    by_cases c6:(wrap64 (a1+1))=0
    ·rw [if_pos c6] at H
     exact absurd H (by simp)
    ·rw [if_neg c6] at H
     have c6b0:((wrap64 (a1+1))==0)=false:=beq_eq_false_iff_ne.mpr c6
     have c6b1:((wrap64 (a1+1)) != 0)=true:=bne_iff_ne.mpr c6
     obtain ⟨⟨t153,t154,t155⟩,A70,H⟩:=Option.bind_eq_some_iff.mp H
     replace H:(if t153=0 then ((zV.f s0_0 t154 t155 40).bind fun bt156=>(if 0<=(IntKind.u64.wrap (bt156.1)) then ((zaV.f s0_0 bt156.2.1 bt156.2.2 2).bind fun bt159=>(if bt159.1=true then (some (wrap64 (-(shr .i64 (Int.tmod x5_1 (wrap64 (a1+1))) (IntKind.u64.wrap (bt156.1)))),bt159.2.1,bt159.2.2)) else (some (shr .i64 (Int.tmod x5_1 (wrap64 (a1+1))) (IntKind.u64.wrap (bt156.1)),bt159.2.1,bt159.2.2)))) else (none))) else (if t153=1 then ((zat.f s0_0 t154 t155 (([0,1,a1,wrap64 (Int.tdiv a1 2)]:List Int))).bind fun bt165=>((zaV.f s0_0 bt165.2.1 bt165.2.2 2).bind fun bt168=>(if bt168.1=true then (some (wrap64 (-bt165.1),bt168.2.1,bt168.2.2)) else (some (bt165.1,bt168.2.1,bt168.2.2))))) else ((zaV.f s0_0 t154 t155 2).bind fun bt171=>(if bt171.1=true then (some (wrap64 (-(Int.tmod x5_1 (wrap64 (a1+1)))),bt171.2.1,bt171.2.2)) else (some (Int.tmod x5_1 (wrap64 (a1+1)),bt171.2.1,bt171.2.2))))))=some (r1,r2,r3):=H
     have A7:=zl.mk A70
     clear A70
     by_cases c8:t153=0
     ·rw [if_pos c8] at H
      have c8b0:(t153==0)=true:=beq_iff_eq.mpr c8
      have c8b1:(t153 != 0)=false:=bne_eq_false_iff_eq.mpr c8
      clear c8
      obtain ⟨⟨t156,t157,t158⟩,A90,H⟩:=Option.bind_eq_some_iff.mp H
      replace H:(if 0<=(IntKind.u64.wrap (t156)) then ((zaV.f s0_0 t157 t158 2).bind fun bt159=>(if bt159.1=true then (some (wrap64 (-(shr .i64 (Int.tmod x5_1 (wrap64 (a1+1))) (IntKind.u64.wrap (t156)))),bt159.2.1,bt159.2.2)) else (some (shr .i64 (Int.tmod x5_1 (wrap64 (a1+1))) (IntKind.u64.wrap (t156)),bt159.2.1,bt159.2.2)))) else (none))=some (r1,r2,r3):=H
      have A9:=zl.mk A90
      clear A90
      obtain ⟨ji10,hji10⟩:∃j_:Int,(IntKind.u64.wrap (t156))=j_:=⟨_,rfl⟩
      replace H:(if 0<=(ji10) then ((zaV.f s0_0 t157 t158 2).bind fun bt159=>(if bt159.1=true then (some (wrap64 (-(shr .i64 (Int.tmod x5_1 (wrap64 (a1+1))) (ji10))),bt159.2.1,bt159.2.2)) else (some (shr .i64 (Int.tmod x5_1 (wrap64 (a1+1))) (ji10),bt159.2.1,bt159.2.2)))) else (none))=some (r1,r2,r3):=by first|(rw [hji10] at H;exact H)|(simp only [hji10] at H ⊢;exact H)
      (try rw [hji10] at A7)
      (try rw [hji10] at A9)
      by_cases c11:0<=(ji10)
      ·rw [if_pos c11] at H
       have c11b0:=eq_true c11
       have c11b1:decide (0<=(ji10))=true:=decide_eq_true c11
       clear c11
       obtain ⟨ji12,hji12⟩:∃j_:Int,(shr .i64 (Int.tmod x5_1 (wrap64 (a1+1))) (ji10))=j_:=⟨_,rfl⟩
       replace H:((zaV.f s0_0 t157 t158 2).bind fun bt159=>(if bt159.1=true then (some (wrap64 (-(ji12)),bt159.2.1,bt159.2.2)) else (some (ji12,bt159.2.1,bt159.2.2))))=some (r1,r2,r3):=by first|(rw [hji12] at H;exact H)|(simp only [hji12] at H ⊢;exact H)
       (try rw [hji12] at A7)
       (try rw [hji12] at A9)
       have hji12_:((Int.tmod x5_1 (wrap64 (a1+1)))/2^min (ji10).toNat 64)=ji12:=hji12
       have hji12z:(ji10)<=64->((Int.tmod x5_1 (wrap64 (a1+1)))/2^(ji10).toNat)=ji12:=zGB hji12
       obtain ⟨⟨t159,t160,t161⟩,A130,H⟩:=Option.bind_eq_some_iff.mp H
       replace H:(if t159=true then (some (wrap64 (-(ji12)),t160,t161)) else (some (ji12,t160,t161)))=some (r1,r2,r3):=H
       have A13:=zl.mk A130
       clear A130
       by_cases c14:t159=true
       ·subst c14
        replace H:(some (wrap64 (-(ji12)),t160,t161))=some (r1,r2,r3):=by rw [if_pos rfl] at H;exact H
        simp only [Option.some.injEq,Prod.mk.injEq] at H
        obtain ⟨rfl,rfl,rfl⟩:=H
        go_wp2_with (first|((with_reducible refine zax (f:=102) rfl ?_);refine zc1 (some 21) rfl rfl Tryz.func102 (by kernel_rfl) rfl #[.pointer (some ⟨g,0,none⟩),.int .i64 5] rfl (by (try simp only [List.map_toArray,List.map_cons,List.map_nil]);first|done|rfl) ?_;(with_reducible refine (zV.calls g s0_0 x1001_1 x1002_1 5 t153 t154 t155 w0 _ ?side1 ?side2 A7.out).mono ?_);(case side1=>repeat (with_reducible first|exact HI0.out|apply ze.alloc|apply ze.drewN|apply ze.set_1|apply ze.set_2));(case side2=>repeat (with_reducible first|exact HB.out|apply zy|apply zm|refine zn ?_ (ze.ge HI0.out)));rintro e w15 ⟨rfl,hi,hb,hk⟩;refine ⟨_,rfl,?_⟩;have n0_:=zl.mk (zA.trans (by repeat (with_reducible first|exact HK.out|apply zA.set_|apply zL|apply zM)) hk (.inl rfl));have n1_:=zl.mk (hb);have n2_:=zl.mk (hi);clear HK;clear HB;clear HI0;have HK:=n0_;have HB:=n1_;have HI0:=n2_;clear n0_ n1_ n2_;(try clear hb);(try clear hb2);(try clear hk);(try clear hi))|((with_reducible refine zax (f:=102) rfl ?_);refine zc1 (some 26) rfl rfl Tryz.func102 (by kernel_rfl) rfl #[.pointer (some ⟨g,0,none⟩),.int .i64 40] rfl (by (try simp only [List.map_toArray,List.map_cons,List.map_nil]);first|done|rfl) ?_;(with_reducible refine (zV.calls g s0_0 t154 t155 40 t156 t157 t158 w0 _ ?side1 ?side2 A9.out).mono ?_);(case side1=>repeat (with_reducible first|exact HI0.out|apply ze.alloc|apply ze.drewN|apply ze.set_1|apply ze.set_2));(case side2=>repeat (with_reducible first|exact HB.out|apply zy|apply zm|refine zn ?_ (ze.ge HI0.out)));rintro e w16 ⟨rfl,hi,hb,hk⟩;refine ⟨_,rfl,?_⟩;have n0_:=zl.mk (zA.trans (by repeat (with_reducible first|exact HK.out|apply zA.set_|apply zL|apply zM)) hk (.inl rfl));have n1_:=zl.mk (hb);have n2_:=zl.mk (hi);clear HK;clear HB;clear HI0;have HK:=n0_;have HB:=n1_;have HI0:=n2_;clear n0_ n1_ n2_;(try clear hb);(try clear hb2);(try clear hk);(try clear hi))|((with_reducible refine zax (f:=177) rfl ?_);refine zc1 (some 38) rfl rfl Tryz.func177 (by kernel_rfl) rfl #[.pointer (some ⟨g,0,none⟩),.int .i64 2] rfl (by (try simp only [List.map_toArray,List.map_cons,List.map_nil]);first|done|rfl) ?_;(with_reducible refine (zaV.calls g s0_0 t157 t158 2 true t160 t161 w0 _ ?side1 ?side2 A13.out).mono ?_);(case side1=>repeat (with_reducible first|exact HI0.out|apply ze.alloc|apply ze.drewN|apply ze.set_1|apply ze.set_2));(case side2=>repeat (with_reducible first|exact HB.out|apply zy|apply zm|refine zn ?_ (ze.ge HI0.out)));rintro e w17 ⟨rfl,hi,hb,hk⟩;refine ⟨_,rfl,?_⟩;have n0_:=zl.mk (zA.trans (by repeat (with_reducible first|exact HK.out|apply zA.set_|apply zL|apply zM)) hk (.inl rfl));have n1_:=zl.mk (hb);have n2_:=zl.mk (hi);clear HK;clear HB;clear HI0;have HK:=n0_;have HB:=n1_;have HI0:=n2_;clear n0_ n1_ n2_;(try clear hb);(try clear hb2);(try clear hk);(try clear hi)))
        go_ret
        exact ⟨by first|rfl|(simp [zn3,zn2]<;>rfl)|(simp only [<- hji10,<- hji12];first|rfl|(simp [zn3,zn2]<;>rfl))|(simp [*,zn3,zn2]<;>rfl),by repeat (with_reducible first|exact HI0.out|apply ze.alloc|apply ze.drewN|apply ze.set_1|apply ze.set_2),by repeat (with_reducible first|exact HB.out|apply zy|apply zm|refine zn ?_ (ze.ge HI0.out)),by repeat (with_reducible first|exact HK.out|apply zA.set_|apply zL|apply zM)⟩
       ·replace c14:=Bool.eq_false_iff.mpr c14
        subst c14
        replace H:(some (ji12,t160,t161))=some (r1,r2,r3):=by rw [if_neg (show ¬(false=true) by decide)] at H;exact H
        simp only [Option.some.injEq,Prod.mk.injEq] at H
        obtain ⟨rfl,rfl,rfl⟩:=H
        go_wp2_with (first|((with_reducible refine zax (f:=102) rfl ?_);refine zc1 (some 21) rfl rfl Tryz.func102 (by kernel_rfl) rfl #[.pointer (some ⟨g,0,none⟩),.int .i64 5] rfl (by (try simp only [List.map_toArray,List.map_cons,List.map_nil]);first|done|rfl) ?_;(with_reducible refine (zV.calls g s0_0 x1001_1 x1002_1 5 t153 t154 t155 w0 _ ?side1 ?side2 A7.out).mono ?_);(case side1=>repeat (with_reducible first|exact HI0.out|apply ze.alloc|apply ze.drewN|apply ze.set_1|apply ze.set_2));(case side2=>repeat (with_reducible first|exact HB.out|apply zy|apply zm|refine zn ?_ (ze.ge HI0.out)));rintro e w18 ⟨rfl,hi,hb,hk⟩;refine ⟨_,rfl,?_⟩;have n0_:=zl.mk (zA.trans (by repeat (with_reducible first|exact HK.out|apply zA.set_|apply zL|apply zM)) hk (.inl rfl));have n1_:=zl.mk (hb);have n2_:=zl.mk (hi);clear HK;clear HB;clear HI0;have HK:=n0_;have HB:=n1_;have HI0:=n2_;clear n0_ n1_ n2_;(try clear hb);(try clear hb2);(try clear hk);(try clear hi))|((with_reducible refine zax (f:=102) rfl ?_);refine zc1 (some 26) rfl rfl Tryz.func102 (by kernel_rfl) rfl #[.pointer (some ⟨g,0,none⟩),.int .i64 40] rfl (by (try simp only [List.map_toArray,List.map_cons,List.map_nil]);first|done|rfl) ?_;(with_reducible refine (zV.calls g s0_0 t154 t155 40 t156 t157 t158 w0 _ ?side1 ?side2 A9.out).mono ?_);(case side1=>repeat (with_reducible first|exact HI0.out|apply ze.alloc|apply ze.drewN|apply ze.set_1|apply ze.set_2));(case side2=>repeat (with_reducible first|exact HB.out|apply zy|apply zm|refine zn ?_ (ze.ge HI0.out)));rintro e w19 ⟨rfl,hi,hb,hk⟩;refine ⟨_,rfl,?_⟩;have n0_:=zl.mk (zA.trans (by repeat (with_reducible first|exact HK.out|apply zA.set_|apply zL|apply zM)) hk (.inl rfl));have n1_:=zl.mk (hb);have n2_:=zl.mk (hi);clear HK;clear HB;clear HI0;have HK:=n0_;have HB:=n1_;have HI0:=n2_;clear n0_ n1_ n2_;(try clear hb);(try clear hb2);(try clear hk);(try clear hi))|((with_reducible refine zax (f:=177) rfl ?_);refine zc1 (some 38) rfl rfl Tryz.func177 (by kernel_rfl) rfl #[.pointer (some ⟨g,0,none⟩),.int .i64 2] rfl (by (try simp only [List.map_toArray,List.map_cons,List.map_nil]);first|done|rfl) ?_;(with_reducible refine (zaV.calls g s0_0 t157 t158 2 false t160 t161 w0 _ ?side1 ?side2 A13.out).mono ?_);(case side1=>repeat (with_reducible first|exact HI0.out|apply ze.alloc|apply ze.drewN|apply ze.set_1|apply ze.set_2));(case side2=>repeat (with_reducible first|exact HB.out|apply zy|apply zm|refine zn ?_ (ze.ge HI0.out)));rintro e w20 ⟨rfl,hi,hb,hk⟩;refine ⟨_,rfl,?_⟩;have n0_:=zl.mk (zA.trans (by repeat (with_reducible first|exact HK.out|apply zA.set_|apply zL|apply zM)) hk (.inl rfl));have n1_:=zl.mk (hb);have n2_:=zl.mk (hi);clear HK;clear HB;clear HI0;have HK:=n0_;have HB:=n1_;have HI0:=n2_;clear n0_ n1_ n2_;(try clear hb);(try clear hb2);(try clear hk);(try clear hi)))
        go_ret
        exact ⟨by first|rfl|(simp [zn3,zn2]<;>rfl)|(simp only [<- hji10,<- hji12];first|rfl|(simp [zn3,zn2]<;>rfl))|(simp [*,zn3,zn2]<;>rfl),by repeat (with_reducible first|exact HI0.out|apply ze.alloc|apply ze.drewN|apply ze.set_1|apply ze.set_2),by repeat (with_reducible first|exact HB.out|apply zy|apply zm|refine zn ?_ (ze.ge HI0.out)),by repeat (with_reducible first|exact HK.out|apply zA.set_|apply zL|apply zM)⟩
      ·rw [if_neg c11] at H
       exact absurd H (by simp)
     ·rw [if_neg c8] at H
      have c8b0:(t153==0)=false:=beq_eq_false_iff_ne.mpr c8
      have c8b1:(t153 != 0)=true:=bne_iff_ne.mpr c8
      by_cases c21:t153=1
      ·rw [if_pos c21] at H
       have c21b0:(t153==1)=true:=beq_iff_eq.mpr c21
       have c21b1:(t153 != 1)=false:=bne_eq_false_iff_eq.mpr c21
       clear c21
       obtain ⟨y162,hy162⟩:∃y_:List Int,y_=(([0,1,a1,wrap64 (Int.tdiv a1 2)]:List Int)):=⟨_,rfl⟩
       replace H:((zat.f s0_0 t154 t155 y162).bind fun bt165=>((zaV.f s0_0 bt165.2.1 bt165.2.2 2).bind fun bt168=>(if bt168.1=true then (some (wrap64 (-bt165.1),bt168.2.1,bt168.2.2)) else (some (bt165.1,bt168.2.1,bt168.2.2)))))=some (r1,r2,r3):=by first|(rw [hy162];with_reducible exact H)|(have H2_:=(Option.bind_some _ _).symm.trans H;rw [hy162];with_reducible exact H2_)|(have H2_:=(Option.bind_some _ _).symm.trans H;with_reducible exact H2_)|with_reducible exact H|(rw [hy162];exact H)|exact H
       have Ny162:=zl.mk hy162
       clear hy162
       obtain ⟨⟨t165,t166,t167⟩,A220,H⟩:=Option.bind_eq_some_iff.mp H
       replace H:((zaV.f s0_0 t166 t167 2).bind fun bt168=>(if bt168.1=true then (some (wrap64 (-t165),bt168.2.1,bt168.2.2)) else (some (t165,bt168.2.1,bt168.2.2))))=some (r1,r2,r3):=H
       have A22:=zl.mk A220
       clear A220
       obtain ⟨⟨t168,t169,t170⟩,A230,H⟩:=Option.bind_eq_some_iff.mp H
       replace H:(if t168=true then (some (wrap64 (-t165),t169,t170)) else (some (t165,t169,t170)))=some (r1,r2,r3):=H
       have A23:=zl.mk A230
       clear A230
       by_cases c24:t168=true
       ·subst c24
        replace H:(some (wrap64 (-t165),t169,t170))=some (r1,r2,r3):=by rw [if_pos rfl] at H;exact H
        simp only [Option.some.injEq,Prod.mk.injEq] at H
        obtain ⟨rfl,rfl,rfl⟩:=H
        go_wp2_with (first|((with_reducible refine zax (f:=102) rfl ?_);refine zc1 (some 21) rfl rfl Tryz.func102 (by kernel_rfl) rfl #[.pointer (some ⟨g,0,none⟩),.int .i64 5] rfl (by (try simp only [List.map_toArray,List.map_cons,List.map_nil]);first|done|rfl) ?_;(with_reducible refine (zV.calls g s0_0 x1001_1 x1002_1 5 t153 t154 t155 w0 _ ?side1 ?side2 A7.out).mono ?_);(case side1=>repeat (with_reducible first|exact HI0.out|apply ze.alloc|apply ze.drewN|apply ze.set_1|apply ze.set_2));(case side2=>repeat (with_reducible first|exact HB.out|apply zy|apply zm|refine zn ?_ (ze.ge HI0.out)));rintro e w25 ⟨rfl,hi,hb,hk⟩;refine ⟨_,rfl,?_⟩;have n0_:=zl.mk (zA.trans (by repeat (with_reducible first|exact HK.out|apply zA.set_|apply zL|apply zM)) hk (.inl rfl));have n1_:=zl.mk (hb);have n2_:=zl.mk (hi);clear HK;clear HB;clear HI0;have HK:=n0_;have HB:=n1_;have HI0:=n2_;clear n0_ n1_ n2_;(try clear hb);(try clear hb2);(try clear hk);(try clear hi))|((with_reducible refine zdE (N:=35) rfl ?_);refine Kd.zF5 (Kd.int .i64) _ 2 ?hg (N:=35) ?hd (xs:=([0,1,a1,wrap64 (Int.tdiv a1 2)]:List Int)) (inner:= [.int .i64 0,.int .i64 1,.int .i64 a1,.int .i64 (wrap64 (Int.tdiv a1 2))]) (ok:=fun _=>True) (okp:=fun _=>True) ?hr ?hp (fun _ hk=>hk) trivial (Below.refl _ _) (Nat.le_refl _) (by simp) ?_;(case hd=>rfl);(case hg=>rfl);(case hr=>first|(go_simp;done)|(go_simp;rfl));(case hp=>exact (Reps.one (show Kd.M (Kd.int .i64) _ _ _ 0 [.int .i64 0] from rfl) (Reps.one (show Kd.M (Kd.int .i64) _ _ _ 1 [.int .i64 1] from rfl) (Reps.one (show Kd.M (Kd.int .i64) _ _ _ a1 [.int .i64 a1] from rfl) (Reps.one (show Kd.M (Kd.int .i64) _ _ _ (wrap64 (Int.tdiv a1 2)) [.int .i64 (wrap64 (Int.tdiv a1 2))] from rfl) (Reps.none _ _))))));intro v163 w26 ho27 hb hg_ hnew_;clear hg_ hnew_;(first|rw [<- Ny162.out] at ho27|(simp only [Int.reduceToNat] at ho27;rw [<- Ny162.out] at ho27));have n0_:=zl.mk (Kd.zrb ho27 (zc0 (w:=w) (g:=g) (row:=none) (by repeat (with_reducible first|exact HK.out|apply zA.set_|apply zL|apply zM))));have n1_:=zl.mk (ze.below (by repeat (with_reducible first|exact HI0.out|apply ze.alloc|apply ze.drewN|apply ze.set_1|apply ze.set_2)) hb);have n2_:=zl.mk (zA.trans (by repeat (with_reducible first|exact HK.out|apply zA.set_|apply zL|apply zM)) (zA.of_below hb g none) (.inl rfl));have n3_:=zl.mk (zbQ (by repeat (with_reducible first|exact HB.out|apply zy|apply zm|refine zn ?_ (ze.ge HI0.out))) hb);clear HI0;clear HK;clear HB;have HO164:=n0_;have HI0:=n1_;have HK:=n2_;have HB:=n3_;clear n0_ n1_ n2_ n3_;clear hb ho27;obtain ⟨Ao28,co28,eo28⟩:=Kd.zs7 HO164.out;subst eo28)|((with_reducible refine zax (f:=110) rfl ?_);refine zc1 (some 36) rfl rfl Tryz.func110 (by kernel_rfl) rfl #[.pointer (some ⟨g,0,none⟩),.slice Ao28 y162.length co28] rfl (by (try simp only [List.map_toArray,List.map_cons,List.map_nil]);first|done|rfl) ?_;(with_reducible refine (zat.calls g s0_0 t154 t155 _ _ y162 t165 t166 t167 w0 _ ?side1 ?side2 ?side3 ?side4 ?side5 A22.out).mono ?_);(case side1=>repeat (with_reducible first|exact HI0.out|apply ze.alloc|apply ze.drewN|apply ze.set_1|apply ze.set_2));(case side2=>repeat (with_reducible first|exact HB.out|apply zy|apply zm|refine zn ?_ (ze.ge HI0.out)));(case side3=>repeat (first|exact (Kd.zi0 HO164.out).2.2|(with_reducible refine Kd.ztm ?_ _)|(with_reducible refine Kd.ztl ?_ _)|(with_reducible refine Kd.zyr ?_)));(case side4=>exact (Kd.zi0 HO164.out).2.1);(case side5=>exact zn1 (ze.own_ne HI0.out HO164.out (by decide)));rintro e w29 ⟨rfl,hi,hb,hk⟩;refine ⟨_,rfl,?_⟩;have n0_:=zl.mk (Kd.zpN (Kd.ztA (ze.apart (show ze w0 _ g s0_0 t154 t155 from by repeat (with_reducible first|exact HI0.out|apply ze.alloc|apply ze.drewN|apply ze.set_1|apply ze.set_2)) (by (with_reducible repeat (first|apply Kd.zoL|apply Kd.zoK|apply Kd.zr3));exact HO164.out) (by decide)) hk (fun _ h=>h.2)) (fun _ h=>h.1));have n1_:=zl.mk (zA.trans (by repeat (with_reducible first|exact HK.out|apply zA.set_|apply zL|apply zM)) hk (.inl rfl));have n2_:=zl.mk (hb);have n3_:=zl.mk (hi);clear HO164;clear HK;clear HB;clear HI0;have HO164:=n0_;have HK:=n1_;have HB:=n2_;have HI0:=n3_;clear n0_ n1_ n2_ n3_;(try clear hb);(try clear hb2);(try clear hk);(try clear hi))|((with_reducible refine zax (f:=177) rfl ?_);refine zc1 (some 38) rfl rfl Tryz.func177 (by kernel_rfl) rfl #[.pointer (some ⟨g,0,none⟩),.int .i64 2] rfl (by (try simp only [List.map_toArray,List.map_cons,List.map_nil]);first|done|rfl) ?_;(with_reducible refine (zaV.calls g s0_0 t166 t167 2 true t169 t170 w0 _ ?side1 ?side2 A23.out).mono ?_);(case side1=>repeat (with_reducible first|exact HI0.out|apply ze.alloc|apply ze.drewN|apply ze.set_1|apply ze.set_2));(case side2=>repeat (with_reducible first|exact HB.out|apply zy|apply zm|refine zn ?_ (ze.ge HI0.out)));rintro e w30 ⟨rfl,hi,hb,hk⟩;refine ⟨_,rfl,?_⟩;have n0_:=zl.mk (Kd.zpN (Kd.ztA (ze.apart (show ze w0 _ g s0_0 t166 t167 from by repeat (with_reducible first|exact HI0.out|apply ze.alloc|apply ze.drewN|apply ze.set_1|apply ze.set_2)) (by (with_reducible repeat (first|apply Kd.zoL|apply Kd.zoK|apply Kd.zr3));exact HO164.out) (by decide)) hk (fun _ h=>h.2)) (fun _ h=>h.1));have n1_:=zl.mk (zA.trans (by repeat (with_reducible first|exact HK.out|apply zA.set_|apply zL|apply zM)) hk (.inl rfl));have n2_:=zl.mk (hb);have n3_:=zl.mk (hi);clear HO164;clear HK;clear HB;clear HI0;have HO164:=n0_;have HK:=n1_;have HB:=n2_;have HI0:=n3_;clear n0_ n1_ n2_ n3_;(try clear hb);(try clear hb2);(try clear hk);(try clear hi)))
        go_ret
        exact ⟨by first|rfl|(simp [*]<;>rfl),by repeat (with_reducible first|exact HI0.out|apply ze.alloc|apply ze.drewN|apply ze.set_1|apply ze.set_2),by repeat (with_reducible first|exact HB.out|apply zy|apply zm|refine zn ?_ (ze.ge HI0.out)),by repeat (with_reducible first|exact HK.out|apply zA.set_|apply zL|apply zM)⟩
       ·replace c24:=Bool.eq_false_iff.mpr c24
        subst c24
        replace H:(some (t165,t169,t170))=some (r1,r2,r3):=by rw [if_neg (show ¬(false=true) by decide)] at H;exact H
        simp only [Option.some.injEq,Prod.mk.injEq] at H
        obtain ⟨rfl,rfl,rfl⟩:=H
        go_wp2_with (first|((with_reducible refine zax (f:=102) rfl ?_);refine zc1 (some 21) rfl rfl Tryz.func102 (by kernel_rfl) rfl #[.pointer (some ⟨g,0,none⟩),.int .i64 5] rfl (by (try simp only [List.map_toArray,List.map_cons,List.map_nil]);first|done|rfl) ?_;(with_reducible refine (zV.calls g s0_0 x1001_1 x1002_1 5 t153 t154 t155 w0 _ ?side1 ?side2 A7.out).mono ?_);(case side1=>repeat (with_reducible first|exact HI0.out|apply ze.alloc|apply ze.drewN|apply ze.set_1|apply ze.set_2));(case side2=>repeat (with_reducible first|exact HB.out|apply zy|apply zm|refine zn ?_ (ze.ge HI0.out)));rintro e w31 ⟨rfl,hi,hb,hk⟩;refine ⟨_,rfl,?_⟩;have n0_:=zl.mk (zA.trans (by repeat (with_reducible first|exact HK.out|apply zA.set_|apply zL|apply zM)) hk (.inl rfl));have n1_:=zl.mk (hb);have n2_:=zl.mk (hi);clear HK;clear HB;clear HI0;have HK:=n0_;have HB:=n1_;have HI0:=n2_;clear n0_ n1_ n2_;(try clear hb);(try clear hb2);(try clear hk);(try clear hi))|((with_reducible refine zdE (N:=35) rfl ?_);refine Kd.zF5 (Kd.int .i64) _ 2 ?hg (N:=35) ?hd (xs:=([0,1,a1,wrap64 (Int.tdiv a1 2)]:List Int)) (inner:= [.int .i64 0,.int .i64 1,.int .i64 a1,.int .i64 (wrap64 (Int.tdiv a1 2))]) (ok:=fun _=>True) (okp:=fun _=>True) ?hr ?hp (fun _ hk=>hk) trivial (Below.refl _ _) (Nat.le_refl _) (by simp) ?_;(case hd=>rfl);(case hg=>rfl);(case hr=>first|(go_simp;done)|(go_simp;rfl));(case hp=>exact (Reps.one (show Kd.M (Kd.int .i64) _ _ _ 0 [.int .i64 0] from rfl) (Reps.one (show Kd.M (Kd.int .i64) _ _ _ 1 [.int .i64 1] from rfl) (Reps.one (show Kd.M (Kd.int .i64) _ _ _ a1 [.int .i64 a1] from rfl) (Reps.one (show Kd.M (Kd.int .i64) _ _ _ (wrap64 (Int.tdiv a1 2)) [.int .i64 (wrap64 (Int.tdiv a1 2))] from rfl) (Reps.none _ _))))));intro v163 w32 ho33 hb hg_ hnew_;clear hg_ hnew_;(first|rw [<- Ny162.out] at ho33|(simp only [Int.reduceToNat] at ho33;rw [<- Ny162.out] at ho33));have n0_:=zl.mk (Kd.zrb ho33 (zc0 (w:=w) (g:=g) (row:=none) (by repeat (with_reducible first|exact HK.out|apply zA.set_|apply zL|apply zM))));have n1_:=zl.mk (ze.below (by repeat (with_reducible first|exact HI0.out|apply ze.alloc|apply ze.drewN|apply ze.set_1|apply ze.set_2)) hb);have n2_:=zl.mk (zA.trans (by repeat (with_reducible first|exact HK.out|apply zA.set_|apply zL|apply zM)) (zA.of_below hb g none) (.inl rfl));have n3_:=zl.mk (zbQ (by repeat (with_reducible first|exact HB.out|apply zy|apply zm|refine zn ?_ (ze.ge HI0.out))) hb);clear HI0;clear HK;clear HB;have HO164:=n0_;have HI0:=n1_;have HK:=n2_;have HB:=n3_;clear n0_ n1_ n2_ n3_;clear hb ho33;obtain ⟨Ao34,co34,eo34⟩:=Kd.zs7 HO164.out;subst eo34)|((with_reducible refine zax (f:=110) rfl ?_);refine zc1 (some 36) rfl rfl Tryz.func110 (by kernel_rfl) rfl #[.pointer (some ⟨g,0,none⟩),.slice Ao34 y162.length co34] rfl (by (try simp only [List.map_toArray,List.map_cons,List.map_nil]);first|done|rfl) ?_;(with_reducible refine (zat.calls g s0_0 t154 t155 _ _ y162 t165 t166 t167 w0 _ ?side1 ?side2 ?side3 ?side4 ?side5 A22.out).mono ?_);(case side1=>repeat (with_reducible first|exact HI0.out|apply ze.alloc|apply ze.drewN|apply ze.set_1|apply ze.set_2));(case side2=>repeat (with_reducible first|exact HB.out|apply zy|apply zm|refine zn ?_ (ze.ge HI0.out)));(case side3=>repeat (first|exact (Kd.zi0 HO164.out).2.2|(with_reducible refine Kd.ztm ?_ _)|(with_reducible refine Kd.ztl ?_ _)|(with_reducible refine Kd.zyr ?_)));(case side4=>exact (Kd.zi0 HO164.out).2.1);(case side5=>exact zn1 (ze.own_ne HI0.out HO164.out (by decide)));rintro e w35 ⟨rfl,hi,hb,hk⟩;refine ⟨_,rfl,?_⟩;have n0_:=zl.mk (Kd.zpN (Kd.ztA (ze.apart (show ze w0 _ g s0_0 t154 t155 from by repeat (with_reducible first|exact HI0.out|apply ze.alloc|apply ze.drewN|apply ze.set_1|apply ze.set_2)) (by (with_reducible repeat (first|apply Kd.zoL|apply Kd.zoK|apply Kd.zr3));exact HO164.out) (by decide)) hk (fun _ h=>h.2)) (fun _ h=>h.1));have n1_:=zl.mk (zA.trans (by repeat (with_reducible first|exact HK.out|apply zA.set_|apply zL|apply zM)) hk (.inl rfl));have n2_:=zl.mk (hb);have n3_:=zl.mk (hi);clear HO164;clear HK;clear HB;clear HI0;have HO164:=n0_;have HK:=n1_;have HB:=n2_;have HI0:=n3_;clear n0_ n1_ n2_ n3_;(try clear hb);(try clear hb2);(try clear hk);(try clear hi))|((with_reducible refine zax (f:=177) rfl ?_);refine zc1 (some 38) rfl rfl Tryz.func177 (by kernel_rfl) rfl #[.pointer (some ⟨g,0,none⟩),.int .i64 2] rfl (by (try simp only [List.map_toArray,List.map_cons,List.map_nil]);first|done|rfl) ?_;(with_reducible refine (zaV.calls g s0_0 t166 t167 2 false t169 t170 w0 _ ?side1 ?side2 A23.out).mono ?_);(case side1=>repeat (with_reducible first|exact HI0.out|apply ze.alloc|apply ze.drewN|apply ze.set_1|apply ze.set_2));(case side2=>repeat (with_reducible first|exact HB.out|apply zy|apply zm|refine zn ?_ (ze.ge HI0.out)));rintro e w36 ⟨rfl,hi,hb,hk⟩;refine ⟨_,rfl,?_⟩;have n0_:=zl.mk (Kd.zpN (Kd.ztA (ze.apart (show ze w0 _ g s0_0 t166 t167 from by repeat (with_reducible first|exact HI0.out|apply ze.alloc|apply ze.drewN|apply ze.set_1|apply ze.set_2)) (by (with_reducible repeat (first|apply Kd.zoL|apply Kd.zoK|apply Kd.zr3));exact HO164.out) (by decide)) hk (fun _ h=>h.2)) (fun _ h=>h.1));have n1_:=zl.mk (zA.trans (by repeat (with_reducible first|exact HK.out|apply zA.set_|apply zL|apply zM)) hk (.inl rfl));have n2_:=zl.mk (hb);have n3_:=zl.mk (hi);clear HO164;clear HK;clear HB;clear HI0;have HO164:=n0_;have HK:=n1_;have HB:=n2_;have HI0:=n3_;clear n0_ n1_ n2_ n3_;(try clear hb);(try clear hb2);(try clear hk);(try clear hi)))
        go_ret
        exact ⟨by first|rfl|(simp [*]<;>rfl),by repeat (with_reducible first|exact HI0.out|apply ze.alloc|apply ze.drewN|apply ze.set_1|apply ze.set_2),by repeat (with_reducible first|exact HB.out|apply zy|apply zm|refine zn ?_ (ze.ge HI0.out)),by repeat (with_reducible first|exact HK.out|apply zA.set_|apply zL|apply zM)⟩
      ·rw [if_neg c21] at H
       have c21b0:(t153==1)=false:=beq_eq_false_iff_ne.mpr c21
       have c21b1:(t153 != 1)=true:=bne_iff_ne.mpr c21
       obtain ⟨⟨t171,t172,t173⟩,A370,H⟩:=Option.bind_eq_some_iff.mp H
       replace H:(if t171=true then (some (wrap64 (-(Int.tmod x5_1 (wrap64 (a1+1)))),t172,t173)) else (some (Int.tmod x5_1 (wrap64 (a1+1)),t172,t173)))=some (r1,r2,r3):=H
       have A37:=zl.mk A370
       clear A370
       by_cases c38:t171=true
       ·subst c38
        replace H:(some (wrap64 (-(Int.tmod x5_1 (wrap64 (a1+1)))),t172,t173))=some (r1,r2,r3):=by rw [if_pos rfl] at H;exact H
        simp only [Option.some.injEq,Prod.mk.injEq] at H
        obtain ⟨rfl,rfl,rfl⟩:=H
        go_wp2_with (first|((with_reducible refine zax (f:=102) rfl ?_);refine zc1 (some 21) rfl rfl Tryz.func102 (by kernel_rfl) rfl #[.pointer (some ⟨g,0,none⟩),.int .i64 5] rfl (by (try simp only [List.map_toArray,List.map_cons,List.map_nil]);first|done|rfl) ?_;(with_reducible refine (zV.calls g s0_0 x1001_1 x1002_1 5 t153 t154 t155 w0 _ ?side1 ?side2 A7.out).mono ?_);(case side1=>repeat (with_reducible first|exact HI0.out|apply ze.alloc|apply ze.drewN|apply ze.set_1|apply ze.set_2));(case side2=>repeat (with_reducible first|exact HB.out|apply zy|apply zm|refine zn ?_ (ze.ge HI0.out)));rintro e w39 ⟨rfl,hi,hb,hk⟩;refine ⟨_,rfl,?_⟩;have n0_:=zl.mk (zA.trans (by repeat (with_reducible first|exact HK.out|apply zA.set_|apply zL|apply zM)) hk (.inl rfl));have n1_:=zl.mk (hb);have n2_:=zl.mk (hi);clear HK;clear HB;clear HI0;have HK:=n0_;have HB:=n1_;have HI0:=n2_;clear n0_ n1_ n2_;(try clear hb);(try clear hb2);(try clear hk);(try clear hi))|((with_reducible refine zax (f:=177) rfl ?_);refine zc1 (some 38) rfl rfl Tryz.func177 (by kernel_rfl) rfl #[.pointer (some ⟨g,0,none⟩),.int .i64 2] rfl (by (try simp only [List.map_toArray,List.map_cons,List.map_nil]);first|done|rfl) ?_;(with_reducible refine (zaV.calls g s0_0 t154 t155 2 true t172 t173 w0 _ ?side1 ?side2 A37.out).mono ?_);(case side1=>repeat (with_reducible first|exact HI0.out|apply ze.alloc|apply ze.drewN|apply ze.set_1|apply ze.set_2));(case side2=>repeat (with_reducible first|exact HB.out|apply zy|apply zm|refine zn ?_ (ze.ge HI0.out)));rintro e w40 ⟨rfl,hi,hb,hk⟩;refine ⟨_,rfl,?_⟩;have n0_:=zl.mk (zA.trans (by repeat (with_reducible first|exact HK.out|apply zA.set_|apply zL|apply zM)) hk (.inl rfl));have n1_:=zl.mk (hb);have n2_:=zl.mk (hi);clear HK;clear HB;clear HI0;have HK:=n0_;have HB:=n1_;have HI0:=n2_;clear n0_ n1_ n2_;(try clear hb);(try clear hb2);(try clear hk);(try clear hi)))
        go_ret
        exact ⟨by first|rfl|(simp [*]<;>rfl),by repeat (with_reducible first|exact HI0.out|apply ze.alloc|apply ze.drewN|apply ze.set_1|apply ze.set_2),by repeat (with_reducible first|exact HB.out|apply zy|apply zm|refine zn ?_ (ze.ge HI0.out)),by repeat (with_reducible first|exact HK.out|apply zA.set_|apply zL|apply zM)⟩
       ·replace c38:=Bool.eq_false_iff.mpr c38
        subst c38
        replace H:(some (Int.tmod x5_1 (wrap64 (a1+1)),t172,t173))=some (r1,r2,r3):=by rw [if_neg (show ¬(false=true) by decide)] at H;exact H
        simp only [Option.some.injEq,Prod.mk.injEq] at H
        obtain ⟨rfl,rfl,rfl⟩:=H
        go_wp2_with (first|((with_reducible refine zax (f:=102) rfl ?_);refine zc1 (some 21) rfl rfl Tryz.func102 (by kernel_rfl) rfl #[.pointer (some ⟨g,0,none⟩),.int .i64 5] rfl (by (try simp only [List.map_toArray,List.map_cons,List.map_nil]);first|done|rfl) ?_;(with_reducible refine (zV.calls g s0_0 x1001_1 x1002_1 5 t153 t154 t155 w0 _ ?side1 ?side2 A7.out).mono ?_);(case side1=>repeat (with_reducible first|exact HI0.out|apply ze.alloc|apply ze.drewN|apply ze.set_1|apply ze.set_2));(case side2=>repeat (with_reducible first|exact HB.out|apply zy|apply zm|refine zn ?_ (ze.ge HI0.out)));rintro e w41 ⟨rfl,hi,hb,hk⟩;refine ⟨_,rfl,?_⟩;have n0_:=zl.mk (zA.trans (by repeat (with_reducible first|exact HK.out|apply zA.set_|apply zL|apply zM)) hk (.inl rfl));have n1_:=zl.mk (hb);have n2_:=zl.mk (hi);clear HK;clear HB;clear HI0;have HK:=n0_;have HB:=n1_;have HI0:=n2_;clear n0_ n1_ n2_;(try clear hb);(try clear hb2);(try clear hk);(try clear hi))|((with_reducible refine zax (f:=177) rfl ?_);refine zc1 (some 38) rfl rfl Tryz.func177 (by kernel_rfl) rfl #[.pointer (some ⟨g,0,none⟩),.int .i64 2] rfl (by (try simp only [List.map_toArray,List.map_cons,List.map_nil]);first|done|rfl) ?_;(with_reducible refine (zaV.calls g s0_0 t154 t155 2 false t172 t173 w0 _ ?side1 ?side2 A37.out).mono ?_);(case side1=>repeat (with_reducible first|exact HI0.out|apply ze.alloc|apply ze.drewN|apply ze.set_1|apply ze.set_2));(case side2=>repeat (with_reducible first|exact HB.out|apply zy|apply zm|refine zn ?_ (ze.ge HI0.out)));rintro e w42 ⟨rfl,hi,hb,hk⟩;refine ⟨_,rfl,?_⟩;have n0_:=zl.mk (zA.trans (by repeat (with_reducible first|exact HK.out|apply zA.set_|apply zL|apply zM)) hk (.inl rfl));have n1_:=zl.mk (hb);have n2_:=zl.mk (hi);clear HK;clear HB;clear HI0;have HK:=n0_;have HB:=n1_;have HI0:=n2_;clear n0_ n1_ n2_;(try clear hb);(try clear hb2);(try clear hk);(try clear hi)))
        go_ret
        exact ⟨by first|rfl|(simp [*]<;>rfl),by repeat (with_reducible first|exact HI0.out|apply ze.alloc|apply ze.drewN|apply ze.set_1|apply ze.set_2),by repeat (with_reducible first|exact HB.out|apply zy|apply zm|refine zn ?_ (ze.ge HI0.out)),by repeat (with_reducible first|exact HK.out|apply zA.set_|apply zL|apply zM)⟩
end Go.Proofs.YtaoakfodkoifoaaGreat.PFnOmega
