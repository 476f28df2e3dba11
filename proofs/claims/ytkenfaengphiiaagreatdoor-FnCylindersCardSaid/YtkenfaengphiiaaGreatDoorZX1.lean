/- The law FnCylinders gives true, whatever bytes come in, where the listed tables hold what the program's text lays. The card: the tables tied to the text. No other conditions. (One of the texts of its proof, put together by a program of this session.) -/
import Derived.Test.YtkenfaengphiiaaGreatDoorZX0
set_option linter.unusedSectionVars false
set_option linter.unusedSimpArgs false
set_option linter.unusedVariables false
namespace Go.Proofs.YtkenfaengphiiaaGreatDoor.PFnCylinders
open Go.RowKit Go.Proofs.YtkenfaengphiiaaGreatDoorW.PrintWords Go.Proofs.YtkenfaengphiiaaGreatDoorW.PrintLast Go.Proofs.YtkenfaengphiiaaGreatDoorW.PrintMore
def zj5.f (l0:List Int) (l1:List Int):Option (Bool):=if (l0.length:Int)>3000 then (some true) else (some (decide ((l1.length:Int)>3000)))
set_option maxHeartbeats 8000000 in
set_option maxRecDepth 100000 in
theorem zj5.calls (A0:Option Addr) (c0:Nat) (l0:List Int) (A1:Option Addr) (c1:Nat) (l1:List Int) (r:Bool) (w:World) (hr0:Kd.C (Kd.int .u8) w A0 l0.length l0) (hc0:l0.length<=c0) (hr1:Kd.C (Kd.int .u8) w A1 l1.length l1) (hc1:l1.length<=c1) (h:zj5.f l0 l1=some r):
  Calls Tryz.prog 4 #[.slice A0 l0.length c0,.slice A1 l1.length c1] w fun e w'=>e= .returned (.bool r)/\zcv w w':=by
 have HR0:=za.mk hr0
 have HC0:=za.mk hc0
 clear hr0 hc0
 have HR1:=za.mk hr1
 have HC1:=za.mk hc1
 clear hr1 hc1
 have H:(if (l0.length:Int)>3000 then (some true) else (some (decide ((l1.length:Int)>3000))))=some r:=h
 clear h
 by_cases c3:(l0.length:Int)>3000
 ·rw [if_pos c3] at H
  have c3b0:decide (3000<(l0.length:Int))=true:=decide_eq_true c3
  have c3b1:decide (3000<l0.length)=true:=decide_eq_true (by omega)
  clear c3
  obtain rfl:=Option.some.inj H
  go_enter Tryz.func4,Tryz.ntmps4
  go_wp2
  go_ret
  exact ⟨by first|rfl|(simp;done)|(simp [*];done),by repeat (first|exact zcv.refl _|apply zcv.step)⟩
 ·rw [if_neg c3] at H
  have c3b0:decide (3000<(l0.length:Int))=false:=decide_eq_false c3
  have c3b1:decide (3000<l0.length)=false:=decide_eq_false (by omega)
  clear c3
  obtain rfl:=Option.some.inj H
  go_enter Tryz.func4,Tryz.ntmps4
  go_wp2
  go_ret
  exact ⟨by first|rfl|(simp;done)|(simp [*];done),by repeat (first|exact zcv.refl _|apply zcv.step)⟩
def zf (w0 W:World) (g:Nat) (f0:List Int) (f1:Int) (f2:Int):Prop:=∃A0 c0,W.heap[g]?=some (.cells #[.slice A0 f0.length c0,.int .i64 f1,.int .u64 f2] 78 (0,0))/\w0.heap.size<=g/\Kd.C (Kd.int .u8) w0 A0 f0.length f0
theorem zf.grown {w0 W:World} {g:Nat} {f0:List Int} {f1:Int} {f2:Int} {W1:World} {row:Option Nat} (h:zf w0 W g f0 f1 f2) (hw:W.grownBy W1 row) (hne:some g≠row):zf w0 W1 g f0 f1 f2:=by
 obtain ⟨A0,c0,hb,hg,hr0⟩:=h
 exact ⟨A0,c0,zDV hb hw hne,hg,hr0⟩
theorem zf.below {w0 W:World} {g:Nat} {f0:List Int} {f1:Int} {f2:Int} {W1:World} (h:zf w0 W g f0 f1 f2) (hw:Below W.heap.size W W1):zf w0 W1 g f0 f1 f2:=h.grown (ztA hw none) (by simp)
theorem zf.alloc {w0 W:World} {g:Nat} {f0:List Int} {f1:Int} {f2:Int} (h:zf w0 W g f0 f1 f2) (o:Obj):zf w0 (W.alloc o) g f0 f1 f2:=h.below (zm (Below.refl _ _) o)
theorem zf.drewN {w0 W:World} {g:Nat} {f0:List Int} {f1:Int} {f2:Int} (h:zf w0 W g f0 f1 f2) (m:Nat):zf w0 (W.drewN m) g f0 f1 f2:=h
theorem zf.drew {w0 W:World} {g:Nat} {f0:List Int} {f1:Int} {f2:Int} (h:zf w0 W g f0 f1 f2):zf w0 W.drew g f0 f1 f2:=h
theorem zf.apart {w0 W:World} {g:Nat} {f0:List Int} {f1:Int} {f2:Int} {α:Type} {d:Kd α} {e:Nat} {base:Nat} {ok:Nat->Prop} {v:Value} {xs:List α} (h:zf w0 W g f0 f1 f2) (ho:d.R e W base ok v xs) (ht:∀q,q∈e::d.E->q≠78):d.R e W base (fun k=>ok k/\k≠g) v xs:=by
 obtain ⟨A0,c0,hb,hg,hr0⟩:=h
 exact Kd.zIi ho hb ht
theorem zf.own_ne {w0 W:World} {g:Nat} {f0:List Int} {f1:Int} {f2:Int} {α:Type} {d:Kd α} {e:Nat} {base:Nat} {ok:Nat->Prop} {v:Value} {xs:List α} (h:zf w0 W g f0 f1 f2) (ho:d.R e W base ok v xs) (ht:e≠78):some g≠v.ownBlock:=by
 obtain ⟨A0,c0,hb,hg,hr0⟩:=h
 exact Kd.R_ne ho hb ht
theorem zf.lt {w0 W:World} {g:Nat} {f0:List Int} {f1:Int} {f2:Int} (h:zf w0 W g f0 f1 f2):g<W.heap.size:=by
 obtain ⟨A0,c0,hb,hg,hr0⟩:=h
 exact zco hb
theorem zf.ge {w0 W:World} {g:Nat} {f0:List Int} {f1:Int} {f2:Int} (h:zf w0 W g f0 f1 f2):w0.heap.size<=g:=by
 obtain ⟨A0,c0,hb,hg,hr0⟩:=h
 exact hg
theorem zf.ne_blk {w0 W:World} {g:Nat} {f0:List Int} {f1:Int} {f2:Int} {a:Nat} {cs:Array Value} {t:TypeId} {fr:Nat×Nat} (h:zf w0 W g f0 f1 f2) (hb2:W.heap[a]?=some (.cells cs t fr)) (ht:t≠78):g≠a:=by
 obtain ⟨A0,c0,hb,hg,hr0⟩:=h
 rintro rfl
 rw [hb] at hb2
 injection hb2 with hb2
 injection hb2 with _ ht2
 exact ht ht2.symm
theorem zf.far {w0 W:World} {g:Nat} {f0:List Int} {f1:Int} {f2:Int} {p:Addr} (h:zf w0 W g f0 f1 f2) (hne:g≠p.block) (u:Value):zf w0 (W.setCell p u) g f0 f1 f2:=by
 obtain ⟨A0,c0,hb,hg,hr0⟩:=h
 exact ⟨A0,c0,zal hb hne u,hg,hr0⟩
theorem zoJ {W:World} {g:Nat} {A0:Option Addr} {c0:Nat} {f0:List Int} {f1:Int} {f2:Int} (h:W.heap[g]?=some (.cells #[.slice A0 f0.length c0,.int .i64 f1,.int .u64 f2] 78 (0,0))):W.cell? ⟨g,0,none⟩=some (.slice A0 f0.length c0):=(zq h 0).trans rfl
theorem zoI {W:World} {g:Nat} {A0:Option Addr} {c0:Nat} {f0:List Int} {f1:Int} {f2:Int} (h:W.heap[g]?=some (.cells #[.slice A0 f0.length c0,.int .i64 f1,.int .u64 f2] 78 (0,0))):W.cell? ⟨g,1,none⟩=some (.int .i64 f1):=(zq h 1).trans rfl
theorem zf.set_1 {w0 W:World} {g:Nat} {f0:List Int} {f1:Int} {f2:Int} (h:zf w0 W g f0 f1 f2) (x:Int):zf w0 (W.setCell ⟨g,1,none⟩ (.int .i64 x)) g f0 x f2:=by
 obtain ⟨A0,c0,hb,hg,hr0⟩:=h
 exact ⟨A0,c0,by simpa using zzm hb 1 (.int .i64 x),hg,hr0⟩
theorem zoH {W:World} {g:Nat} {A0:Option Addr} {c0:Nat} {f0:List Int} {f1:Int} {f2:Int} (h:W.heap[g]?=some (.cells #[.slice A0 f0.length c0,.int .i64 f1,.int .u64 f2] 78 (0,0))):W.cell? ⟨g,2,none⟩=some (.int .u64 f2):=(zq h 2).trans rfl
theorem zf.set_2 {w0 W:World} {g:Nat} {f0:List Int} {f1:Int} {f2:Int} (h:zf w0 W g f0 f1 f2) (x:Int):zf w0 (W.setCell ⟨g,2,none⟩ (.int .u64 x)) g f0 f1 x:=by
 obtain ⟨A0,c0,hb,hg,hr0⟩:=h
 exact ⟨A0,c0,by simpa using zzm hb 2 (.int .u64 x),hg,hr0⟩
def zho.f (l0:List Int):Option (List Int×Int×Int):=some (l0,0,0)
set_option maxHeartbeats 8000000 in
set_option maxRecDepth 100000 in
theorem zho.calls (A0:Option Addr) (c0:Nat) (l0:List Int) (r1:List Int) (r2:Int) (r3:Int) (w0 w:World) (hB:Below w0.heap.size w0 w) (hr0:Kd.C (Kd.int .u8) w0 A0 l0.length l0) (hc0:l0.length<=c0) (h:zho.f l0=some (r1,r2,r3)):
  Calls Tryz.prog 17 #[.slice A0 l0.length c0] w fun e w'=>∃g_:Nat,e= .returned (.pointer (some ⟨g_,0,none⟩))/\zf w0 w' g_ r1 r2 r3/\Below w0.heap.size w0 w'/\Below w.heap.size w w':=by
 have hu78:=Tryz.underlying78
 have HR0:=za.mk hr0
 have HC0:=za.mk hc0
 clear hr0 hc0
 have HBW:=za.mk (Below.refl w.heap.size w)
 have HW0:=za.mk hB.size
 have HB:=za.mk hB
 clear hB
 have H:(some (l0,0,0))=some (r1,r2,r3):=h
 clear h
 simp only [Option.some.injEq,Prod.mk.injEq] at H
 obtain ⟨rfl,rfl,rfl⟩:=H
 go_enter Tryz.func17,Tryz.ntmps17
 go_wp2_with (first|((with_reducible refine zbw (N:=5) rfl ?_);refine zbz ?hg (N:=5) ?hd (cs:=#[.slice A0 l0.length c0,.int .i64 0,.int .u64 0]) (t:=78) ?hr ?_;(case hd=>rfl);(case hg=>rfl);(case hr=>first|(go_simp;done)|(go_simp;rfl));intro gb101 hg w2 hbox hb;have n0_:=za.mk (zaF HBW.out hb);have n1_:=za.mk (zaF (by repeat (with_reducible first|exact HB.out|apply zm|apply zk|apply zbL)) hb);have n2_:=za.mk (hbox);have n3_:=za.mk ((by rw [hg];exact (zcc (by repeat (with_reducible first|exact HBW.out|apply zm|apply zk|apply zbL))):w.heap.size<=gb101));have n4_:=za.mk ((Nat.le_trans HW0.out (by rw [hg];exact (zcc (by repeat (with_reducible first|exact HBW.out|apply zm|apply zk|apply zbL))):w.heap.size<=gb101):w0.heap.size<=gb101));clear HBW;clear HB;have HBW:=n0_;have HB:=n1_;have BK101:=n2_;have GW101:=n3_;have GE101:=n4_;clear n0_ n1_ n2_ n3_ n4_;clear hb hbox hg))
 go_ret
 exact ⟨_,rfl,(show zf w0 _ gb101 l0 0 0 from ⟨_,_,by exact BK101.out,GE101.out,HR0.out⟩),by repeat (with_reducible first|exact HB.out|apply zm|apply zk|refine zh ?_ GE101.out),by repeat (with_reducible first|exact HBW.out|apply zm|apply zk|refine zh ?_ GW101.out)⟩
def za9.f (s0_0:List Int) (s0_1:Int) (s0_2:Int):Option (Int×Int×Int):=if s0_1<(s0_0.length:Int) then (if 0<=s0_1 then (if (wrap64 (s0_1+1))<=(s0_0.length:Int) then (some (wrap64 (rd s0_0 s0_1),wrap64 (s0_1+1),IntKind.u64.wrap ((IntKind.u64.wrap ((IntKind.u64.wrap (s0_2*6364136223846793005))+(IntKind.u64.wrap (wrap64 (rd s0_0 s0_1)))))+1442695040888963407))) else (some (wrap64 (Go.bits .and .u64 ((IntKind.u64.wrap ((IntKind.u64.wrap ((IntKind.u64.wrap (s0_2*6364136223846793005))+(IntKind.u64.wrap (wrap64 (rd s0_0 s0_1)))))+1442695040888963407))/1099511627776) 255),wrap64 (s0_1+1),IntKind.u64.wrap ((IntKind.u64.wrap ((IntKind.u64.wrap (s0_2*6364136223846793005))+(IntKind.u64.wrap (wrap64 (rd s0_0 s0_1)))))+1442695040888963407)))) else (none)) else (if (wrap64 (s0_1+1))<=(s0_0.length:Int) then (some (0,wrap64 (s0_1+1),IntKind.u64.wrap ((IntKind.u64.wrap (IntKind.u64.wrap (s0_2*6364136223846793005)))+1442695040888963407))) else (some (wrap64 (Go.bits .and .u64 ((IntKind.u64.wrap ((IntKind.u64.wrap (IntKind.u64.wrap (s0_2*6364136223846793005)))+1442695040888963407))/1099511627776) 255),wrap64 (s0_1+1),IntKind.u64.wrap ((IntKind.u64.wrap (IntKind.u64.wrap (s0_2*6364136223846793005)))+1442695040888963407))))
set_option maxHeartbeats 8000000 in
set_option maxRecDepth 100000 in
theorem za9.calls (g:Nat) (s0_0:List Int) (s0_1:Int) (s0_2:Int) (r1:Int) (r2:Int) (r3:Int) (w0 w:World) (hI:zf w0 w g s0_0 s0_1 s0_2) (hB:Below w0.heap.size w0 w) (h:za9.f s0_0 s0_1 s0_2=some (r1,r2,r3)):
  Calls Tryz.prog 63 #[.pointer (some ⟨g,0,none⟩)] w fun e w'=>e= .returned (.int .i64 r1)/\zf w0 w' g s0_0 r2 r3/\Below w0.heap.size w0 w'/\zl w w' g none:=by
 have HI0:=za.mk hI
 have HK:=za.mk (zl.refl w g none)
 have HL:=za.mk hB.size
 clear hI
 have HW0:=za.mk hB.size
 have HB:=za.mk hB
 clear hB
 have H:(if s0_1<(s0_0.length:Int) then (if 0<=s0_1 then (if (wrap64 (s0_1+1))<=(s0_0.length:Int) then (some (wrap64 (rd s0_0 s0_1),wrap64 (s0_1+1),IntKind.u64.wrap ((IntKind.u64.wrap ((IntKind.u64.wrap (s0_2*6364136223846793005))+(IntKind.u64.wrap (wrap64 (rd s0_0 s0_1)))))+1442695040888963407))) else (some (wrap64 (Go.bits .and .u64 ((IntKind.u64.wrap ((IntKind.u64.wrap ((IntKind.u64.wrap (s0_2*6364136223846793005))+(IntKind.u64.wrap (wrap64 (rd s0_0 s0_1)))))+1442695040888963407))/1099511627776) 255),wrap64 (s0_1+1),IntKind.u64.wrap ((IntKind.u64.wrap ((IntKind.u64.wrap (s0_2*6364136223846793005))+(IntKind.u64.wrap (wrap64 (rd s0_0 s0_1)))))+1442695040888963407)))) else (none)) else (if (wrap64 (s0_1+1))<=(s0_0.length:Int) then (some (0,wrap64 (s0_1+1),IntKind.u64.wrap ((IntKind.u64.wrap (IntKind.u64.wrap (s0_2*6364136223846793005)))+1442695040888963407))) else (some (wrap64 (Go.bits .and .u64 ((IntKind.u64.wrap ((IntKind.u64.wrap (IntKind.u64.wrap (s0_2*6364136223846793005)))+1442695040888963407))/1099511627776) 255),wrap64 (s0_1+1),IntKind.u64.wrap ((IntKind.u64.wrap (IntKind.u64.wrap (s0_2*6364136223846793005)))+1442695040888963407)))))=some (r1,r2,r3):=h
 clear h
 by_cases c2:s0_1<(s0_0.length:Int)
 ·rw [if_pos c2] at H
  have c2b0:decide (s0_1<(s0_0.length:Int))=true:=decide_eq_true c2
  clear c2
  by_cases c3:0<=s0_1
  ·rw [if_pos c3] at H
   have c3b0:decide (0<=s0_1)=true:=decide_eq_true c3
   clear c3
   by_cases c4:(wrap64 (s0_1+1))<=(s0_0.length:Int)
   ·rw [if_pos c4] at H
    have c4b0:decide ((wrap64 (s0_1+1))<=(s0_0.length:Int))=true:=decide_eq_true c4
    clear c4
    simp only [Option.some.injEq,Prod.mk.injEq] at H
    obtain ⟨rfl,rfl,rfl⟩:=H
    obtain ⟨ASz5_0,cSz5_0,HGz5,hgz5,HSz5_0⟩:=HI0.out
    have hcz5_0:=zoJ HGz5
    have hcz5_1:=zoI HGz5
    have hcz5_2:=zoH HGz5
    have hfz5_1:=zn HGz5 1
    have hfz5_2:=zn HGz5 2
    clear HGz5 hgz5
    have p102:0<=(s0_1:Int):=of_decide_eq_true (by first|(with_reducible assumption)|assumption)
    have q102:s0_1<(s0_0.length:Int):=of_decide_eq_true (by first|(with_reducible assumption)|assumption)
    obtain ⟨ad102,e102,hx102_0⟩:=Kd.zD3 HSz5_0 s0_1 p102 q102
    cases e102
    replace hx102_0:=zlS HB.out hx102_0
    replace p102:=eq_true p102
    replace q102:=eq_true q102
    go_enter Tryz.func63,Tryz.ntmps63
    go_wp2
    repeat (go_quiet (fail);try go_wp2)
    go_ret
    exact ⟨by first|rfl|(simp [*]<;>rfl),by repeat (with_reducible first|exact HI0.out|apply zf.alloc|apply zf.drewN|apply zf.set_1|apply zf.set_2),by repeat (with_reducible first|exact HB.out|apply zm|apply zk|refine zh ?_ (zf.ge HI0.out)),by repeat (with_reducible first|exact HK.out|apply zl.set_|apply zu|apply zw)⟩
   ·rw [if_neg c4] at H
    have c4b0:decide ((wrap64 (s0_1+1))<=(s0_0.length:Int))=false:=decide_eq_false c4
    clear c4
    simp only [Option.some.injEq,Prod.mk.injEq] at H
    obtain ⟨rfl,rfl,rfl⟩:=H
    obtain ⟨ASz6_0,cSz6_0,HGz6,hgz6,HSz6_0⟩:=HI0.out
    have hcz6_0:=zoJ HGz6
    have hcz6_1:=zoI HGz6
    have hcz6_2:=zoH HGz6
    have hfz6_1:=zn HGz6 1
    have hfz6_2:=zn HGz6 2
    clear HGz6 hgz6
    have p102:0<=(s0_1:Int):=of_decide_eq_true (by first|(with_reducible assumption)|assumption)
    have q102:s0_1<(s0_0.length:Int):=of_decide_eq_true (by first|(with_reducible assumption)|assumption)
    obtain ⟨ad102,e102,hx102_0⟩:=Kd.zD3 HSz6_0 s0_1 p102 q102
    cases e102
    replace hx102_0:=zlS HB.out hx102_0
    replace p102:=eq_true p102
    replace q102:=eq_true q102
    go_enter Tryz.func63,Tryz.ntmps63
    go_wp2
    repeat (go_quiet (fail);try go_wp2)
    go_ret
    exact ⟨by first|rfl|(simp [*]<;>rfl),by repeat (with_reducible first|exact HI0.out|apply zf.alloc|apply zf.drewN|apply zf.set_1|apply zf.set_2),by repeat (with_reducible first|exact HB.out|apply zm|apply zk|refine zh ?_ (zf.ge HI0.out)),by repeat (with_reducible first|exact HK.out|apply zl.set_|apply zu|apply zw)⟩
  ·rw [if_neg c3] at H
   exact absurd H (by simp)
 ·rw [if_neg c2] at H
  have c2b0:decide (s0_1<(s0_0.length:Int))=false:=decide_eq_false c2
  clear c2
  by_cases c7:(wrap64 (s0_1+1))<=(s0_0.length:Int)
  ·rw [if_pos c7] at H
   have c7b0:decide ((wrap64 (s0_1+1))<=(s0_0.length:Int))=true:=decide_eq_true c7
   clear c7
   simp only [Option.some.injEq,Prod.mk.injEq] at H
   obtain ⟨rfl,rfl,rfl⟩:=H
   obtain ⟨ASz8_0,cSz8_0,HGz8,hgz8,HSz8_0⟩:=HI0.out
   have hcz8_0:=zoJ HGz8
   have hcz8_1:=zoI HGz8
   have hcz8_2:=zoH HGz8
   have hfz8_1:=zn HGz8 1
   have hfz8_2:=zn HGz8 2
   clear HGz8 hgz8
   go_enter Tryz.func63,Tryz.ntmps63
   go_wp2
   repeat (go_quiet (fail);try go_wp2)
   go_ret
   exact ⟨by first|rfl|(simp [*]<;>rfl),by repeat (with_reducible first|exact HI0.out|apply zf.alloc|apply zf.drewN|apply zf.set_1|apply zf.set_2),by repeat (with_reducible first|exact HB.out|apply zm|apply zk|refine zh ?_ (zf.ge HI0.out)),by repeat (with_reducible first|exact HK.out|apply zl.set_|apply zu|apply zw)⟩
  ·rw [if_neg c7] at H
   have c7b0:decide ((wrap64 (s0_1+1))<=(s0_0.length:Int))=false:=decide_eq_false c7
   clear c7
   simp only [Option.some.injEq,Prod.mk.injEq] at H
   obtain ⟨rfl,rfl,rfl⟩:=H
   obtain ⟨ASz9_0,cSz9_0,HGz9,hgz9,HSz9_0⟩:=HI0.out
   have hcz9_0:=zoJ HGz9
   have hcz9_1:=zoI HGz9
   have hcz9_2:=zoH HGz9
   have hfz9_1:=zn HGz9 1
   have hfz9_2:=zn HGz9 2
   clear HGz9 hgz9
   go_enter Tryz.func63,Tryz.ntmps63
   go_wp2
   repeat (go_quiet (fail);try go_wp2)
   go_ret
   exact ⟨by first|rfl|(simp [*]<;>rfl),by repeat (with_reducible first|exact HI0.out|apply zf.alloc|apply zf.drewN|apply zf.set_1|apply zf.set_2),by repeat (with_reducible first|exact HB.out|apply zm|apply zk|refine zh ?_ (zf.ge HI0.out)),by repeat (with_reducible first|exact HK.out|apply zl.set_|apply zu|apply zw)⟩
def zJ.f (s0_0:List Int) (s0_1:Int) (s0_2:Int) (a1:Int):Option (Int×Int×Int):=if a1<=1 then (some (0,s0_1,s0_2)) else ((za9.f s0_0 s0_1 s0_2).bind fun bt103=>(if a1>200 then ((za9.f s0_0 bt103.2.1 bt103.2.2).bind fun bt106=>(if a1=0 then (none) else (some (Int.tmod (wrap64 ((wrap64 (bt103.1*256))+bt106.1)) a1,bt106.2.1,bt106.2.2)))) else (if a1=0 then (none) else (some (Int.tmod bt103.1 a1,bt103.2.1,bt103.2.2)))))
set_option maxHeartbeats 8000000 in
set_option maxRecDepth 100000 in
theorem zJ.calls (g:Nat) (s0_0:List Int) (s0_1:Int) (s0_2:Int) (a1:Int) (r1:Int) (r2:Int) (r3:Int) (w0 w:World) (hI:zf w0 w g s0_0 s0_1 s0_2) (hB:Below w0.heap.size w0 w) (h:zJ.f s0_0 s0_1 s0_2 a1=some (r1,r2,r3)):
  Calls Tryz.prog 19 #[.pointer (some ⟨g,0,none⟩),.int .i64 a1] w fun e w'=>e= .returned (.int .i64 r1)/\zf w0 w' g s0_0 r2 r3/\Below w0.heap.size w0 w'/\zl w w' g none:=by
 have HI0:=za.mk hI
 have HK:=za.mk (zl.refl w g none)
 have HL:=za.mk hB.size
 clear hI
 have HW0:=za.mk hB.size
 have HB:=za.mk hB
 clear hB
 have H:(if a1<=1 then (some (0,s0_1,s0_2)) else ((za9.f s0_0 s0_1 s0_2).bind fun bt103=>(if a1>200 then ((za9.f s0_0 bt103.2.1 bt103.2.2).bind fun bt106=>(if a1=0 then (none) else (some (Int.tmod (wrap64 ((wrap64 (bt103.1*256))+bt106.1)) a1,bt106.2.1,bt106.2.2)))) else (if a1=0 then (none) else (some (Int.tmod bt103.1 a1,bt103.2.1,bt103.2.2))))))=some (r1,r2,r3):=h
 clear h
 by_cases c3:a1<=1
 ·rw [if_pos c3] at H
  have c3b0:decide (a1<=1)=true:=decide_eq_true c3
  clear c3
  simp only [Option.some.injEq,Prod.mk.injEq] at H
  obtain ⟨rfl,rfl,rfl⟩:=H
  go_enter Tryz.func19,Tryz.ntmps19
  go_wp2
  go_ret
  exact ⟨by first|rfl|(simp [*]<;>rfl),by repeat (with_reducible first|exact HI0.out|apply zf.alloc|apply zf.drewN|apply zf.set_1|apply zf.set_2),by repeat (with_reducible first|exact HB.out|apply zm|apply zk|refine zh ?_ (zf.ge HI0.out)),by repeat (with_reducible first|exact HK.out|apply zl.set_|apply zu|apply zw)⟩
 ·rw [if_neg c3] at H
  have c3b0:decide (a1<=1)=false:=decide_eq_false c3
  clear c3
  obtain ⟨⟨t103,t104,t105⟩,A40,H⟩:=Option.bind_eq_some_iff.mp H
  replace H:(if a1>200 then ((za9.f s0_0 t104 t105).bind fun bt106=>(if a1=0 then (none) else (some (Int.tmod (wrap64 ((wrap64 (t103*256))+bt106.1)) a1,bt106.2.1,bt106.2.2)))) else (if a1=0 then (none) else (some (Int.tmod t103 a1,t104,t105))))=some (r1,r2,r3):=H
  have A4:=za.mk A40
  clear A40
  by_cases c5:a1>200
  ·rw [if_pos c5] at H
   have c5b0:decide (200<a1)=true:=decide_eq_true c5
   clear c5
   obtain ⟨⟨t106,t107,t108⟩,A60,H⟩:=Option.bind_eq_some_iff.mp H
   replace H:(if a1=0 then (none) else (some (Int.tmod (wrap64 ((wrap64 (t103*256))+t106)) a1,t107,t108)))=some (r1,r2,r3):=H
   have A6:=za.mk A60
   clear A60
   by_cases c7:a1=0
   ·rw [if_pos c7] at H
    exact absurd H (by simp)
   ·rw [if_neg c7] at H
    have c7b0:(a1==0)=false:=beq_eq_false_iff_ne.mpr c7
    have c7b1:(a1 != 0)=true:=bne_iff_ne.mpr c7
    simp only [Option.some.injEq,Prod.mk.injEq] at H
    obtain ⟨rfl,rfl,rfl⟩:=H
    go_enter Tryz.func19,Tryz.ntmps19
    go_wp2_with (first|((with_reducible refine zQ (f:=63) rfl ?_);refine zaZ (some 9) rfl rfl Tryz.func63 (by kernel_rfl) rfl #[.pointer (some ⟨g,0,none⟩)] rfl (by (try simp only [List.map_toArray,List.map_cons,List.map_nil]);first|done|rfl) ?_;(with_reducible refine (za9.calls g s0_0 s0_1 s0_2 t103 t104 t105 w0 _ ?side1 ?side2 A4.out).mono ?_);(case side1=>repeat (with_reducible first|exact HI0.out|apply zf.alloc|apply zf.drewN|apply zf.set_1|apply zf.set_2));(case side2=>repeat (with_reducible first|exact HB.out|apply zm|apply zk|refine zh ?_ (zf.ge HI0.out)));rintro e w8 ⟨rfl,hi,hb,hk⟩;refine ⟨_,rfl,?_⟩;have n0_:=za.mk (zl.trans (by repeat (with_reducible first|exact HK.out|apply zl.set_|apply zu|apply zw)) hk (.inl rfl));have n1_:=za.mk (hb);have n2_:=za.mk (hi);clear HK;clear HB;clear HI0;have HK:=n0_;have HB:=n1_;have HI0:=n2_;clear n0_ n1_ n2_;(try clear hb);(try clear hb2);(try clear hk);(try clear hi))|((with_reducible refine zQ (f:=63) rfl ?_);refine zaZ (some 15) rfl rfl Tryz.func63 (by kernel_rfl) rfl #[.pointer (some ⟨g,0,none⟩)] rfl (by (try simp only [List.map_toArray,List.map_cons,List.map_nil]);first|done|rfl) ?_;(with_reducible refine (za9.calls g s0_0 t104 t105 t106 t107 t108 w0 _ ?side1 ?side2 A6.out).mono ?_);(case side1=>repeat (with_reducible first|exact HI0.out|apply zf.alloc|apply zf.drewN|apply zf.set_1|apply zf.set_2));(case side2=>repeat (with_reducible first|exact HB.out|apply zm|apply zk|refine zh ?_ (zf.ge HI0.out)));rintro e w9 ⟨rfl,hi,hb,hk⟩;refine ⟨_,rfl,?_⟩;have n0_:=za.mk (zl.trans (by repeat (with_reducible first|exact HK.out|apply zl.set_|apply zu|apply zw)) hk (.inl rfl));have n1_:=za.mk (hb);have n2_:=za.mk (hi);clear HK;clear HB;clear HI0;have HK:=n0_;have HB:=n1_;have HI0:=n2_;clear n0_ n1_ n2_;(try clear hb);(try clear hb2);(try clear hk);(try clear hi)))
    go_ret
    exact ⟨by first|rfl|(simp [*]<;>rfl),by repeat (with_reducible first|exact HI0.out|apply zf.alloc|apply zf.drewN|apply zf.set_1|apply zf.set_2),by repeat (with_reducible first|exact HB.out|apply zm|apply zk|refine zh ?_ (zf.ge HI0.out)),by repeat (with_reducible first|exact HK.out|apply zl.set_|apply zu|apply zw)⟩
  ·rw [if_neg c5] at H
   have c5b0:decide (200<a1)=false:=decide_eq_false c5
   clear c5
   by_cases c10:a1=0
   ·rw [if_pos c10] at H
    exact absurd H (by simp)
   ·rw [if_neg c10] at H
    have c10b0:(a1==0)=false:=beq_eq_false_iff_ne.mpr c10
    have c10b1:(a1 != 0)=true:=bne_iff_ne.mpr c10
    simp only [Option.some.injEq,Prod.mk.injEq] at H
    obtain ⟨rfl,rfl,rfl⟩:=H
    go_enter Tryz.func19,Tryz.ntmps19
    go_wp2_with (first|((with_reducible refine zQ (f:=63) rfl ?_);refine zaZ (some 9) rfl rfl Tryz.func63 (by kernel_rfl) rfl #[.pointer (some ⟨g,0,none⟩)] rfl (by (try simp only [List.map_toArray,List.map_cons,List.map_nil]);first|done|rfl) ?_;(with_reducible refine (za9.calls g s0_0 s0_1 s0_2 t103 t104 t105 w0 _ ?side1 ?side2 A4.out).mono ?_);(case side1=>repeat (with_reducible first|exact HI0.out|apply zf.alloc|apply zf.drewN|apply zf.set_1|apply zf.set_2));(case side2=>repeat (with_reducible first|exact HB.out|apply zm|apply zk|refine zh ?_ (zf.ge HI0.out)));rintro e w11 ⟨rfl,hi,hb,hk⟩;refine ⟨_,rfl,?_⟩;have n0_:=za.mk (zl.trans (by repeat (with_reducible first|exact HK.out|apply zl.set_|apply zu|apply zw)) hk (.inl rfl));have n1_:=za.mk (hb);have n2_:=za.mk (hi);clear HK;clear HB;clear HI0;have HK:=n0_;have HB:=n1_;have HI0:=n2_;clear n0_ n1_ n2_;(try clear hb);(try clear hb2);(try clear hk);(try clear hi)))
    go_ret
    exact ⟨by first|rfl|(simp [*]<;>rfl),by repeat (with_reducible first|exact HI0.out|apply zf.alloc|apply zf.drewN|apply zf.set_1|apply zf.set_2),by repeat (with_reducible first|exact HB.out|apply zm|apply zk|refine zh ?_ (zf.ge HI0.out)),by repeat (with_reducible first|exact HK.out|apply zl.set_|apply zu|apply zw)⟩
def zbi.f (a0:Int):Option (Int):=if (Int.tmod a0 3600000000)>1800000000 then (if (wrap64 ((Int.tmod a0 3600000000)-3600000000))<=(-1800000000) then (some (wrap64 ((wrap64 ((Int.tmod a0 3600000000)-3600000000))+3600000000))) else (some (wrap64 ((Int.tmod a0 3600000000)-3600000000)))) else (if (Int.tmod a0 3600000000)<=(-1800000000) then (some (wrap64 ((Int.tmod a0 3600000000)+3600000000))) else (some (Int.tmod a0 3600000000)))
set_option maxHeartbeats 8000000 in
set_option maxRecDepth 100000 in
theorem zbi.calls (a0:Int) (r:Int) (w:World) (h:zbi.f a0=some r):
  Calls Tryz.prog 52 #[.int .i64 a0] w fun e w'=>e= .returned (.int .i64 r)/\zcv w w':=by
 have H:(if (Int.tmod a0 3600000000)>1800000000 then (if (wrap64 ((Int.tmod a0 3600000000)-3600000000))<=(-1800000000) then (some (wrap64 ((wrap64 ((Int.tmod a0 3600000000)-3600000000))+3600000000))) else (some (wrap64 ((Int.tmod a0 3600000000)-3600000000)))) else (if (Int.tmod a0 3600000000)<=(-1800000000) then (some (wrap64 ((Int.tmod a0 3600000000)+3600000000))) else (some (Int.tmod a0 3600000000))))=some r:=h
 clear h
 by_cases c2:(Int.tmod a0 3600000000)>1800000000
 ·rw [if_pos c2] at H
  have c2b0:decide (1800000000<(Int.tmod a0 3600000000))=true:=decide_eq_true c2
  clear c2
  by_cases c3:(wrap64 ((Int.tmod a0 3600000000)-3600000000))<=(-1800000000)
  ·rw [if_pos c3] at H
   have c3b0:decide ((wrap64 ((Int.tmod a0 3600000000)-3600000000))<=(-1800000000))=true:=decide_eq_true c3
   clear c3
   obtain rfl:=Option.some.inj H
   go_enter Tryz.func52,Tryz.ntmps52
   go_wp2
   go_ret
   exact ⟨by first|rfl|(simp;done)|(simp [*];done),by repeat (first|exact zcv.refl _|apply zcv.step)⟩
  ·rw [if_neg c3] at H
   have c3b0:decide ((wrap64 ((Int.tmod a0 3600000000)-3600000000))<=(-1800000000))=false:=decide_eq_false c3
   clear c3
   obtain rfl:=Option.some.inj H
   go_enter Tryz.func52,Tryz.ntmps52
   go_wp2
   go_ret
   exact ⟨by first|rfl|(simp;done)|(simp [*];done),by repeat (first|exact zcv.refl _|apply zcv.step)⟩
 ·rw [if_neg c2] at H
  have c2b0:decide (1800000000<(Int.tmod a0 3600000000))=false:=decide_eq_false c2
  clear c2
  by_cases c4:(Int.tmod a0 3600000000)<=(-1800000000)
  ·rw [if_pos c4] at H
   have c4b0:decide ((Int.tmod a0 3600000000)<=(-1800000000))=true:=decide_eq_true c4
   clear c4
   obtain rfl:=Option.some.inj H
   go_enter Tryz.func52,Tryz.ntmps52
   go_wp2
   go_ret
   exact ⟨by first|rfl|(simp;done)|(simp [*];done),by repeat (first|exact zcv.refl _|apply zcv.step)⟩
  ·rw [if_neg c4] at H
   have c4b0:decide ((Int.tmod a0 3600000000)<=(-1800000000))=false:=decide_eq_false c4
   clear c4
   obtain rfl:=Option.some.inj H
   go_enter Tryz.func52,Tryz.ntmps52
   go_wp2
   go_ret
   exact ⟨by first|rfl|(simp;done)|(simp [*];done),by repeat (first|exact zcv.refl _|apply zcv.step)⟩
def zax.f (s0_0:List Int) (s0_1:Int) (s0_2:Int) (a1:Int):Option (Bool×Int×Int):=(zJ.f s0_0 s0_1 s0_2 a1).bind fun bt109=>(some ((bt109.1==0),bt109.2.1,bt109.2.2))
set_option maxHeartbeats 8000000 in
set_option maxRecDepth 100000 in
theorem zax.calls (g:Nat) (s0_0:List Int) (s0_1:Int) (s0_2:Int) (a1:Int) (r1:Bool) (r2:Int) (r3:Int) (w0 w:World) (hI:zf w0 w g s0_0 s0_1 s0_2) (hB:Below w0.heap.size w0 w) (h:zax.f s0_0 s0_1 s0_2 a1=some (r1,r2,r3)):
  Calls Tryz.prog 62 #[.pointer (some ⟨g,0,none⟩),.int .i64 a1] w fun e w'=>e= .returned (.bool r1)/\zf w0 w' g s0_0 r2 r3/\Below w0.heap.size w0 w'/\zl w w' g none:=by
 have HI0:=za.mk hI
 have HK:=za.mk (zl.refl w g none)
 have HL:=za.mk hB.size
 clear hI
 have HW0:=za.mk hB.size
 have HB:=za.mk hB
 clear hB
 have H:((zJ.f s0_0 s0_1 s0_2 a1).bind fun bt109=>(some ((bt109.1==0),bt109.2.1,bt109.2.2)))=some (r1,r2,r3):=h
 clear h
 obtain ⟨⟨t109,t110,t111⟩,A30,H⟩:=Option.bind_eq_some_iff.mp H
 replace H:(some ((t109==0),t110,t111))=some (r1,r2,r3):=H
 have A3:=za.mk A30
 clear A30
 simp only [Option.some.injEq,Prod.mk.injEq] at H
 obtain ⟨rfl,rfl,rfl⟩:=H
 go_enter Tryz.func62,Tryz.ntmps62
 go_wp2_with (first|((with_reducible refine zQ (f:=19) rfl ?_);refine zaZ (some 7) rfl rfl Tryz.func19 (by kernel_rfl) rfl #[.pointer (some ⟨g,0,none⟩),.int .i64 a1] rfl (by (try simp only [List.map_toArray,List.map_cons,List.map_nil]);first|done|rfl) ?_;(with_reducible refine (zJ.calls g s0_0 s0_1 s0_2 a1 t109 t110 t111 w0 _ ?side1 ?side2 A3.out).mono ?_);(case side1=>repeat (with_reducible first|exact HI0.out|apply zf.alloc|apply zf.drewN|apply zf.set_1|apply zf.set_2));(case side2=>repeat (with_reducible first|exact HB.out|apply zm|apply zk|refine zh ?_ (zf.ge HI0.out)));rintro e w4 ⟨rfl,hi,hb,hk⟩;refine ⟨_,rfl,?_⟩;have n0_:=za.mk (zl.trans (by repeat (with_reducible first|exact HK.out|apply zl.set_|apply zu|apply zw)) hk (.inl rfl));have n1_:=za.mk (hb);have n2_:=za.mk (hi);clear HK;clear HB;clear HI0;have HK:=n0_;have HB:=n1_;have HI0:=n2_;clear n0_ n1_ n2_;(try clear hb);(try clear hb2);(try clear hk);(try clear hi)))
 go_ret
 exact ⟨by first|rfl|(simp [*]<;>rfl),by repeat (with_reducible first|exact HI0.out|apply zf.alloc|apply zf.drewN|apply zf.set_1|apply zf.set_2),by repeat (with_reducible first|exact HB.out|apply zm|apply zk|refine zh ?_ (zf.ge HI0.out)),by repeat (with_reducible first|exact HK.out|apply zl.set_|apply zu|apply zw)⟩
def zS.f (s0_0:List Int) (s0_1:Int) (s0_2:Int) (l1:List Int):Option (Int×Int×Int):=(zJ.f s0_0 s0_1 s0_2 (l1.length:Int)).bind fun bt112=>(if 0<=bt112.1 then (if bt112.1<(l1.length:Int) then (some (rd l1 bt112.1,bt112.2.1,bt112.2.2)) else (none)) else (none))
set_option maxHeartbeats 8000000 in
set_option maxRecDepth 100000 in
theorem zS.calls (g:Nat) (s0_0:List Int) (s0_1:Int) (s0_2:Int) (A1:Option Addr) (c1:Nat) (l1:List Int) (r1:Int) (r2:Int) (r3:Int) (w0 w:World) (hI:zf w0 w g s0_0 s0_1 s0_2) (hB:Below w0.heap.size w0 w) (hr1:Kd.C (Kd.int .i64) w A1 l1.length l1) (hc1:l1.length<=c1) (hf1:∀ad,A1=some ad->0<l1.length->ad.block≠g) (h:zS.f s0_0 s0_1 s0_2 l1=some (r1,r2,r3)):
  Calls Tryz.prog 68 #[.pointer (some ⟨g,0,none⟩),.slice A1 l1.length c1] w fun e w'=>e= .returned (.int .i64 r1)/\zf w0 w' g s0_0 r2 r3/\Below w0.heap.size w0 w'/\zl w w' g none:=by
 have HR1:=za.mk hr1
 have HC1:=za.mk hc1
 clear hr1 hc1
 have HI0:=za.mk hI
 have HK:=za.mk (zl.refl w g none)
 have HL:=za.mk hB.size
 clear hI
 have HW0:=za.mk hB.size
 have HB:=za.mk hB
 clear hB
 have H:((zJ.f s0_0 s0_1 s0_2 (l1.length:Int)).bind fun bt112=>(if 0<=bt112.1 then (if bt112.1<(l1.length:Int) then (some (rd l1 bt112.1,bt112.2.1,bt112.2.2)) else (none)) else (none)))=some (r1,r2,r3):=h
 clear h
 obtain ⟨⟨t112,t113,t114⟩,A30,H⟩:=Option.bind_eq_some_iff.mp H
 replace H:(if 0<=t112 then (if t112<(l1.length:Int) then (some (rd l1 t112,t113,t114)) else (none)) else (none))=some (r1,r2,r3):=H
 have A3:=za.mk A30
 clear A30
 by_cases c4:0<=t112
 ·rw [if_pos c4] at H
  have c4b0:decide (0<=t112)=true:=decide_eq_true c4
  clear c4
  by_cases c5:t112<(l1.length:Int)
  ·rw [if_pos c5] at H
   have c5b0:decide (t112<(l1.length:Int))=true:=decide_eq_true c5
   clear c5
   simp only [Option.some.injEq,Prod.mk.injEq] at H
   obtain ⟨rfl,rfl,rfl⟩:=H
   go_enter Tryz.func68,Tryz.ntmps68
   go_wp2_with (first|((with_reducible refine zQ (f:=19) rfl ?_);refine zaZ (some 9) rfl rfl Tryz.func19 (by kernel_rfl) rfl #[.pointer (some ⟨g,0,none⟩),.int .i64 (l1.length:Int)] rfl (by (try simp only [List.map_toArray,List.map_cons,List.map_nil]);first|done|rfl) ?_;(with_reducible refine (zJ.calls g s0_0 s0_1 s0_2 (l1.length:Int) t112 t113 t114 w0 _ ?side1 ?side2 A3.out).mono ?_);(case side1=>repeat (with_reducible first|exact HI0.out|apply zf.alloc|apply zf.drewN|apply zf.set_1|apply zf.set_2));(case side2=>repeat (with_reducible first|exact HB.out|apply zm|apply zk|refine zh ?_ (zf.ge HI0.out)));rintro e w6 ⟨rfl,hi,hb,hk⟩;refine ⟨_,rfl,?_⟩;have n0_:=za.mk (zl.trans (by repeat (with_reducible first|exact HK.out|apply zl.set_|apply zu|apply zw)) hk (.inl rfl));have n1_:=za.mk (hb);have n2_:=za.mk (hi);clear HK;clear HB;clear HI0;have HK:=n0_;have HB:=n1_;have HI0:=n2_;clear n0_ n1_ n2_;(try clear hb);(try clear hb2);(try clear hk);(try clear hi);have p115:0<=(t112:Int):=of_decide_eq_true (by first|(with_reducible assumption)|assumption);have q115:t112<(l1.length:Int):=of_decide_eq_true (by first|(with_reducible assumption)|assumption);obtain ⟨ad115,e115,hx115_0⟩:=Kd.zD3 HR1.out t112 p115 q115;cases e115;replace hx115_0:=zC7 HK.out hx115_0 (by first|(rw [add_block];exact hf1 _ rfl (by omega))|exact hf1 _ rfl (by omega)|exact hf1 ad115 rfl (by omega));replace p115:=eq_true p115;replace q115:=eq_true q115))
   go_ret
   exact ⟨by first|rfl|(simp [*]<;>rfl),by repeat (with_reducible first|exact HI0.out|apply zf.alloc|apply zf.drewN|apply zf.set_1|apply zf.set_2),by repeat (with_reducible first|exact HB.out|apply zm|apply zk|refine zh ?_ (zf.ge HI0.out)),by repeat (with_reducible first|exact HK.out|apply zl.set_|apply zu|apply zw)⟩
  ·rw [if_neg c5] at H
   exact absurd H (by simp)
 ·rw [if_neg c4] at H
  exact absurd H (by simp)
def zaE.l0:Nat->Int->Int->Int->List Int->Int->Int->Option (Int×Int×Int)
 | 0,_,_,_,_,_,_=>none
 | k+1,x1,x5,x6,x1000,x1001,x1002=>if x6<7 then ((za9.f x1000 x1001 x1002).bind fun bt116=>(zaE.l0 k x1 (Go.bits .xor .i64 (wrap64 (x5*256)) bt116.1) (wrap64 (x6+1)) x1000 bt116.2.1 bt116.2.2)) else (if (wrap64 (x1+1))=0 then (none) else ((zJ.f x1000 x1001 x1002 5).bind fun bt119=>(if bt119.1=0 then ((zJ.f x1000 bt119.2.1 bt119.2.2 40).bind fun bt122=>(if 0<=(IntKind.u64.wrap (bt122.1)) then ((zax.f x1000 bt122.2.1 bt122.2.2 2).bind fun bt125=>(if bt125.1=true then (some (wrap64 (-(shr .i64 (Int.tmod x5 (wrap64 (x1+1))) (IntKind.u64.wrap (bt122.1)))),bt125.2.1,bt125.2.2)) else (some (shr .i64 (Int.tmod x5 (wrap64 (x1+1))) (IntKind.u64.wrap (bt122.1)),bt125.2.1,bt125.2.2)))) else (none))) else (if bt119.1=1 then ((zS.f x1000 bt119.2.1 bt119.2.2 (([0,1,x1,wrap64 (Int.tdiv x1 2)]:List Int))).bind fun bt131=>((zax.f x1000 bt131.2.1 bt131.2.2 2).bind fun bt134=>(if bt134.1=true then (some (wrap64 (-bt131.1),bt134.2.1,bt134.2.2)) else (some (bt131.1,bt134.2.1,bt134.2.2))))) else ((zax.f x1000 bt119.2.1 bt119.2.2 2).bind fun bt137=>(if bt137.1=true then (some (wrap64 (-(Int.tmod x5 (wrap64 (x1+1)))),bt137.2.1,bt137.2.2)) else (some (Int.tmod x5 (wrap64 (x1+1)),bt137.2.1,bt137.2.2))))))))
def zaE.f (k:Nat) (s0_0:List Int) (s0_1:Int) (s0_2:Int) (a1:Int):Option (Int×Int×Int):=zaE.l0 k a1 0 0 s0_0 s0_1 s0_2
set_option maxHeartbeats 8000000 in
set_option maxRecDepth 100000 in
theorem zaE.calls (k:Nat) (g:Nat) (s0_0:List Int) (s0_1:Int) (s0_2:Int) (a1:Int) (r1:Int) (r2:Int) (r3:Int) (w0 w:World) (hI:zf w0 w g s0_0 s0_1 s0_2) (hB:Below w0.heap.size w0 w) (h:zaE.f k s0_0 s0_1 s0_2 a1=some (r1,r2,r3)):
  Calls Tryz.prog 67 #[.pointer (some ⟨g,0,none⟩),.int .i64 a1] w fun e w'=>e= .returned (.int .i64 r1)/\zf w0 w' g s0_0 r2 r3/\Below w0.heap.size w0 w'/\zl w w' g none:=by
 have HI0:=za.mk hI
 have HK:=za.mk (zl.refl w g none)
 have HL:=za.mk hB.size
 clear hI
 have HW0:=za.mk hB.size
 have HB:=za.mk hB
 clear hB
 have H:(zaE.l0 k a1 0 0 s0_0 s0_1 s0_2)=some (r1,r2,r3):=h
 clear h
 have H':=za.mk H
 clear H
 go_enter Tryz.func67,Tryz.ntmps67
 go_wp2
 go_loopg [5,6] k (fun kq v5 v6 w'=>∃(x5_1:Int) (x6_1:Int) (x1001_1:Int) (x1002_1:Int),v5= .int .i64 x5_1/\v6= .int .i64 x6_1/\za (zaE.l0 kq a1 x5_1 x6_1 s0_0 x1001_1 x1002_1=some (r1,r2,r3))/\za (kq<=k)/\za (zf w0 w' g s0_0 x1001_1 x1002_1)/\za (zl w w' g none)/\za (Below w0.heap.size w0 w'))
 case atStart=>exact ⟨(0),(0),(s0_1),(s0_2),(by first|rfl|(simp;done)|(simp [*];done)),(by first|rfl|(simp;done)|(simp [*];done)),H',⟨Nat.le_refl _⟩,⟨by repeat (with_reducible first|exact HI0.out|apply zf.alloc|apply zf.drewN|apply zf.set_1|apply zf.set_2)⟩,⟨by repeat (with_reducible first|exact HK.out|apply zl.set_|apply zu|apply zw)⟩,⟨by repeat (with_reducible first|exact HB.out|apply zm|apply zk|refine zh ?_ (zf.ge HI0.out))⟩⟩
 case round=>
  clear H'
  obtain ⟨x5_1,x6_1,x1001_1,x1002_1,rfl,rfl,HA,HK1,HI0,HK,HB⟩:=hrel
  cases gk with
  | zero=>exact absurd HA.out (by simp [zaE.l0])
  | succ k1=>
   have H:=HA.out
   clear HA
   simp only [zaE.l0] at H
   by_cases c3:x6_1<7
   ·rw [if_pos c3] at H
    have c3b0:decide (x6_1<7)=true:=decide_eq_true c3
    clear c3
    obtain ⟨⟨t116,t117,t118⟩,A40,H⟩:=Option.bind_eq_some_iff.mp H
    replace H:(zaE.l0 k1 a1 (Go.bits .xor .i64 (wrap64 (x5_1*256)) t116) (wrap64 (x6_1+1)) s0_0 t117 t118)=some (r1,r2,r3):=H
    have A4:=za.mk A40
    clear A40
    have H':=za.mk H
    clear H
    go_wp2_with (first|((with_reducible refine zQ (f:=63) rfl ?_);refine zaZ (some 14) rfl rfl Tryz.func63 (by kernel_rfl) rfl #[.pointer (some ⟨g,0,none⟩)] rfl (by (try simp only [List.map_toArray,List.map_cons,List.map_nil]);first|done|rfl) ?_;(with_reducible refine (za9.calls g s0_0 x1001_1 x1002_1 t116 t117 t118 w0 _ ?side1 ?side2 A4.out).mono ?_);(case side1=>repeat (with_reducible first|exact HI0.out|apply zf.alloc|apply zf.drewN|apply zf.set_1|apply zf.set_2));(case side2=>repeat (with_reducible first|exact HB.out|apply zm|apply zk|refine zh ?_ (zf.ge HI0.out)));rintro e w5 ⟨rfl,hi,hb,hk⟩;refine ⟨_,rfl,?_⟩;have n0_:=za.mk (zl.trans (by repeat (with_reducible first|exact HK.out|apply zl.set_|apply zu|apply zw)) hk (.inl rfl));have n1_:=za.mk (hb);have n2_:=za.mk (hi);clear HK;clear HB;clear HI0;have HK:=n0_;have HB:=n1_;have HI0:=n2_;clear n0_ n1_ n2_;(try clear hb);(try clear hb2);(try clear hk);(try clear hi)))
    go_roundg k1
    case measure=>have:=HK1.out;omega
    case rel=>exact ⟨(Go.bits .xor .i64 (wrap64 (x5_1*256)) t116),(wrap64 (x6_1+1)),(t117),(t118),(by first|rfl|(simp;done)|(simp [*];done)),(by first|rfl|(simp;done)|(simp [*];done)),H',⟨by have:=HK1.out;omega⟩,⟨by repeat (with_reducible first|exact HI0.out|apply zf.alloc|apply zf.drewN|apply zf.set_1|apply zf.set_2)⟩,⟨by repeat (with_reducible first|exact HK.out|apply zl.set_|apply zu|apply zw)⟩,⟨by repeat (with_reducible first|exact HB.out|apply zm|apply zk|refine zh ?_ (zf.ge HI0.out))⟩⟩
   ·rw [if_neg c3] at H
    have c3b0:decide (x6_1<7)=false:=decide_eq_false c3
    clear c3
    by_cases c6:(wrap64 (a1+1))=0
    ·rw [if_pos c6] at H
     exact absurd H (by simp)
    ·rw [if_neg c6] at H
     have c6b0:((wrap64 (a1+1))==0)=false:=beq_eq_false_iff_ne.mpr c6
     have c6b1:((wrap64 (a1+1)) != 0)=true:=bne_iff_ne.mpr c6
     obtain ⟨⟨t119,t120,t121⟩,A70,H⟩:=Option.bind_eq_some_iff.mp H
     replace H:(if t119=0 then ((zJ.f s0_0 t120 t121 40).bind fun bt122=>(if 0<=(IntKind.u64.wrap (bt122.1)) then ((zax.f s0_0 bt122.2.1 bt122.2.2 2).bind fun bt125=>(if bt125.1=true then (some (wrap64 (-(shr .i64 (Int.tmod x5_1 (wrap64 (a1+1))) (IntKind.u64.wrap (bt122.1)))),bt125.2.1,bt125.2.2)) else (some (shr .i64 (Int.tmod x5_1 (wrap64 (a1+1))) (IntKind.u64.wrap (bt122.1)),bt125.2.1,bt125.2.2)))) else (none))) else (if t119=1 then ((zS.f s0_0 t120 t121 (([0,1,a1,wrap64 (Int.tdiv a1 2)]:List Int))).bind fun bt131=>((zax.f s0_0 bt131.2.1 bt131.2.2 2).bind fun bt134=>(if bt134.1=true then (some (wrap64 (-bt131.1),bt134.2.1,bt134.2.2)) else (some (bt131.1,bt134.2.1,bt134.2.2))))) else ((zax.f s0_0 t120 t121 2).bind fun bt137=>(if bt137.1=true then (some (wrap64 (-(Int.tmod x5_1 (wrap64 (a1+1)))),bt137.2.1,bt137.2.2)) else (some (Int.tmod x5_1 (wrap64 (a1+1)),bt137.2.1,bt137.2.2))))))=some (r1,r2,r3):=H
     have A7:=za.mk A70
     clear A70
     by_cases c8:t119=0
     ·rw [if_pos c8] at H
      have c8b0:(t119==0)=true:=beq_iff_eq.mpr c8
      have c8b1:(t119 != 0)=false:=bne_eq_false_iff_eq.mpr c8
      clear c8
      obtain ⟨⟨t122,t123,t124⟩,A90,H⟩:=Option.bind_eq_some_iff.mp H
      replace H:(if 0<=(IntKind.u64.wrap (t122)) then ((zax.f s0_0 t123 t124 2).bind fun bt125=>(if bt125.1=true then (some (wrap64 (-(shr .i64 (Int.tmod x5_1 (wrap64 (a1+1))) (IntKind.u64.wrap (t122)))),bt125.2.1,bt125.2.2)) else (some (shr .i64 (Int.tmod x5_1 (wrap64 (a1+1))) (IntKind.u64.wrap (t122)),bt125.2.1,bt125.2.2)))) else (none))=some (r1,r2,r3):=H
      have A9:=za.mk A90
      clear A90
      obtain ⟨ji10,hji10⟩:∃j_:Int,(IntKind.u64.wrap (t122))=j_:=⟨_,rfl⟩
      replace H:(if 0<=(ji10) then ((zax.f s0_0 t123 t124 2).bind fun bt125=>(if bt125.1=true then (some (wrap64 (-(shr .i64 (Int.tmod x5_1 (wrap64 (a1+1))) (ji10))),bt125.2.1,bt125.2.2)) else (some (shr .i64 (Int.tmod x5_1 (wrap64 (a1+1))) (ji10),bt125.2.1,bt125.2.2)))) else (none))=some (r1,r2,r3):=by first|(rw [hji10] at H;exact H)|(simp only [hji10] at H ⊢;exact H)
      (try rw [hji10] at A7)
      (try rw [hji10] at A9)
      by_cases c11:0<=(ji10)
      ·rw [if_pos c11] at H
       have c11b0:=eq_true c11
       have c11b1:decide (0<=(ji10))=true:=decide_eq_true c11
       clear c11
       obtain ⟨ji12,hji12⟩:∃j_:Int,(shr .i64 (Int.tmod x5_1 (wrap64 (a1+1))) (ji10))=j_:=⟨_,rfl⟩
       replace H:((zax.f s0_0 t123 t124 2).bind fun bt125=>(if bt125.1=true then (some (wrap64 (-(ji12)),bt125.2.1,bt125.2.2)) else (some (ji12,bt125.2.1,bt125.2.2))))=some (r1,r2,r3):=by first|(rw [hji12] at H;exact H)|(simp only [hji12] at H ⊢;exact H)
       (try rw [hji12] at A7)
       (try rw [hji12] at A9)
       have hji12_:((Int.tmod x5_1 (wrap64 (a1+1)))/2^min (ji10).toNat 64)=ji12:=hji12
       have hji12z:(ji10)<=64->((Int.tmod x5_1 (wrap64 (a1+1)))/2^(ji10).toNat)=ji12:=zCb hji12
       obtain ⟨⟨t125,t126,t127⟩,A130,H⟩:=Option.bind_eq_some_iff.mp H
       replace H:(if t125=true then (some (wrap64 (-(ji12)),t126,t127)) else (some (ji12,t126,t127)))=some (r1,r2,r3):=H
       have A13:=za.mk A130
       clear A130
       by_cases c14:t125=true
       ·subst c14
        replace H:(some (wrap64 (-(ji12)),t126,t127))=some (r1,r2,r3):=by rw [if_pos rfl] at H;exact H
        simp only [Option.some.injEq,Prod.mk.injEq] at H
        obtain ⟨rfl,rfl,rfl⟩:=H
        go_wp2_with (first|((with_reducible refine zQ (f:=19) rfl ?_);refine zaZ (some 21) rfl rfl Tryz.func19 (by kernel_rfl) rfl #[.pointer (some ⟨g,0,none⟩),.int .i64 5] rfl (by (try simp only [List.map_toArray,List.map_cons,List.map_nil]);first|done|rfl) ?_;(with_reducible refine (zJ.calls g s0_0 x1001_1 x1002_1 5 t119 t120 t121 w0 _ ?side1 ?side2 A7.out).mono ?_);(case side1=>repeat (with_reducible first|exact HI0.out|apply zf.alloc|apply zf.drewN|apply zf.set_1|apply zf.set_2));(case side2=>repeat (with_reducible first|exact HB.out|apply zm|apply zk|refine zh ?_ (zf.ge HI0.out)));rintro e w15 ⟨rfl,hi,hb,hk⟩;refine ⟨_,rfl,?_⟩;have n0_:=za.mk (zl.trans (by repeat (with_reducible first|exact HK.out|apply zl.set_|apply zu|apply zw)) hk (.inl rfl));have n1_:=za.mk (hb);have n2_:=za.mk (hi);clear HK;clear HB;clear HI0;have HK:=n0_;have HB:=n1_;have HI0:=n2_;clear n0_ n1_ n2_;(try clear hb);(try clear hb2);(try clear hk);(try clear hi))|((with_reducible refine zQ (f:=19) rfl ?_);refine zaZ (some 26) rfl rfl Tryz.func19 (by kernel_rfl) rfl #[.pointer (some ⟨g,0,none⟩),.int .i64 40] rfl (by (try simp only [List.map_toArray,List.map_cons,List.map_nil]);first|done|rfl) ?_;(with_reducible refine (zJ.calls g s0_0 t120 t121 40 t122 t123 t124 w0 _ ?side1 ?side2 A9.out).mono ?_);(case side1=>repeat (with_reducible first|exact HI0.out|apply zf.alloc|apply zf.drewN|apply zf.set_1|apply zf.set_2));(case side2=>repeat (with_reducible first|exact HB.out|apply zm|apply zk|refine zh ?_ (zf.ge HI0.out)));rintro e w16 ⟨rfl,hi,hb,hk⟩;refine ⟨_,rfl,?_⟩;have n0_:=za.mk (zl.trans (by repeat (with_reducible first|exact HK.out|apply zl.set_|apply zu|apply zw)) hk (.inl rfl));have n1_:=za.mk (hb);have n2_:=za.mk (hi);clear HK;clear HB;clear HI0;have HK:=n0_;have HB:=n1_;have HI0:=n2_;clear n0_ n1_ n2_;(try clear hb);(try clear hb2);(try clear hk);(try clear hi))|((with_reducible refine zQ (f:=62) rfl ?_);refine zaZ (some 38) rfl rfl Tryz.func62 (by kernel_rfl) rfl #[.pointer (some ⟨g,0,none⟩),.int .i64 2] rfl (by (try simp only [List.map_toArray,List.map_cons,List.map_nil]);first|done|rfl) ?_;(with_reducible refine (zax.calls g s0_0 t123 t124 2 true t126 t127 w0 _ ?side1 ?side2 A13.out).mono ?_);(case side1=>repeat (with_reducible first|exact HI0.out|apply zf.alloc|apply zf.drewN|apply zf.set_1|apply zf.set_2));(case side2=>repeat (with_reducible first|exact HB.out|apply zm|apply zk|refine zh ?_ (zf.ge HI0.out)));rintro e w17 ⟨rfl,hi,hb,hk⟩;refine ⟨_,rfl,?_⟩;have n0_:=za.mk (zl.trans (by repeat (with_reducible first|exact HK.out|apply zl.set_|apply zu|apply zw)) hk (.inl rfl));have n1_:=za.mk (hb);have n2_:=za.mk (hi);clear HK;clear HB;clear HI0;have HK:=n0_;have HB:=n1_;have HI0:=n2_;clear n0_ n1_ n2_;(try clear hb);(try clear hb2);(try clear hk);(try clear hi)))
        go_ret
        exact ⟨by first|rfl|(simp [zlr,zlq]<;>rfl)|(simp only [<- hji10,<- hji12];first|rfl|(simp [zlr,zlq]<;>rfl))|(simp [*,zlr,zlq]<;>rfl),by repeat (with_reducible first|exact HI0.out|apply zf.alloc|apply zf.drewN|apply zf.set_1|apply zf.set_2),by repeat (with_reducible first|exact HB.out|apply zm|apply zk|refine zh ?_ (zf.ge HI0.out)),by repeat (with_reducible first|exact HK.out|apply zl.set_|apply zu|apply zw)⟩
       ·replace c14:=Bool.eq_false_iff.mpr c14
        subst c14
        replace H:(some (ji12,t126,t127))=some (r1,r2,r3):=by rw [if_neg (show ¬(false=true) by decide)] at H;exact H
        simp only [Option.some.injEq,Prod.mk.injEq] at H
        obtain ⟨rfl,rfl,rfl⟩:=H
        go_wp2_with (first|((with_reducible refine zQ (f:=19) rfl ?_);refine zaZ (some 21) rfl rfl Tryz.func19 (by kernel_rfl) rfl #[.pointer (some ⟨g,0,none⟩),.int .i64 5] rfl (by (try simp only [List.map_toArray,List.map_cons,List.map_nil]);first|done|rfl) ?_;(with_reducible refine (zJ.calls g s0_0 x1001_1 x1002_1 5 t119 t120 t121 w0 _ ?side1 ?side2 A7.out).mono ?_);(case side1=>repeat (with_reducible first|exact HI0.out|apply zf.alloc|apply zf.drewN|apply zf.set_1|apply zf.set_2));(case side2=>repeat (with_reducible first|exact HB.out|apply zm|apply zk|refine zh ?_ (zf.ge HI0.out)));rintro e w18 ⟨rfl,hi,hb,hk⟩;refine ⟨_,rfl,?_⟩;have n0_:=za.mk (zl.trans (by repeat (with_reducible first|exact HK.out|apply zl.set_|apply zu|apply zw)) hk (.inl rfl));have n1_:=za.mk (hb);have n2_:=za.mk (hi);clear HK;clear HB;clear HI0;have HK:=n0_;have HB:=n1_;have HI0:=n2_;clear n0_ n1_ n2_;(try clear hb);(try clear hb2);(try clear hk);(try clear hi))|((with_reducible refine zQ (f:=19) rfl ?_);refine zaZ (some 26) rfl rfl Tryz.func19 (by kernel_rfl) rfl #[.pointer (some ⟨g,0,none⟩),.int .i64 40] rfl (by (try simp only [List.map_toArray,List.map_cons,List.map_nil]);first|done|rfl) ?_;(with_reducible refine (zJ.calls g s0_0 t120 t121 40 t122 t123 t124 w0 _ ?side1 ?side2 A9.out).mono ?_);(case side1=>repeat (with_reducible first|exact HI0.out|apply zf.alloc|apply zf.drewN|apply zf.set_1|apply zf.set_2));(case side2=>repeat (with_reducible first|exact HB.out|apply zm|apply zk|refine zh ?_ (zf.ge HI0.out)));rintro e w19 ⟨rfl,hi,hb,hk⟩;refine ⟨_,rfl,?_⟩;have n0_:=za.mk (zl.trans (by repeat (with_reducible first|exact HK.out|apply zl.set_|apply zu|apply zw)) hk (.inl rfl));have n1_:=za.mk (hb);have n2_:=za.mk (hi);clear HK;clear HB;clear HI0;have HK:=n0_;have HB:=n1_;have HI0:=n2_;clear n0_ n1_ n2_;(try clear hb);(try clear hb2);(try clear hk);(try clear hi))|((with_reducible refine zQ (f:=62) rfl ?_);refine zaZ (some 38) rfl rfl Tryz.func62 (by kernel_rfl) rfl #[.pointer (some ⟨g,0,none⟩),.int .i64 2] rfl (by (try simp only [List.map_toArray,List.map_cons,List.map_nil]);first|done|rfl) ?_;(with_reducible refine (zax.calls g s0_0 t123 t124 2 false t126 t127 w0 _ ?side1 ?side2 A13.out).mono ?_);(case side1=>repeat (with_reducible first|exact HI0.out|apply zf.alloc|apply zf.drewN|apply zf.set_1|apply zf.set_2));(case side2=>repeat (with_reducible first|exact HB.out|apply zm|apply zk|refine zh ?_ (zf.ge HI0.out)));rintro e w20 ⟨rfl,hi,hb,hk⟩;refine ⟨_,rfl,?_⟩;have n0_:=za.mk (zl.trans (by repeat (with_reducible first|exact HK.out|apply zl.set_|apply zu|apply zw)) hk (.inl rfl));have n1_:=za.mk (hb);have n2_:=za.mk (hi);clear HK;clear HB;clear HI0;have HK:=n0_;have HB:=n1_;have HI0:=n2_;clear n0_ n1_ n2_;(try clear hb);(try clear hb2);(try clear hk);(try clear hi)))
        go_ret
        exact ⟨by first|rfl|(simp [zlr,zlq]<;>rfl)|(simp only [<- hji10,<- hji12];first|rfl|(simp [zlr,zlq]<;>rfl))|(simp [*,zlr,zlq]<;>rfl),by repeat (with_reducible first|exact HI0.out|apply zf.alloc|apply zf.drewN|apply zf.set_1|apply zf.set_2),by repeat (with_reducible first|exact HB.out|apply zm|apply zk|refine zh ?_ (zf.ge HI0.out)),by repeat (with_reducible first|exact HK.out|apply zl.set_|apply zu|apply zw)⟩
      ·rw [if_neg c11] at H
       exact absurd H (by simp)
     ·rw [if_neg c8] at H
      have c8b0:(t119==0)=false:=beq_eq_false_iff_ne.mpr c8
      have c8b1:(t119 != 0)=true:=bne_iff_ne.mpr c8
      by_cases c21:t119=1
      ·rw [if_pos c21] at H
       have c21b0:(t119==1)=true:=beq_iff_eq.mpr c21
       have c21b1:(t119 != 1)=false:=bne_eq_false_iff_eq.mpr c21
       clear c21
       obtain ⟨y128,hy128⟩:∃y_:List Int,y_=(([0,1,a1,wrap64 (Int.tdiv a1 2)]:List Int)):=⟨_,rfl⟩
       replace H:((zS.f s0_0 t120 t121 y128).bind fun bt131=>((zax.f s0_0 bt131.2.1 bt131.2.2 2).bind fun bt134=>(if bt134.1=true then (some (wrap64 (-bt131.1),bt134.2.1,bt134.2.2)) else (some (bt131.1,bt134.2.1,bt134.2.2)))))=some (r1,r2,r3):=by first|(rw [hy128];with_reducible exact H)|(have H2_:=(Option.bind_some _ _).symm.trans H;rw [hy128];with_reducible exact H2_)|(have H2_:=(Option.bind_some _ _).symm.trans H;with_reducible exact H2_)|with_reducible exact H|(rw [hy128];exact H)|exact H
       have Ny128:=za.mk hy128
       clear hy128
       obtain ⟨⟨t131,t132,t133⟩,A220,H⟩:=Option.bind_eq_some_iff.mp H
       replace H:((zax.f s0_0 t132 t133 2).bind fun bt134=>(if bt134.1=true then (some (wrap64 (-t131),bt134.2.1,bt134.2.2)) else (some (t131,bt134.2.1,bt134.2.2))))=some (r1,r2,r3):=H
       have A22:=za.mk A220
       clear A220
       obtain ⟨⟨t134,t135,t136⟩,A230,H⟩:=Option.bind_eq_some_iff.mp H
       replace H:(if t134=true then (some (wrap64 (-t131),t135,t136)) else (some (t131,t135,t136)))=some (r1,r2,r3):=H
       have A23:=za.mk A230
       clear A230
       by_cases c24:t134=true
       ·subst c24
        replace H:(some (wrap64 (-t131),t135,t136))=some (r1,r2,r3):=by rw [if_pos rfl] at H;exact H
        simp only [Option.some.injEq,Prod.mk.injEq] at H
        obtain ⟨rfl,rfl,rfl⟩:=H
        go_wp2_with (first|((with_reducible refine zQ (f:=19) rfl ?_);refine zaZ (some 21) rfl rfl Tryz.func19 (by kernel_rfl) rfl #[.pointer (some ⟨g,0,none⟩),.int .i64 5] rfl (by (try simp only [List.map_toArray,List.map_cons,List.map_nil]);first|done|rfl) ?_;(with_reducible refine (zJ.calls g s0_0 x1001_1 x1002_1 5 t119 t120 t121 w0 _ ?side1 ?side2 A7.out).mono ?_);(case side1=>repeat (with_reducible first|exact HI0.out|apply zf.alloc|apply zf.drewN|apply zf.set_1|apply zf.set_2));(case side2=>repeat (with_reducible first|exact HB.out|apply zm|apply zk|refine zh ?_ (zf.ge HI0.out)));rintro e w25 ⟨rfl,hi,hb,hk⟩;refine ⟨_,rfl,?_⟩;have n0_:=za.mk (zl.trans (by repeat (with_reducible first|exact HK.out|apply zl.set_|apply zu|apply zw)) hk (.inl rfl));have n1_:=za.mk (hb);have n2_:=za.mk (hi);clear HK;clear HB;clear HI0;have HK:=n0_;have HB:=n1_;have HI0:=n2_;clear n0_ n1_ n2_;(try clear hb);(try clear hb2);(try clear hk);(try clear hi))|((with_reducible refine zbw (N:=35) rfl ?_);refine Kd.zBD (Kd.int .i64) _ 2 ?hg (N:=35) ?hd (xs:=([0,1,a1,wrap64 (Int.tdiv a1 2)]:List Int)) (inner:= [.int .i64 0,.int .i64 1,.int .i64 a1,.int .i64 (wrap64 (Int.tdiv a1 2))]) (ok:=fun _=>True) (okp:=fun _=>True) ?hr ?hp (fun _ hk=>hk) trivial (Below.refl _ _) (Nat.le_refl _) (by simp) ?_;(case hd=>rfl);(case hg=>rfl);(case hr=>first|(go_simp;done)|(go_simp;rfl));(case hp=>exact (Reps.one (show Kd.M (Kd.int .i64) _ _ _ 0 [.int .i64 0] from rfl) (Reps.one (show Kd.M (Kd.int .i64) _ _ _ 1 [.int .i64 1] from rfl) (Reps.one (show Kd.M (Kd.int .i64) _ _ _ a1 [.int .i64 a1] from rfl) (Reps.one (show Kd.M (Kd.int .i64) _ _ _ (wrap64 (Int.tdiv a1 2)) [.int .i64 (wrap64 (Int.tdiv a1 2))] from rfl) (Reps.none _ _))))));intro v129 w26 ho27 hb hg_ hnew_;clear hg_ hnew_;(first|rw [<- Ny128.out] at ho27|(simp only [Int.reduceToNat] at ho27;rw [<- Ny128.out] at ho27));have n0_:=za.mk (Kd.znX ho27 (zaL (w:=w) (g:=g) (row:=none) (by repeat (with_reducible first|exact HK.out|apply zl.set_|apply zu|apply zw))));have n1_:=za.mk (zf.below (by repeat (with_reducible first|exact HI0.out|apply zf.alloc|apply zf.drewN|apply zf.set_1|apply zf.set_2)) hb);have n2_:=za.mk (zl.trans (by repeat (with_reducible first|exact HK.out|apply zl.set_|apply zu|apply zw)) (zl.of_below hb g none) (.inl rfl));have n3_:=za.mk (zaF (by repeat (with_reducible first|exact HB.out|apply zm|apply zk|refine zh ?_ (zf.ge HI0.out))) hb);clear HI0;clear HK;clear HB;have HO130:=n0_;have HI0:=n1_;have HK:=n2_;have HB:=n3_;clear n0_ n1_ n2_ n3_;clear hb ho27;obtain ⟨Ao28,co28,eo28⟩:=Kd.zpJ HO130.out;subst eo28)|((with_reducible refine zQ (f:=68) rfl ?_);refine zaZ (some 36) rfl rfl Tryz.func68 (by kernel_rfl) rfl #[.pointer (some ⟨g,0,none⟩),.slice Ao28 y128.length co28] rfl (by (try simp only [List.map_toArray,List.map_cons,List.map_nil]);first|done|rfl) ?_;(with_reducible refine (zS.calls g s0_0 t120 t121 _ _ y128 t131 t132 t133 w0 _ ?side1 ?side2 ?side3 ?side4 ?side5 A22.out).mono ?_);(case side1=>repeat (with_reducible first|exact HI0.out|apply zf.alloc|apply zf.drewN|apply zf.set_1|apply zf.set_2));(case side2=>repeat (with_reducible first|exact HB.out|apply zm|apply zk|refine zh ?_ (zf.ge HI0.out)));(case side3=>repeat (first|exact (Kd.zg5 HO130.out).2.2|(with_reducible refine Kd.zpV ?_ _)|(with_reducible refine Kd.zpU ?_ _)|(with_reducible refine Kd.zuz ?_)));(case side4=>exact (Kd.zg5 HO130.out).2.1);(case side5=>exact zlp (zf.own_ne HI0.out HO130.out (by decide)));rintro e w29 ⟨rfl,hi,hb,hk⟩;refine ⟨_,rfl,?_⟩;have n0_:=za.mk (Kd.zmW (Kd.zp9 (zf.apart (show zf w0 _ g s0_0 t120 t121 from by repeat (with_reducible first|exact HI0.out|apply zf.alloc|apply zf.drewN|apply zf.set_1|apply zf.set_2)) (by (with_reducible repeat (first|apply Kd.zmY|apply Kd.zmX|apply Kd.zqa));exact HO130.out) (by decide)) hk (fun _ h=>h.2)) (fun _ h=>h.1));have n1_:=za.mk (zl.trans (by repeat (with_reducible first|exact HK.out|apply zl.set_|apply zu|apply zw)) hk (.inl rfl));have n2_:=za.mk (hb);have n3_:=za.mk (hi);clear HO130;clear HK;clear HB;clear HI0;have HO130:=n0_;have HK:=n1_;have HB:=n2_;have HI0:=n3_;clear n0_ n1_ n2_ n3_;(try clear hb);(try clear hb2);(try clear hk);(try clear hi))|((with_reducible refine zQ (f:=62) rfl ?_);refine zaZ (some 38) rfl rfl Tryz.func62 (by kernel_rfl) rfl #[.pointer (some ⟨g,0,none⟩),.int .i64 2] rfl (by (try simp only [List.map_toArray,List.map_cons,List.map_nil]);first|done|rfl) ?_;(with_reducible refine (zax.calls g s0_0 t132 t133 2 true t135 t136 w0 _ ?side1 ?side2 A23.out).mono ?_);(case side1=>repeat (with_reducible first|exact HI0.out|apply zf.alloc|apply zf.drewN|apply zf.set_1|apply zf.set_2));(case side2=>repeat (with_reducible first|exact HB.out|apply zm|apply zk|refine zh ?_ (zf.ge HI0.out)));rintro e w30 ⟨rfl,hi,hb,hk⟩;refine ⟨_,rfl,?_⟩;have n0_:=za.mk (Kd.zmW (Kd.zp9 (zf.apart (show zf w0 _ g s0_0 t132 t133 from by repeat (with_reducible first|exact HI0.out|apply zf.alloc|apply zf.drewN|apply zf.set_1|apply zf.set_2)) (by (with_reducible repeat (first|apply Kd.zmY|apply Kd.zmX|apply Kd.zqa));exact HO130.out) (by decide)) hk (fun _ h=>h.2)) (fun _ h=>h.1));have n1_:=za.mk (zl.trans (by repeat (with_reducible first|exact HK.out|apply zl.set_|apply zu|apply zw)) hk (.inl rfl));have n2_:=za.mk (hb);have n3_:=za.mk (hi);clear HO130;clear HK;clear HB;clear HI0;have HO130:=n0_;have HK:=n1_;have HB:=n2_;have HI0:=n3_;clear n0_ n1_ n2_ n3_;(try clear hb);(try clear hb2);(try clear hk);(try clear hi)))
        go_ret
        exact ⟨by first|rfl|(simp [*]<;>rfl),by repeat (with_reducible first|exact HI0.out|apply zf.alloc|apply zf.drewN|apply zf.set_1|apply zf.set_2),by repeat (with_reducible first|exact HB.out|apply zm|apply zk|refine zh ?_ (zf.ge HI0.out)),by repeat (with_reducible first|exact HK.out|apply zl.set_|apply zu|apply zw)⟩
       ·replace c24:=Bool.eq_false_iff.mpr c24
        subst c24
        replace H:(some (t131,t135,t136))=some (r1,r2,r3):=by rw [if_neg (show ¬(false=true) by decide)] at H;exact H
        simp only [Option.some.injEq,Prod.mk.injEq] at H
        obtain ⟨rfl,rfl,rfl⟩:=H
        go_wp2_with (first|((with_reducible refine zQ (f:=19) rfl ?_);refine zaZ (some 21) rfl rfl Tryz.func19 (by kernel_rfl) rfl #[.pointer (some ⟨g,0,none⟩),.int .i64 5] rfl (by (try simp only [List.map_toArray,List.map_cons,List.map_nil]);first|done|rfl) ?_;(with_reducible refine (zJ.calls g s0_0 x1001_1 x1002_1 5 t119 t120 t121 w0 _ ?side1 ?side2 A7.out).mono ?_);(case side1=>repeat (with_reducible first|exact HI0.out|apply zf.alloc|apply zf.drewN|apply zf.set_1|apply zf.set_2));(case side2=>repeat (with_reducible first|exact HB.out|apply zm|apply zk|refine zh ?_ (zf.ge HI0.out)));rintro e w31 ⟨rfl,hi,hb,hk⟩;refine ⟨_,rfl,?_⟩;have n0_:=za.mk (zl.trans (by repeat (with_reducible first|exact HK.out|apply zl.set_|apply zu|apply zw)) hk (.inl rfl));have n1_:=za.mk (hb);have n2_:=za.mk (hi);clear HK;clear HB;clear HI0;have HK:=n0_;have HB:=n1_;have HI0:=n2_;clear n0_ n1_ n2_;(try clear hb);(try clear hb2);(try clear hk);(try clear hi))|((with_reducible refine zbw (N:=35) rfl ?_);refine Kd.zBD (Kd.int .i64) _ 2 ?hg (N:=35) ?hd (xs:=([0,1,a1,wrap64 (Int.tdiv a1 2)]:List Int)) (inner:= [.int .i64 0,.int .i64 1,.int .i64 a1,.int .i64 (wrap64 (Int.tdiv a1 2))]) (ok:=fun _=>True) (okp:=fun _=>True) ?hr ?hp (fun _ hk=>hk) trivial (Below.refl _ _) (Nat.le_refl _) (by simp) ?_;(case hd=>rfl);(case hg=>rfl);(case hr=>first|(go_simp;done)|(go_simp;rfl));(case hp=>exact (Reps.one (show Kd.M (Kd.int .i64) _ _ _ 0 [.int .i64 0] from rfl) (Reps.one (show Kd.M (Kd.int .i64) _ _ _ 1 [.int .i64 1] from rfl) (Reps.one (show Kd.M (Kd.int .i64) _ _ _ a1 [.int .i64 a1] from rfl) (Reps.one (show Kd.M (Kd.int .i64) _ _ _ (wrap64 (Int.tdiv a1 2)) [.int .i64 (wrap64 (Int.tdiv a1 2))] from rfl) (Reps.none _ _))))));intro v129 w32 ho33 hb hg_ hnew_;clear hg_ hnew_;(first|rw [<- Ny128.out] at ho33|(simp only [Int.reduceToNat] at ho33;rw [<- Ny128.out] at ho33));have n0_:=za.mk (Kd.znX ho33 (zaL (w:=w) (g:=g) (row:=none) (by repeat (with_reducible first|exact HK.out|apply zl.set_|apply zu|apply zw))));have n1_:=za.mk (zf.below (by repeat (with_reducible first|exact HI0.out|apply zf.alloc|apply zf.drewN|apply zf.set_1|apply zf.set_2)) hb);have n2_:=za.mk (zl.trans (by repeat (with_reducible first|exact HK.out|apply zl.set_|apply zu|apply zw)) (zl.of_below hb g none) (.inl rfl));have n3_:=za.mk (zaF (by repeat (with_reducible first|exact HB.out|apply zm|apply zk|refine zh ?_ (zf.ge HI0.out))) hb);clear HI0;clear HK;clear HB;have HO130:=n0_;have HI0:=n1_;have HK:=n2_;have HB:=n3_;clear n0_ n1_ n2_ n3_;clear hb ho33;obtain ⟨Ao34,co34,eo34⟩:=Kd.zpJ HO130.out;subst eo34)|((with_reducible refine zQ (f:=68) rfl ?_);refine zaZ (some 36) rfl rfl Tryz.func68 (by kernel_rfl) rfl #[.pointer (some ⟨g,0,none⟩),.slice Ao34 y128.length co34] rfl (by (try simp only [List.map_toArray,List.map_cons,List.map_nil]);first|done|rfl) ?_;(with_reducible refine (zS.calls g s0_0 t120 t121 _ _ y128 t131 t132 t133 w0 _ ?side1 ?side2 ?side3 ?side4 ?side5 A22.out).mono ?_);(case side1=>repeat (with_reducible first|exact HI0.out|apply zf.alloc|apply zf.drewN|apply zf.set_1|apply zf.set_2));(case side2=>repeat (with_reducible first|exact HB.out|apply zm|apply zk|refine zh ?_ (zf.ge HI0.out)));(case side3=>repeat (first|exact (Kd.zg5 HO130.out).2.2|(with_reducible refine Kd.zpV ?_ _)|(with_reducible refine Kd.zpU ?_ _)|(with_reducible refine Kd.zuz ?_)));(case side4=>exact (Kd.zg5 HO130.out).2.1);(case side5=>exact zlp (zf.own_ne HI0.out HO130.out (by decide)));rintro e w35 ⟨rfl,hi,hb,hk⟩;refine ⟨_,rfl,?_⟩;have n0_:=za.mk (Kd.zmW (Kd.zp9 (zf.apart (show zf w0 _ g s0_0 t120 t121 from by repeat (with_reducible first|exact HI0.out|apply zf.alloc|apply zf.drewN|apply zf.set_1|apply zf.set_2)) (by (with_reducible repeat (first|apply Kd.zmY|apply Kd.zmX|apply Kd.zqa));exact HO130.out) (by decide)) hk (fun _ h=>h.2)) (fun _ h=>h.1));have n1_:=za.mk (zl.trans (by repeat (with_reducible first|exact HK.out|apply zl.set_|apply zu|apply zw)) hk (.inl rfl));have n2_:=za.mk (hb);have n3_:=za.mk (hi);clear HO130;clear HK;clear HB;clear HI0;have HO130:=n0_;have HK:=n1_;have HB:=n2_;have HI0:=n3_;clear n0_ n1_ n2_ n3_;(try clear hb);(try clear hb2);(try clear hk);(try clear hi))|((with_reducible refine zQ (f:=62) rfl ?_);refine zaZ (some 38) rfl rfl Tryz.func62 (by kernel_rfl) rfl #[.pointer (some ⟨g,0,none⟩),.int .i64 2] rfl (by (try simp only [List.map_toArray,List.map_cons,List.map_nil]);first|done|rfl) ?_;(with_reducible refine (zax.calls g s0_0 t132 t133 2 false t135 t136 w0 _ ?side1 ?side2 A23.out).mono ?_);(case side1=>repeat (with_reducible first|exact HI0.out|apply zf.alloc|apply zf.drewN|apply zf.set_1|apply zf.set_2));(case side2=>repeat (with_reducible first|exact HB.out|apply zm|apply zk|refine zh ?_ (zf.ge HI0.out)));rintro e w36 ⟨rfl,hi,hb,hk⟩;refine ⟨_,rfl,?_⟩;have n0_:=za.mk (Kd.zmW (Kd.zp9 (zf.apart (show zf w0 _ g s0_0 t132 t133 from by repeat (with_reducible first|exact HI0.out|apply zf.alloc|apply zf.drewN|apply zf.set_1|apply zf.set_2)) (by (with_reducible repeat (first|apply Kd.zmY|apply Kd.zmX|apply Kd.zqa));exact HO130.out) (by decide)) hk (fun _ h=>h.2)) (fun _ h=>h.1));have n1_:=za.mk (zl.trans (by repeat (with_reducible first|exact HK.out|apply zl.set_|apply zu|apply zw)) hk (.inl rfl));have n2_:=za.mk (hb);have n3_:=za.mk (hi);clear HO130;clear HK;clear HB;clear HI0;have HO130:=n0_;have HK:=n1_;have HB:=n2_;have HI0:=n3_;clear n0_ n1_ n2_ n3_;(try clear hb);(try clear hb2);(try clear hk);(try clear hi)))
        go_ret
        exact ⟨by first|rfl|(simp [*]<;>rfl),by repeat (with_reducible first|exact HI0.out|apply zf.alloc|apply zf.drewN|apply zf.set_1|apply zf.set_2),by repeat (with_reducible first|exact HB.out|apply zm|apply zk|refine zh ?_ (zf.ge HI0.out)),by repeat (with_reducible first|exact HK.out|apply zl.set_|apply zu|apply zw)⟩
      ·rw [if_neg c21] at H
       have c21b0:(t119==1)=false:=beq_eq_false_iff_ne.mpr c21
       have c21b1:(t119 != 1)=true:=bne_iff_ne.mpr c21
       obtain ⟨⟨t137,t138,t139⟩,A370,H⟩:=Option.bind_eq_some_iff.mp H
       replace H:(if t137=true then (some (wrap64 (-(Int.tmod x5_1 (wrap64 (a1+1)))),t138,t139)) else (some (Int.tmod x5_1 (wrap64 (a1+1)),t138,t139)))=some (r1,r2,r3):=H
       have A37:=za.mk A370
       clear A370
       by_cases c38:t137=true
       ·subst c38
        replace H:(some (wrap64 (-(Int.tmod x5_1 (wrap64 (a1+1)))),t138,t139))=some (r1,r2,r3):=by rw [if_pos rfl] at H;exact H
        simp only [Option.some.injEq,Prod.mk.injEq] at H
        obtain ⟨rfl,rfl,rfl⟩:=H
        go_wp2_with (first|((with_reducible refine zQ (f:=19) rfl ?_);refine zaZ (some 21) rfl rfl Tryz.func19 (by kernel_rfl) rfl #[.pointer (some ⟨g,0,none⟩),.int .i64 5] rfl (by (try simp only [List.map_toArray,List.map_cons,List.map_nil]);first|done|rfl) ?_;(with_reducible refine (zJ.calls g s0_0 x1001_1 x1002_1 5 t119 t120 t121 w0 _ ?side1 ?side2 A7.out).mono ?_);(case side1=>repeat (with_reducible first|exact HI0.out|apply zf.alloc|apply zf.drewN|apply zf.set_1|apply zf.set_2));(case side2=>repeat (with_reducible first|exact HB.out|apply zm|apply zk|refine zh ?_ (zf.ge HI0.out)));rintro e w39 ⟨rfl,hi,hb,hk⟩;refine ⟨_,rfl,?_⟩;have n0_:=za.mk (zl.trans (by repeat (with_reducible first|exact HK.out|apply zl.set_|apply zu|apply zw)) hk (.inl rfl));have n1_:=za.mk (hb);have n2_:=za.mk (hi);clear HK;clear HB;clear HI0;have HK:=n0_;have HB:=n1_;have HI0:=n2_;clear n0_ n1_ n2_;(try clear hb);(try clear hb2);(try clear hk);(try clear hi))|((with_reducible refine zQ (f:=62) rfl ?_);refine zaZ (some 38) rfl rfl Tryz.func62 (by kernel_rfl) rfl #[.pointer (some ⟨g,0,none⟩),.int .i64 2] rfl (by (try simp only [List.map_toArray,List.map_cons,List.map_nil]);first|done|rfl) ?_;(with_reducible refine (zax.calls g s0_0 t120 t121 2 true t138 t139 w0 _ ?side1 ?side2 A37.out).mono ?_);(case side1=>repeat (with_reducible first|exact HI0.out|apply zf.alloc|apply zf.drewN|apply zf.set_1|apply zf.set_2));(case side2=>repeat (with_reducible first|exact HB.out|apply zm|apply zk|refine zh ?_ (zf.ge HI0.out)));rintro e w40 ⟨rfl,hi,hb,hk⟩;refine ⟨_,rfl,?_⟩;have n0_:=za.mk (zl.trans (by repeat (with_reducible first|exact HK.out|apply zl.set_|apply zu|apply zw)) hk (.inl rfl));have n1_:=za.mk (hb);have n2_:=za.mk (hi);clear HK;clear HB;clear HI0;have HK:=n0_;have HB:=n1_;have HI0:=n2_;clear n0_ n1_ n2_;(try clear hb);(try clear hb2);(try clear hk);(try clear hi)))
        go_ret
        exact ⟨by first|rfl|(simp [*]<;>rfl),by repeat (with_reducible first|exact HI0.out|apply zf.alloc|apply zf.drewN|apply zf.set_1|apply zf.set_2),by repeat (with_reducible first|exact HB.out|apply zm|apply zk|refine zh ?_ (zf.ge HI0.out)),by repeat (with_reducible first|exact HK.out|apply zl.set_|apply zu|apply zw)⟩
       ·replace c38:=Bool.eq_false_iff.mpr c38
        subst c38
        replace H:(some (Int.tmod x5_1 (wrap64 (a1+1)),t138,t139))=some (r1,r2,r3):=by rw [if_neg (show ¬(false=true) by decide)] at H;exact H
        simp only [Option.some.injEq,Prod.mk.injEq] at H
        obtain ⟨rfl,rfl,rfl⟩:=H
        go_wp2_with (first|((with_reducible refine zQ (f:=19) rfl ?_);refine zaZ (some 21) rfl rfl Tryz.func19 (by kernel_rfl) rfl #[.pointer (some ⟨g,0,none⟩),.int .i64 5] rfl (by (try simp only [List.map_toArray,List.map_cons,List.map_nil]);first|done|rfl) ?_;(with_reducible refine (zJ.calls g s0_0 x1001_1 x1002_1 5 t119 t120 t121 w0 _ ?side1 ?side2 A7.out).mono ?_);(case side1=>repeat (with_reducible first|exact HI0.out|apply zf.alloc|apply zf.drewN|apply zf.set_1|apply zf.set_2));(case side2=>repeat (with_reducible first|exact HB.out|apply zm|apply zk|refine zh ?_ (zf.ge HI0.out)));rintro e w41 ⟨rfl,hi,hb,hk⟩;refine ⟨_,rfl,?_⟩;have n0_:=za.mk (zl.trans (by repeat (with_reducible first|exact HK.out|apply zl.set_|apply zu|apply zw)) hk (.inl rfl));have n1_:=za.mk (hb);have n2_:=za.mk (hi);clear HK;clear HB;clear HI0;have HK:=n0_;have HB:=n1_;have HI0:=n2_;clear n0_ n1_ n2_;(try clear hb);(try clear hb2);(try clear hk);(try clear hi))|((with_reducible refine zQ (f:=62) rfl ?_);refine zaZ (some 38) rfl rfl Tryz.func62 (by kernel_rfl) rfl #[.pointer (some ⟨g,0,none⟩),.int .i64 2] rfl (by (try simp only [List.map_toArray,List.map_cons,List.map_nil]);first|done|rfl) ?_;(with_reducible refine (zax.calls g s0_0 t120 t121 2 false t138 t139 w0 _ ?side1 ?side2 A37.out).mono ?_);(case side1=>repeat (with_reducible first|exact HI0.out|apply zf.alloc|apply zf.drewN|apply zf.set_1|apply zf.set_2));(case side2=>repeat (with_reducible first|exact HB.out|apply zm|apply zk|refine zh ?_ (zf.ge HI0.out)));rintro e w42 ⟨rfl,hi,hb,hk⟩;refine ⟨_,rfl,?_⟩;have n0_:=za.mk (zl.trans (by repeat (with_reducible first|exact HK.out|apply zl.set_|apply zu|apply zw)) hk (.inl rfl));have n1_:=za.mk (hb);have n2_:=za.mk (hi);clear HK;clear HB;clear HI0;have HK:=n0_;have HB:=n1_;have HI0:=n2_;clear n0_ n1_ n2_;(try clear hb);(try clear hb2);(try clear hk);(try clear hi)))
        go_ret
        exact ⟨by first|rfl|(simp [*]<;>rfl),by repeat (with_reducible first|exact HI0.out|apply zf.alloc|apply zf.drewN|apply zf.set_1|apply zf.set_2),by repeat (with_reducible first|exact HB.out|apply zm|apply zk|refine zh ?_ (zf.ge HI0.out)),by repeat (with_reducible first|exact HK.out|apply zl.set_|apply zu|apply zw)⟩
def zby.f (k:Nat) (s0_0:List Int) (s0_1:Int) (s0_2:Int):Option (Int×Int×Int×Int):=(zaE.f k s0_0 s0_1 s0_2 900000000).bind fun bt141=>((zaE.f k s0_0 bt141.2.1 bt141.2.2 1800000000).bind fun bt145=>((zbi.f bt145.1).bind fun t148=>((zJ.f s0_0 bt145.2.1 bt145.2.2 10).bind fun bt149=>(if bt149.1=0 then ((zS.f s0_0 bt149.2.1 bt149.2.2 (([900000000,(-900000000),0,1]:List Int))).bind fun bt155=>(some (bt155.1,t148,bt155.2.1,bt155.2.2))) else (if bt149.1=1 then ((zS.f s0_0 bt149.2.1 bt149.2.2 (([1800000000,(-1799999999),0,900000000,(-900000000)]:List Int))).bind fun bt161=>(some (bt141.1,bt161.1,bt161.2.1,bt161.2.2))) else (some (bt141.1,t148,bt149.2.1,bt149.2.2)))))))
set_option maxHeartbeats 8000000 in
set_option maxRecDepth 100000 in
theorem zby.calls (k:Nat) (g:Nat) (s0_0:List Int) (s0_1:Int) (s0_2:Int) (r1:Int) (r2:Int) (r3:Int) (r4:Int) (w0 w:World) (hI:zf w0 w g s0_0 s0_1 s0_2) (hB:Below w0.heap.size w0 w) (h:zby.f k s0_0 s0_1 s0_2=some (r1,r2,r3,r4)):
  Calls Tryz.prog 23 #[.pointer (some ⟨g,0,none⟩)] w fun e w'=>e= .returned (.agg #[.int .i64 r1,.int .i64 r2])/\zf w0 w' g s0_0 r3 r4/\Below w0.heap.size w0 w'/\zl w w' g none:=by
 have hu27:=Tryz.underlying27
 have HI0:=za.mk hI
 have HK:=za.mk (zl.refl w g none)
 have HL:=za.mk hB.size
 clear hI
 have HW0:=za.mk hB.size
 have HB:=za.mk hB
 clear hB
 have H:((zaE.f k s0_0 s0_1 s0_2 900000000).bind fun bt141=>((zaE.f k s0_0 bt141.2.1 bt141.2.2 1800000000).bind fun bt145=>((zbi.f bt145.1).bind fun t148=>((zJ.f s0_0 bt145.2.1 bt145.2.2 10).bind fun bt149=>(if bt149.1=0 then ((zS.f s0_0 bt149.2.1 bt149.2.2 (([900000000,(-900000000),0,1]:List Int))).bind fun bt155=>(some (bt155.1,t148,bt155.2.1,bt155.2.2))) else (if bt149.1=1 then ((zS.f s0_0 bt149.2.1 bt149.2.2 (([1800000000,(-1799999999),0,900000000,(-900000000)]:List Int))).bind fun bt161=>(some (bt141.1,bt161.1,bt161.2.1,bt161.2.2))) else (some (bt141.1,t148,bt149.2.1,bt149.2.2))))))))=some (r1,r2,r3,r4):=h
 clear h
 obtain ⟨⟨t141,t142,t143⟩,A20,H⟩:=Option.bind_eq_some_iff.mp H
 replace H:((zaE.f k s0_0 t142 t143 1800000000).bind fun bt145=>((zbi.f bt145.1).bind fun t148=>((zJ.f s0_0 bt145.2.1 bt145.2.2 10).bind fun bt149=>(if bt149.1=0 then ((zS.f s0_0 bt149.2.1 bt149.2.2 (([900000000,(-900000000),0,1]:List Int))).bind fun bt155=>(some (bt155.1,t148,bt155.2.1,bt155.2.2))) else (if bt149.1=1 then ((zS.f s0_0 bt149.2.1 bt149.2.2 (([1800000000,(-1799999999),0,900000000,(-900000000)]:List Int))).bind fun bt161=>(some (t141,bt161.1,bt161.2.1,bt161.2.2))) else (some (t141,t148,bt149.2.1,bt149.2.2)))))))=some (r1,r2,r3,r4):=H
 have A2:=za.mk A20
 clear A20
 obtain ⟨⟨t145,t146,t147⟩,A30,H⟩:=Option.bind_eq_some_iff.mp H
 replace H:((zbi.f t145).bind fun t148=>((zJ.f s0_0 t146 t147 10).bind fun bt149=>(if bt149.1=0 then ((zS.f s0_0 bt149.2.1 bt149.2.2 (([900000000,(-900000000),0,1]:List Int))).bind fun bt155=>(some (bt155.1,t148,bt155.2.1,bt155.2.2))) else (if bt149.1=1 then ((zS.f s0_0 bt149.2.1 bt149.2.2 (([1800000000,(-1799999999),0,900000000,(-900000000)]:List Int))).bind fun bt161=>(some (t141,bt161.1,bt161.2.1,bt161.2.2))) else (some (t141,t148,bt149.2.1,bt149.2.2))))))=some (r1,r2,r3,r4):=H
 have A3:=za.mk A30
 clear A30
 obtain ⟨t148,A40,H⟩:=Option.bind_eq_some_iff.mp H
 replace H:((zJ.f s0_0 t146 t147 10).bind fun bt149=>(if bt149.1=0 then ((zS.f s0_0 bt149.2.1 bt149.2.2 (([900000000,(-900000000),0,1]:List Int))).bind fun bt155=>(some (bt155.1,t148,bt155.2.1,bt155.2.2))) else (if bt149.1=1 then ((zS.f s0_0 bt149.2.1 bt149.2.2 (([1800000000,(-1799999999),0,900000000,(-900000000)]:List Int))).bind fun bt161=>(some (t141,bt161.1,bt161.2.1,bt161.2.2))) else (some (t141,t148,bt149.2.1,bt149.2.2)))))=some (r1,r2,r3,r4):=H
 have A4:=za.mk A40
 clear A40
 obtain ⟨⟨t149,t150,t151⟩,A50,H⟩:=Option.bind_eq_some_iff.mp H
 replace H:(if t149=0 then ((zS.f s0_0 t150 t151 (([900000000,(-900000000),0,1]:List Int))).bind fun bt155=>(some (bt155.1,t148,bt155.2.1,bt155.2.2))) else (if t149=1 then ((zS.f s0_0 t150 t151 (([1800000000,(-1799999999),0,900000000,(-900000000)]:List Int))).bind fun bt161=>(some (t141,bt161.1,bt161.2.1,bt161.2.2))) else (some (t141,t148,t150,t151))))=some (r1,r2,r3,r4):=H
 have A5:=za.mk A50
 clear A50
 by_cases c6:t149=0
 ·rw [if_pos c6] at H
  have c6b0:(t149==0)=true:=beq_iff_eq.mpr c6
  have c6b1:(t149 != 0)=false:=bne_eq_false_iff_eq.mpr c6
  clear c6
  obtain ⟨y152,hy152⟩:∃y_:List Int,y_=(([900000000,(-900000000),0,1]:List Int)):=⟨_,rfl⟩
  replace H:((zS.f s0_0 t150 t151 y152).bind fun bt155=>(some (bt155.1,t148,bt155.2.1,bt155.2.2)))=some (r1,r2,r3,r4):=by first|(rw [hy152];with_reducible exact H)|(have H2_:=(Option.bind_some _ _).symm.trans H;rw [hy152];with_reducible exact H2_)|(have H2_:=(Option.bind_some _ _).symm.trans H;with_reducible exact H2_)|with_reducible exact H|(rw [hy152];exact H)|exact H
  have Ny152:=za.mk hy152
  clear hy152
  obtain ⟨⟨t155,t156,t157⟩,A70,H⟩:=Option.bind_eq_some_iff.mp H
  replace H:(some (t155,t148,t156,t157))=some (r1,r2,r3,r4):=H
  have A7:=za.mk A70
  clear A70
  simp only [Option.some.injEq,Prod.mk.injEq] at H
  obtain ⟨rfl,rfl,rfl,rfl⟩:=H
  go_enter Tryz.func23,Tryz.ntmps23
  go_wp2_with (first|((with_reducible refine zbw (N:=2) rfl ?_);refine zbz ?hg (N:=2) ?hd (cs:=#[.int .i64 0,.int .i64 0]) (t:=27) ?hr ?_;(case hd=>rfl);(case hg=>rfl);(case hr=>first|(go_simp;done)|(go_simp;rfl));intro gb140 hg w8 hbox hb;have n0_:=za.mk (zf.below (by repeat (with_reducible first|exact HI0.out|apply zf.alloc|apply zf.drewN|apply zf.set_1|apply zf.set_2)) hb);have n1_:=za.mk (zl.trans (by repeat (with_reducible first|exact HK.out|apply zl.set_|apply zu|apply zw)) (zl.of_below hb g none) (.inl rfl));have n2_:=za.mk (zaF (by repeat (with_reducible first|exact HB.out|apply zm|apply zk|refine zh ?_ (zf.ge HI0.out))) hb);have n3_:=za.mk (hbox);have n4_:=za.mk ((by rw [hg];exact (zaL (w:=w) (g:=g) (row:=none) (by repeat (with_reducible first|exact HK.out|apply zl.set_|apply zu|apply zw))):w.heap.size<=gb140));have n5_:=za.mk ((Nat.le_trans HW0.out (by rw [hg];exact (zaL (w:=w) (g:=g) (row:=none) (by repeat (with_reducible first|exact HK.out|apply zl.set_|apply zu|apply zw))):w.heap.size<=gb140):w0.heap.size<=gb140));have n6_:=za.mk ((by rw [hg];exact Nat.ne_of_lt (zf.lt (show zf w0 _ g s0_0 s0_1 s0_2 from by repeat (with_reducible first|exact HI0.out|apply zf.alloc|apply zf.drewN|apply zf.set_1|apply zf.set_2))):g≠gb140));have n7_:=za.mk ((by rw [hg];exact Nat.ne_of_gt (zf.lt (show zf w0 _ g s0_0 s0_1 s0_2 from by repeat (with_reducible first|exact HI0.out|apply zf.alloc|apply zf.drewN|apply zf.set_1|apply zf.set_2))):gb140≠g));clear HI0;clear HK;clear HB;have HI0:=n0_;have HK:=n1_;have HB:=n2_;have BK140:=n3_;have GW140:=n4_;have GE140:=n5_;have NB0_140:=n6_;have NB140_0:=n7_;clear n0_ n1_ n2_ n3_ n4_ n5_ n6_ n7_;clear hb hbox hg)|((with_reducible refine zQ (f:=67) rfl ?_);refine zaZ (some 5) rfl rfl Tryz.func67 (by kernel_rfl) rfl #[.pointer (some ⟨g,0,none⟩),.int .i64 900000000] rfl (by (try simp only [List.map_toArray,List.map_cons,List.map_nil]);first|done|rfl) ?_;(with_reducible refine (zaE.calls k g s0_0 s0_1 s0_2 900000000 t141 t142 t143 w0 _ ?side1 ?side2 A2.out).mono ?_);(case side1=>repeat (with_reducible first|exact HI0.out|apply zf.alloc|apply zf.drewN|apply zf.set_1|apply zf.set_2|refine zf.far ?_ NB0_140.out _));(case side2=>repeat (with_reducible first|exact HB.out|apply zm|apply zk|refine zh ?_ (zf.ge HI0.out)|refine zh ?_ GE140.out));rintro e w9 ⟨rfl,hi,hb,hk⟩;refine ⟨_,rfl,?_⟩;have n0_:=za.mk (zl.blk hk (g':=gb140) (o:= .cells #[.int .i64 0,.int .i64 0] 27 (0,0)) (by exact BK140.out) NB140_0.out (by simp));have n1_:=za.mk (zl.trans (by repeat (with_reducible first|exact HK.out|apply zl.set_|apply zu|apply zw|refine zF ?_ GW140.out _)) hk (.inl rfl));have n2_:=za.mk (hb);have n3_:=za.mk (hi);clear BK140;clear HK;clear HB;clear HI0;have BK140:=n0_;have HK:=n1_;have HB:=n2_;have HI0:=n3_;clear n0_ n1_ n2_ n3_;(try clear hb);(try clear hb2);(try clear hk);(try clear hi))|((with_reducible refine zbw (N:=3) rfl ?_);refine zbz ?hg (N:=3) ?hd (cs:=#[.int .i64 0,.int .i64 0]) (t:=27) ?hr ?_;(case hd=>rfl);(case hg=>rfl);(case hr=>first|(go_simp;done)|(go_simp;rfl));intro gb144 hg w10 hbox hb;have n0_:=za.mk (zf.below (by repeat (with_reducible first|exact HI0.out|apply zf.alloc|apply zf.drewN|apply zf.set_1|apply zf.set_2|refine zf.far ?_ NB0_140.out _)) hb);have n1_:=za.mk (zaC (g:=gb140) (o:= .cells #[.int .i64 0,.int .i64 0] 27 (0,0)) (by exact BK140.out) hb);have n2_:=za.mk (zl.trans (by repeat (with_reducible first|exact HK.out|apply zl.set_|apply zu|apply zw|refine zF ?_ GW140.out _)) (zl.of_below hb g none) (.inl rfl));have n3_:=za.mk (zaF (by repeat (with_reducible first|exact HB.out|apply zm|apply zk|refine zh ?_ (zf.ge HI0.out)|refine zh ?_ GE140.out)) hb);have n4_:=za.mk (hbox);have n5_:=za.mk ((by rw [hg];exact (zaL (w:=w) (g:=g) (row:=none) (by repeat (with_reducible first|exact HK.out|apply zl.set_|apply zu|apply zw|refine zF ?_ GW140.out _))):w.heap.size<=gb144));have n6_:=za.mk ((Nat.le_trans HW0.out (by rw [hg];exact (zaL (w:=w) (g:=g) (row:=none) (by repeat (with_reducible first|exact HK.out|apply zl.set_|apply zu|apply zw|refine zF ?_ GW140.out _))):w.heap.size<=gb144):w0.heap.size<=gb144));have n7_:=za.mk ((by rw [hg];exact Nat.ne_of_lt (zco (g:=gb140) (o:= .cells #[.int .i64 0,.int .i64 0] 27 (0,0)) (by exact BK140.out)):gb140≠gb144));have n8_:=za.mk ((by rw [hg];exact Nat.ne_of_gt (zco (g:=gb140) (o:= .cells #[.int .i64 0,.int .i64 0] 27 (0,0)) (by exact BK140.out)):gb144≠gb140));have n9_:=za.mk ((by rw [hg];exact Nat.ne_of_lt (zf.lt (show zf w0 _ g s0_0 t142 t143 from by repeat (with_reducible first|exact HI0.out|apply zf.alloc|apply zf.drewN|apply zf.set_1|apply zf.set_2|refine zf.far ?_ NB0_140.out _))):g≠gb144));have n10_:=za.mk ((by rw [hg];exact Nat.ne_of_gt (zf.lt (show zf w0 _ g s0_0 t142 t143 from by repeat (with_reducible first|exact HI0.out|apply zf.alloc|apply zf.drewN|apply zf.set_1|apply zf.set_2|refine zf.far ?_ NB0_140.out _))):gb144≠g));clear HI0;clear BK140;clear HK;clear HB;have HI0:=n0_;have BK140:=n1_;have HK:=n2_;have HB:=n3_;have BK144:=n4_;have GW144:=n5_;have GE144:=n6_;have NB140_144:=n7_;have NB144_140:=n8_;have NB0_144:=n9_;have NB144_0:=n10_;clear n0_ n1_ n2_ n3_ n4_ n5_ n6_ n7_ n8_ n9_ n10_;clear hb hbox hg;have hnb11:=NB144_140.out;have hnc11:=NB140_144.out;have hnb12:=NB144_0.out;have hnc12:=NB0_144.out;have hcz13_0:w10.cell? ⟨gb144,0,none⟩=some (.int .i64 0):=(zq BK144.out 0).trans rfl;have hcz13_1:w10.cell? ⟨gb144,1,none⟩=some (.int .i64 0):=(zq BK144.out 1).trans rfl;have hfz13_0:=zn BK144.out 0;have hfz13_1:=zn BK144.out 1)|((with_reducible refine zQ (f:=67) rfl ?_);refine zaZ (some 8) rfl rfl Tryz.func67 (by kernel_rfl) rfl #[.pointer (some ⟨g,0,none⟩),.int .i64 1800000000] rfl (by (try simp only [List.map_toArray,List.map_cons,List.map_nil]);first|done|rfl) ?_;(with_reducible refine (zaE.calls k g s0_0 t142 t143 1800000000 t145 t146 t147 w0 _ ?side1 ?side2 A3.out).mono ?_);(case side1=>repeat (with_reducible first|exact HI0.out|apply zf.alloc|apply zf.drewN|apply zf.set_1|apply zf.set_2|refine zf.far ?_ NB0_140.out _|refine zf.far ?_ NB0_144.out _));(case side2=>repeat (with_reducible first|exact HB.out|apply zm|apply zk|refine zh ?_ (zf.ge HI0.out)|refine zh ?_ GE140.out|refine zh ?_ GE144.out));rintro e w14 ⟨rfl,hi,hb,hk⟩;refine ⟨_,rfl,?_⟩;have n0_:=za.mk (zl.blk hk (g':=gb140) (o:= .cells #[.int .i64 0,.int .i64 0] 27 (0,0)) (by refine zal ?_ NB140_144.out _;refine zal ?_ NB140_144.out _;exact BK140.out) NB140_0.out (by simp));have n1_:=za.mk (zl.blk hk (g':=gb144) (o:= .cells #[.int .i64 t141,.int .i64 0] 27 (0,0)) (by refine zaq (cs:=#[.int .i64 t141,.int .i64 0]) ?_ 1 _ rfl;refine zaq (cs:=#[.int .i64 0,.int .i64 0]) ?_ 0 _ rfl;exact BK144.out) NB144_0.out (by simp));have n2_:=za.mk (zl.trans (by repeat (with_reducible first|exact HK.out|apply zl.set_|apply zu|apply zw|refine zF ?_ GW140.out _|refine zF ?_ GW144.out _)) hk (.inl rfl));have n3_:=za.mk (hb);have n4_:=za.mk (hi);clear BK140;clear BK144;clear HK;clear HB;clear HI0;have BK140:=n0_;have BK144:=n1_;have HK:=n2_;have HB:=n3_;have HI0:=n4_;clear n0_ n1_ n2_ n3_ n4_;(try clear hb);(try clear hb2);(try clear hk);(try clear hi))|((with_reducible refine zQ (f:=52) rfl ?_);refine zaZ (some 9) rfl rfl Tryz.func52 (by kernel_rfl) rfl #[.int .i64 t145] rfl (by (try simp only [List.map_toArray,List.map_cons,List.map_nil]);first|done|rfl) ?_;(with_reducible refine (zbi.calls t145 t148 _ A4.out).mono ?_);rintro e w' ⟨rfl,⟨nd,rfl⟩⟩;refine ⟨_,rfl,?_⟩;(try (rw [znd w14];generalize hq_:World.drewN w14 _=w14;have n0_:za (w14.heap[gb140]?=some (.cells #[.int .i64 0,.int .i64 0] 27 (0,0))):=⟨by rw [<- hq_];exact (by exact BK140.out)⟩;have n1_:za (w14.heap[gb144]?=some (.cells #[.int .i64 t141,.int .i64 0] 27 (0,0))):=⟨by rw [<- hq_];exact (by exact BK144.out)⟩;have n2_:za (zf w0 w14 g s0_0 t146 t147):=⟨by rw [<- hq_];exact (by repeat (with_reducible first|exact HI0.out|apply zf.alloc|apply zf.drewN|apply zf.set_1|apply zf.set_2|refine zf.far ?_ NB0_140.out _|refine zf.far ?_ NB0_144.out _))⟩;have n3_:za (zl w w14 g none):=⟨by rw [<- hq_];exact (by repeat (with_reducible first|exact HK.out|apply zl.set_|apply zu|apply zw|refine zF ?_ GW140.out _|refine zF ?_ GW144.out _))⟩;have n4_:za (Below w0.heap.size w0 w14):=⟨by rw [<- hq_];exact (by repeat (with_reducible first|exact HB.out|apply zm|apply zk|refine zh ?_ (zf.ge HI0.out)|refine zh ?_ GE140.out|refine zh ?_ GE144.out))⟩;clear BK140 BK144 HI0 HK HB hq_;have BK140:=n0_;have BK144:=n1_;have HI0:=n2_;have HK:=n3_;have HB:=n4_;clear n0_ n1_ n2_ n3_ n4_));have hcz15_0:w14.cell? ⟨gb144,0,none⟩=some (.int .i64 t141):=(zq BK144.out 0).trans rfl;have hcz15_1:w14.cell? ⟨gb144,1,none⟩=some (.int .i64 0):=(zq BK144.out 1).trans rfl;have hfz15_0:=zn BK144.out 0;have hfz15_1:=zn BK144.out 1)|((with_reducible refine zQ (f:=19) rfl ?_);refine zaZ (some 12) rfl rfl Tryz.func19 (by kernel_rfl) rfl #[.pointer (some ⟨g,0,none⟩),.int .i64 10] rfl (by (try simp only [List.map_toArray,List.map_cons,List.map_nil]);first|done|rfl) ?_;(with_reducible refine (zJ.calls g s0_0 t146 t147 10 t149 t150 t151 w0 _ ?side1 ?side2 A5.out).mono ?_);(case side1=>repeat (with_reducible first|exact HI0.out|apply zf.alloc|apply zf.drewN|apply zf.set_1|apply zf.set_2|refine zf.far ?_ NB0_140.out _|refine zf.far ?_ NB0_144.out _));(case side2=>repeat (with_reducible first|exact HB.out|apply zm|apply zk|refine zh ?_ (zf.ge HI0.out)|refine zh ?_ GE140.out|refine zh ?_ GE144.out));rintro e w16 ⟨rfl,hi,hb,hk⟩;refine ⟨_,rfl,?_⟩;have n0_:=za.mk (zl.blk hk (g':=gb140) (o:= .cells #[.int .i64 0,.int .i64 0] 27 (0,0)) (by refine zal ?_ NB140_144.out _;exact BK140.out) NB140_0.out (by simp));have n1_:=za.mk (zl.blk hk (g':=gb144) (o:= .cells #[.int .i64 t141,.int .i64 t148] 27 (0,0)) (by refine zaq (cs:=#[.int .i64 t141,.int .i64 0]) ?_ 1 _ rfl;exact BK144.out) NB144_0.out (by simp));have n2_:=za.mk (zl.trans (by repeat (with_reducible first|exact HK.out|apply zl.set_|apply zu|apply zw|refine zF ?_ GW140.out _|refine zF ?_ GW144.out _)) hk (.inl rfl));have n3_:=za.mk (hb);have n4_:=za.mk (hi);clear BK140;clear BK144;clear HK;clear HB;clear HI0;have BK140:=n0_;have BK144:=n1_;have HK:=n2_;have HB:=n3_;have HI0:=n4_;clear n0_ n1_ n2_ n3_ n4_;(try clear hb);(try clear hb2);(try clear hk);(try clear hi))|((with_reducible refine zbw (N:=16) rfl ?_);refine Kd.zBD (Kd.int .i64) _ 2 ?hg (N:=16) ?hd (xs:=([900000000,(-900000000),0,1]:List Int)) (inner:= [.int .i64 900000000,.int .i64 (-900000000),.int .i64 0,.int .i64 1]) (ok:=fun _=>True) (okp:=fun _=>True) ?hr ?hp (fun _ hk=>hk) trivial (Below.refl _ _) (Nat.le_refl _) (by simp) ?_;(case hd=>rfl);(case hg=>rfl);(case hr=>first|(go_simp;done)|(go_simp;rfl));(case hp=>exact (Reps.one (show Kd.M (Kd.int .i64) _ _ _ 900000000 [.int .i64 900000000] from rfl) (Reps.one (show Kd.M (Kd.int .i64) _ _ _ (-900000000) [.int .i64 (-900000000)] from rfl) (Reps.one (show Kd.M (Kd.int .i64) _ _ _ 0 [.int .i64 0] from rfl) (Reps.one (show Kd.M (Kd.int .i64) _ _ _ 1 [.int .i64 1] from rfl) (Reps.none _ _))))));intro v153 w17 ho18 hb hg_ hnew_;clear hg_ hnew_;(first|rw [<- Ny152.out] at ho18|(simp only [Int.reduceToNat] at ho18;rw [<- Ny152.out] at ho18));have n0_:=za.mk (Kd.znX ho18 (zaL (w:=w) (g:=g) (row:=none) (by repeat (with_reducible first|exact HK.out|apply zl.set_|apply zu|apply zw|refine zF ?_ GW140.out _|refine zF ?_ GW144.out _))));have n1_:=za.mk (zf.below (by repeat (with_reducible first|exact HI0.out|apply zf.alloc|apply zf.drewN|apply zf.set_1|apply zf.set_2|refine zf.far ?_ NB0_140.out _|refine zf.far ?_ NB0_144.out _)) hb);have n2_:=za.mk (zaC (g:=gb140) (o:= .cells #[.int .i64 0,.int .i64 0] 27 (0,0)) (by exact BK140.out) hb);have n3_:=za.mk (zaC (g:=gb144) (o:= .cells #[.int .i64 t141,.int .i64 t148] 27 (0,0)) (by exact BK144.out) hb);have n4_:=za.mk (zl.trans (by repeat (with_reducible first|exact HK.out|apply zl.set_|apply zu|apply zw|refine zF ?_ GW140.out _|refine zF ?_ GW144.out _)) (zl.of_below hb g none) (.inl rfl));have n5_:=za.mk (zaF (by repeat (with_reducible first|exact HB.out|apply zm|apply zk|refine zh ?_ (zf.ge HI0.out)|refine zh ?_ GE140.out|refine zh ?_ GE144.out)) hb);clear HI0;clear BK140;clear BK144;clear HK;clear HB;have HO154:=n0_;have HI0:=n1_;have BK140:=n2_;have BK144:=n3_;have HK:=n4_;have HB:=n5_;clear n0_ n1_ n2_ n3_ n4_ n5_;clear hb ho18;obtain ⟨Ao19,co19,eo19⟩:=Kd.zpJ HO154.out;subst eo19)|((with_reducible refine zQ (f:=68) rfl ?_);refine zaZ (some 17) rfl rfl Tryz.func68 (by kernel_rfl) rfl #[.pointer (some ⟨g,0,none⟩),.slice Ao19 y152.length co19] rfl (by (try simp only [List.map_toArray,List.map_cons,List.map_nil]);first|done|rfl) ?_;(with_reducible refine (zS.calls g s0_0 t150 t151 _ _ y152 t155 t156 t157 w0 _ ?side1 ?side2 ?side3 ?side4 ?side5 A7.out).mono ?_);(case side1=>repeat (with_reducible first|exact HI0.out|apply zf.alloc|apply zf.drewN|apply zf.set_1|apply zf.set_2|refine zf.far ?_ NB0_140.out _|refine zf.far ?_ NB0_144.out _));(case side2=>repeat (with_reducible first|exact HB.out|apply zm|apply zk|refine zh ?_ (zf.ge HI0.out)|refine zh ?_ GE140.out|refine zh ?_ GE144.out));(case side3=>repeat (first|exact (Kd.zg5 HO154.out).2.2|(with_reducible refine Kd.zpV ?_ _)|(with_reducible refine Kd.zpU ?_ _)|(with_reducible refine Kd.zuz ?_)));(case side4=>exact (Kd.zg5 HO154.out).2.1);(case side5=>exact zlp (zf.own_ne HI0.out HO154.out (by decide)));rintro e w20 ⟨rfl,hi,hb,hk⟩;refine ⟨_,rfl,?_⟩;have n0_:=za.mk (zl.blk hk (g':=gb140) (o:= .cells #[.int .i64 0,.int .i64 0] 27 (0,0)) (by exact BK140.out) NB140_0.out (by simp));have n1_:=za.mk (zl.blk hk (g':=gb144) (o:= .cells #[.int .i64 t141,.int .i64 t148] 27 (0,0)) (by exact BK144.out) NB144_0.out (by simp));have n2_:=za.mk (Kd.zmW (Kd.zp9 (zf.apart (show zf w0 _ g s0_0 t150 t151 from by repeat (with_reducible first|exact HI0.out|apply zf.alloc|apply zf.drewN|apply zf.set_1|apply zf.set_2|refine zf.far ?_ NB0_140.out _|refine zf.far ?_ NB0_144.out _)) (by (with_reducible repeat (first|apply Kd.zmY|apply Kd.zmX|apply Kd.zqa));exact HO154.out) (by decide)) hk (fun _ h=>h.2)) (fun _ h=>h.1));have n3_:=za.mk (zl.trans (by repeat (with_reducible first|exact HK.out|apply zl.set_|apply zu|apply zw|refine zF ?_ GW140.out _|refine zF ?_ GW144.out _)) hk (.inl rfl));have n4_:=za.mk (hb);have n5_:=za.mk (hi);clear BK140;clear BK144;clear HO154;clear HK;clear HB;clear HI0;have BK140:=n0_;have BK144:=n1_;have HO154:=n2_;have HK:=n3_;have HB:=n4_;have HI0:=n5_;clear n0_ n1_ n2_ n3_ n4_ n5_;(try clear hb);(try clear hb2);(try clear hk);(try clear hi);have hcz21_0:w20.cell? ⟨gb144,0,none⟩=some (.int .i64 t141):=(zq BK144.out 0).trans rfl;have hcz21_1:w20.cell? ⟨gb144,1,none⟩=some (.int .i64 t148):=(zq BK144.out 1).trans rfl;have hfz21_0:=zn BK144.out 0;have hfz21_1:=zn BK144.out 1;have hnb22:=NB140_0.out;have hnc22:=NB0_140.out;have hcz23_0:w20.cell? ⟨gb140,0,none⟩=some (.int .i64 0):=(zq BK140.out 0).trans rfl;have hcz23_1:w20.cell? ⟨gb140,1,none⟩=some (.int .i64 0):=(zq BK140.out 1).trans rfl;have hfz23_0:=zn BK140.out 0;have hfz23_1:=zn BK140.out 1))
  refine bodyPost_ret (results_cell_row rfl _ _ gb140 27 #[.int .i64 t155,.int .i64 t148] (0,0) _ rfl (by refine zaq (cs:=#[.int .i64 t155,.int .i64 0]) ?_ 1 _ rfl;refine zaq (cs:=#[.int .i64 0,.int .i64 0]) ?_ 0 _ rfl;refine zal ?_ NB140_144.out _;exact BK140.out) Tryz.underlying27 rfl (by kernel_rfl)) rfl ?_
  exact ⟨by first|rfl|(simp [*]<;>rfl),by repeat (with_reducible first|exact HI0.out|apply zf.alloc|apply zf.drewN|apply zf.set_1|apply zf.set_2|refine zf.far ?_ NB0_140.out _|refine zf.far ?_ NB0_144.out _),by repeat (with_reducible first|exact HB.out|apply zm|apply zk|refine zh ?_ (zf.ge HI0.out)|refine zh ?_ GE140.out|refine zh ?_ GE144.out),by repeat (with_reducible first|exact HK.out|apply zl.set_|apply zu|apply zw|refine zF ?_ GW140.out _|refine zF ?_ GW144.out _)⟩
 ·rw [if_neg c6] at H
  have c6b0:(t149==0)=false:=beq_eq_false_iff_ne.mpr c6
  have c6b1:(t149 != 0)=true:=bne_iff_ne.mpr c6
  by_cases c24:t149=1
  ·rw [if_pos c24] at H
   have c24b0:(t149==1)=true:=beq_iff_eq.mpr c24
   have c24b1:(t149 != 1)=false:=bne_eq_false_iff_eq.mpr c24
   clear c24
   obtain ⟨y158,hy158⟩:∃y_:List Int,y_=(([1800000000,(-1799999999),0,900000000,(-900000000)]:List Int)):=⟨_,rfl⟩
   replace H:((zS.f s0_0 t150 t151 y158).bind fun bt161=>(some (t141,bt161.1,bt161.2.1,bt161.2.2)))=some (r1,r2,r3,r4):=by first|(rw [hy158];with_reducible exact H)|(have H2_:=(Option.bind_some _ _).symm.trans H;rw [hy158];with_reducible exact H2_)|(have H2_:=(Option.bind_some _ _).symm.trans H;with_reducible exact H2_)|with_reducible exact H|(rw [hy158];exact H)|exact H
   have Ny158:=za.mk hy158
   clear hy158
   obtain ⟨⟨t161,t162,t163⟩,A250,H⟩:=Option.bind_eq_some_iff.mp H
   replace H:(some (t141,t161,t162,t163))=some (r1,r2,r3,r4):=H
   have A25:=za.mk A250
   clear A250
   simp only [Option.some.injEq,Prod.mk.injEq] at H
   obtain ⟨rfl,rfl,rfl,rfl⟩:=H
   go_enter Tryz.func23,Tryz.ntmps23
   go_wp2_with (first|((with_reducible refine zbw (N:=2) rfl ?_);refine zbz ?hg (N:=2) ?hd (cs:=#[.int .i64 0,.int .i64 0]) (t:=27) ?hr ?_;(case hd=>rfl);(case hg=>rfl);(case hr=>first|(go_simp;done)|(go_simp;rfl));intro gb140 hg w26 hbox hb;have n0_:=za.mk (zf.below (by repeat (with_reducible first|exact HI0.out|apply zf.alloc|apply zf.drewN|apply zf.set_1|apply zf.set_2)) hb);have n1_:=za.mk (zl.trans (by repeat (with_reducible first|exact HK.out|apply zl.set_|apply zu|apply zw)) (zl.of_below hb g none) (.inl rfl));have n2_:=za.mk (zaF (by repeat (with_reducible first|exact HB.out|apply zm|apply zk|refine zh ?_ (zf.ge HI0.out))) hb);have n3_:=za.mk (hbox);have n4_:=za.mk ((by rw [hg];exact (zaL (w:=w) (g:=g) (row:=none) (by repeat (with_reducible first|exact HK.out|apply zl.set_|apply zu|apply zw))):w.heap.size<=gb140));have n5_:=za.mk ((Nat.le_trans HW0.out (by rw [hg];exact (zaL (w:=w) (g:=g) (row:=none) (by repeat (with_reducible first|exact HK.out|apply zl.set_|apply zu|apply zw))):w.heap.size<=gb140):w0.heap.size<=gb140));have n6_:=za.mk ((by rw [hg];exact Nat.ne_of_lt (zf.lt (show zf w0 _ g s0_0 s0_1 s0_2 from by repeat (with_reducible first|exact HI0.out|apply zf.alloc|apply zf.drewN|apply zf.set_1|apply zf.set_2))):g≠gb140));have n7_:=za.mk ((by rw [hg];exact Nat.ne_of_gt (zf.lt (show zf w0 _ g s0_0 s0_1 s0_2 from by repeat (with_reducible first|exact HI0.out|apply zf.alloc|apply zf.drewN|apply zf.set_1|apply zf.set_2))):gb140≠g));clear HI0;clear HK;clear HB;have HI0:=n0_;have HK:=n1_;have HB:=n2_;have BK140:=n3_;have GW140:=n4_;have GE140:=n5_;have NB0_140:=n6_;have NB140_0:=n7_;clear n0_ n1_ n2_ n3_ n4_ n5_ n6_ n7_;clear hb hbox hg)|((with_reducible refine zQ (f:=67) rfl ?_);refine zaZ (some 5) rfl rfl Tryz.func67 (by kernel_rfl) rfl #[.pointer (some ⟨g,0,none⟩),.int .i64 900000000] rfl (by (try simp only [List.map_toArray,List.map_cons,List.map_nil]);first|done|rfl) ?_;(with_reducible refine (zaE.calls k g s0_0 s0_1 s0_2 900000000 t141 t142 t143 w0 _ ?side1 ?side2 A2.out).mono ?_);(case side1=>repeat (with_reducible first|exact HI0.out|apply zf.alloc|apply zf.drewN|apply zf.set_1|apply zf.set_2|refine zf.far ?_ NB0_140.out _));(case side2=>repeat (with_reducible first|exact HB.out|apply zm|apply zk|refine zh ?_ (zf.ge HI0.out)|refine zh ?_ GE140.out));rintro e w27 ⟨rfl,hi,hb,hk⟩;refine ⟨_,rfl,?_⟩;have n0_:=za.mk (zl.blk hk (g':=gb140) (o:= .cells #[.int .i64 0,.int .i64 0] 27 (0,0)) (by exact BK140.out) NB140_0.out (by simp));have n1_:=za.mk (zl.trans (by repeat (with_reducible first|exact HK.out|apply zl.set_|apply zu|apply zw|refine zF ?_ GW140.out _)) hk (.inl rfl));have n2_:=za.mk (hb);have n3_:=za.mk (hi);clear BK140;clear HK;clear HB;clear HI0;have BK140:=n0_;have HK:=n1_;have HB:=n2_;have HI0:=n3_;clear n0_ n1_ n2_ n3_;(try clear hb);(try clear hb2);(try clear hk);(try clear hi))|((with_reducible refine zbw (N:=3) rfl ?_);refine zbz ?hg (N:=3) ?hd (cs:=#[.int .i64 0,.int .i64 0]) (t:=27) ?hr ?_;(case hd=>rfl);(case hg=>rfl);(case hr=>first|(go_simp;done)|(go_simp;rfl));intro gb144 hg w28 hbox hb;have n0_:=za.mk (zf.below (by repeat (with_reducible first|exact HI0.out|apply zf.alloc|apply zf.drewN|apply zf.set_1|apply zf.set_2|refine zf.far ?_ NB0_140.out _)) hb);have n1_:=za.mk (zaC (g:=gb140) (o:= .cells #[.int .i64 0,.int .i64 0] 27 (0,0)) (by exact BK140.out) hb);have n2_:=za.mk (zl.trans (by repeat (with_reducible first|exact HK.out|apply zl.set_|apply zu|apply zw|refine zF ?_ GW140.out _)) (zl.of_below hb g none) (.inl rfl));have n3_:=za.mk (zaF (by repeat (with_reducible first|exact HB.out|apply zm|apply zk|refine zh ?_ (zf.ge HI0.out)|refine zh ?_ GE140.out)) hb);have n4_:=za.mk (hbox);have n5_:=za.mk ((by rw [hg];exact (zaL (w:=w) (g:=g) (row:=none) (by repeat (with_reducible first|exact HK.out|apply zl.set_|apply zu|apply zw|refine zF ?_ GW140.out _))):w.heap.size<=gb144));have n6_:=za.mk ((Nat.le_trans HW0.out (by rw [hg];exact (zaL (w:=w) (g:=g) (row:=none) (by repeat (with_reducible first|exact HK.out|apply zl.set_|apply zu|apply zw|refine zF ?_ GW140.out _))):w.heap.size<=gb144):w0.heap.size<=gb144));have n7_:=za.mk ((by rw [hg];exact Nat.ne_of_lt (zco (g:=gb140) (o:= .cells #[.int .i64 0,.int .i64 0] 27 (0,0)) (by exact BK140.out)):gb140≠gb144));have n8_:=za.mk ((by rw [hg];exact Nat.ne_of_gt (zco (g:=gb140) (o:= .cells #[.int .i64 0,.int .i64 0] 27 (0,0)) (by exact BK140.out)):gb144≠gb140));have n9_:=za.mk ((by rw [hg];exact Nat.ne_of_lt (zf.lt (show zf w0 _ g s0_0 t142 t143 from by repeat (with_reducible first|exact HI0.out|apply zf.alloc|apply zf.drewN|apply zf.set_1|apply zf.set_2|refine zf.far ?_ NB0_140.out _))):g≠gb144));have n10_:=za.mk ((by rw [hg];exact Nat.ne_of_gt (zf.lt (show zf w0 _ g s0_0 t142 t143 from by repeat (with_reducible first|exact HI0.out|apply zf.alloc|apply zf.drewN|apply zf.set_1|apply zf.set_2|refine zf.far ?_ NB0_140.out _))):gb144≠g));clear HI0;clear BK140;clear HK;clear HB;have HI0:=n0_;have BK140:=n1_;have HK:=n2_;have HB:=n3_;have BK144:=n4_;have GW144:=n5_;have GE144:=n6_;have NB140_144:=n7_;have NB144_140:=n8_;have NB0_144:=n9_;have NB144_0:=n10_;clear n0_ n1_ n2_ n3_ n4_ n5_ n6_ n7_ n8_ n9_ n10_;clear hb hbox hg;have hnb29:=NB144_140.out;have hnc29:=NB140_144.out;have hnb30:=NB144_0.out;have hnc30:=NB0_144.out;have hcz31_0:w28.cell? ⟨gb144,0,none⟩=some (.int .i64 0):=(zq BK144.out 0).trans rfl;have hcz31_1:w28.cell? ⟨gb144,1,none⟩=some (.int .i64 0):=(zq BK144.out 1).trans rfl;have hfz31_0:=zn BK144.out 0;have hfz31_1:=zn BK144.out 1)|((with_reducible refine zQ (f:=67) rfl ?_);refine zaZ (some 8) rfl rfl Tryz.func67 (by kernel_rfl) rfl #[.pointer (some ⟨g,0,none⟩),.int .i64 1800000000] rfl (by (try simp only [List.map_toArray,List.map_cons,List.map_nil]);first|done|rfl) ?_;(with_reducible refine (zaE.calls k g s0_0 t142 t143 1800000000 t145 t146 t147 w0 _ ?side1 ?side2 A3.out).mono ?_);(case side1=>repeat (with_reducible first|exact HI0.out|apply zf.alloc|apply zf.drewN|apply zf.set_1|apply zf.set_2|refine zf.far ?_ NB0_140.out _|refine zf.far ?_ NB0_144.out _));(case side2=>repeat (with_reducible first|exact HB.out|apply zm|apply zk|refine zh ?_ (zf.ge HI0.out)|refine zh ?_ GE140.out|refine zh ?_ GE144.out));rintro e w32 ⟨rfl,hi,hb,hk⟩;refine ⟨_,rfl,?_⟩;have n0_:=za.mk (zl.blk hk (g':=gb140) (o:= .cells #[.int .i64 0,.int .i64 0] 27 (0,0)) (by refine zal ?_ NB140_144.out _;refine zal ?_ NB140_144.out _;exact BK140.out) NB140_0.out (by simp));have n1_:=za.mk (zl.blk hk (g':=gb144) (o:= .cells #[.int .i64 t141,.int .i64 0] 27 (0,0)) (by refine zaq (cs:=#[.int .i64 t141,.int .i64 0]) ?_ 1 _ rfl;refine zaq (cs:=#[.int .i64 0,.int .i64 0]) ?_ 0 _ rfl;exact BK144.out) NB144_0.out (by simp));have n2_:=za.mk (zl.trans (by repeat (with_reducible first|exact HK.out|apply zl.set_|apply zu|apply zw|refine zF ?_ GW140.out _|refine zF ?_ GW144.out _)) hk (.inl rfl));have n3_:=za.mk (hb);have n4_:=za.mk (hi);clear BK140;clear BK144;clear HK;clear HB;clear HI0;have BK140:=n0_;have BK144:=n1_;have HK:=n2_;have HB:=n3_;have HI0:=n4_;clear n0_ n1_ n2_ n3_ n4_;(try clear hb);(try clear hb2);(try clear hk);(try clear hi))|((with_reducible refine zQ (f:=52) rfl ?_);refine zaZ (some 9) rfl rfl Tryz.func52 (by kernel_rfl) rfl #[.int .i64 t145] rfl (by (try simp only [List.map_toArray,List.map_cons,List.map_nil]);first|done|rfl) ?_;(with_reducible refine (zbi.calls t145 t148 _ A4.out).mono ?_);rintro e w' ⟨rfl,⟨nd,rfl⟩⟩;refine ⟨_,rfl,?_⟩;(try (rw [znd w32];generalize hq_:World.drewN w32 _=w32;have n0_:za (w32.heap[gb140]?=some (.cells #[.int .i64 0,.int .i64 0] 27 (0,0))):=⟨by rw [<- hq_];exact (by exact BK140.out)⟩;have n1_:za (w32.heap[gb144]?=some (.cells #[.int .i64 t141,.int .i64 0] 27 (0,0))):=⟨by rw [<- hq_];exact (by exact BK144.out)⟩;have n2_:za (zf w0 w32 g s0_0 t146 t147):=⟨by rw [<- hq_];exact (by repeat (with_reducible first|exact HI0.out|apply zf.alloc|apply zf.drewN|apply zf.set_1|apply zf.set_2|refine zf.far ?_ NB0_140.out _|refine zf.far ?_ NB0_144.out _))⟩;have n3_:za (zl w w32 g none):=⟨by rw [<- hq_];exact (by repeat (with_reducible first|exact HK.out|apply zl.set_|apply zu|apply zw|refine zF ?_ GW140.out _|refine zF ?_ GW144.out _))⟩;have n4_:za (Below w0.heap.size w0 w32):=⟨by rw [<- hq_];exact (by repeat (with_reducible first|exact HB.out|apply zm|apply zk|refine zh ?_ (zf.ge HI0.out)|refine zh ?_ GE140.out|refine zh ?_ GE144.out))⟩;clear BK140 BK144 HI0 HK HB hq_;have BK140:=n0_;have BK144:=n1_;have HI0:=n2_;have HK:=n3_;have HB:=n4_;clear n0_ n1_ n2_ n3_ n4_));have hcz33_0:w32.cell? ⟨gb144,0,none⟩=some (.int .i64 t141):=(zq BK144.out 0).trans rfl;have hcz33_1:w32.cell? ⟨gb144,1,none⟩=some (.int .i64 0):=(zq BK144.out 1).trans rfl;have hfz33_0:=zn BK144.out 0;have hfz33_1:=zn BK144.out 1)|((with_reducible refine zQ (f:=19) rfl ?_);refine zaZ (some 12) rfl rfl Tryz.func19 (by kernel_rfl) rfl #[.pointer (some ⟨g,0,none⟩),.int .i64 10] rfl (by (try simp only [List.map_toArray,List.map_cons,List.map_nil]);first|done|rfl) ?_;(with_reducible refine (zJ.calls g s0_0 t146 t147 10 t149 t150 t151 w0 _ ?side1 ?side2 A5.out).mono ?_);(case side1=>repeat (with_reducible first|exact HI0.out|apply zf.alloc|apply zf.drewN|apply zf.set_1|apply zf.set_2|refine zf.far ?_ NB0_140.out _|refine zf.far ?_ NB0_144.out _));(case side2=>repeat (with_reducible first|exact HB.out|apply zm|apply zk|refine zh ?_ (zf.ge HI0.out)|refine zh ?_ GE140.out|refine zh ?_ GE144.out));rintro e w34 ⟨rfl,hi,hb,hk⟩;refine ⟨_,rfl,?_⟩;have n0_:=za.mk (zl.blk hk (g':=gb140) (o:= .cells #[.int .i64 0,.int .i64 0] 27 (0,0)) (by refine zal ?_ NB140_144.out _;exact BK140.out) NB140_0.out (by simp));have n1_:=za.mk (zl.blk hk (g':=gb144) (o:= .cells #[.int .i64 t141,.int .i64 t148] 27 (0,0)) (by refine zaq (cs:=#[.int .i64 t141,.int .i64 0]) ?_ 1 _ rfl;exact BK144.out) NB144_0.out (by simp));have n2_:=za.mk (zl.trans (by repeat (with_reducible first|exact HK.out|apply zl.set_|apply zu|apply zw|refine zF ?_ GW140.out _|refine zF ?_ GW144.out _)) hk (.inl rfl));have n3_:=za.mk (hb);have n4_:=za.mk (hi);clear BK140;clear BK144;clear HK;clear HB;clear HI0;have BK140:=n0_;have BK144:=n1_;have HK:=n2_;have HB:=n3_;have HI0:=n4_;clear n0_ n1_ n2_ n3_ n4_;(try clear hb);(try clear hb2);(try clear hk);(try clear hi))|((with_reducible refine zbw (N:=22) rfl ?_);refine Kd.zBD (Kd.int .i64) _ 2 ?hg (N:=22) ?hd (xs:=([1800000000,(-1799999999),0,900000000,(-900000000)]:List Int)) (inner:= [.int .i64 1800000000,.int .i64 (-1799999999),.int .i64 0,.int .i64 900000000,.int .i64 (-900000000)]) (ok:=fun _=>True) (okp:=fun _=>True) ?hr ?hp (fun _ hk=>hk) trivial (Below.refl _ _) (Nat.le_refl _) (by simp) ?_;(case hd=>rfl);(case hg=>rfl);(case hr=>first|(go_simp;done)|(go_simp;rfl));(case hp=>exact (Reps.one (show Kd.M (Kd.int .i64) _ _ _ 1800000000 [.int .i64 1800000000] from rfl) (Reps.one (show Kd.M (Kd.int .i64) _ _ _ (-1799999999) [.int .i64 (-1799999999)] from rfl) (Reps.one (show Kd.M (Kd.int .i64) _ _ _ 0 [.int .i64 0] from rfl) (Reps.one (show Kd.M (Kd.int .i64) _ _ _ 900000000 [.int .i64 900000000] from rfl) (Reps.one (show Kd.M (Kd.int .i64) _ _ _ (-900000000) [.int .i64 (-900000000)] from rfl) (Reps.none _ _)))))));intro v159 w35 ho36 hb hg_ hnew_;clear hg_ hnew_;(first|rw [<- Ny158.out] at ho36|(simp only [Int.reduceToNat] at ho36;rw [<- Ny158.out] at ho36));have n0_:=za.mk (Kd.znX ho36 (zaL (w:=w) (g:=g) (row:=none) (by repeat (with_reducible first|exact HK.out|apply zl.set_|apply zu|apply zw|refine zF ?_ GW140.out _|refine zF ?_ GW144.out _))));have n1_:=za.mk (zf.below (by repeat (with_reducible first|exact HI0.out|apply zf.alloc|apply zf.drewN|apply zf.set_1|apply zf.set_2|refine zf.far ?_ NB0_140.out _|refine zf.far ?_ NB0_144.out _)) hb);have n2_:=za.mk (zaC (g:=gb140) (o:= .cells #[.int .i64 0,.int .i64 0] 27 (0,0)) (by exact BK140.out) hb);have n3_:=za.mk (zaC (g:=gb144) (o:= .cells #[.int .i64 t141,.int .i64 t148] 27 (0,0)) (by exact BK144.out) hb);have n4_:=za.mk (zl.trans (by repeat (with_reducible first|exact HK.out|apply zl.set_|apply zu|apply zw|refine zF ?_ GW140.out _|refine zF ?_ GW144.out _)) (zl.of_below hb g none) (.inl rfl));have n5_:=za.mk (zaF (by repeat (with_reducible first|exact HB.out|apply zm|apply zk|refine zh ?_ (zf.ge HI0.out)|refine zh ?_ GE140.out|refine zh ?_ GE144.out)) hb);clear HI0;clear BK140;clear BK144;clear HK;clear HB;have HO160:=n0_;have HI0:=n1_;have BK140:=n2_;have BK144:=n3_;have HK:=n4_;have HB:=n5_;clear n0_ n1_ n2_ n3_ n4_ n5_;clear hb ho36;obtain ⟨Ao37,co37,eo37⟩:=Kd.zpJ HO160.out;subst eo37)|((with_reducible refine zQ (f:=68) rfl ?_);refine zaZ (some 23) rfl rfl Tryz.func68 (by kernel_rfl) rfl #[.pointer (some ⟨g,0,none⟩),.slice Ao37 y158.length co37] rfl (by (try simp only [List.map_toArray,List.map_cons,List.map_nil]);first|done|rfl) ?_;(with_reducible refine (zS.calls g s0_0 t150 t151 _ _ y158 t161 t162 t163 w0 _ ?side1 ?side2 ?side3 ?side4 ?side5 A25.out).mono ?_);(case side1=>repeat (with_reducible first|exact HI0.out|apply zf.alloc|apply zf.drewN|apply zf.set_1|apply zf.set_2|refine zf.far ?_ NB0_140.out _|refine zf.far ?_ NB0_144.out _));(case side2=>repeat (with_reducible first|exact HB.out|apply zm|apply zk|refine zh ?_ (zf.ge HI0.out)|refine zh ?_ GE140.out|refine zh ?_ GE144.out));(case side3=>repeat (first|exact (Kd.zg5 HO160.out).2.2|(with_reducible refine Kd.zpV ?_ _)|(with_reducible refine Kd.zpU ?_ _)|(with_reducible refine Kd.zuz ?_)));(case side4=>exact (Kd.zg5 HO160.out).2.1);(case side5=>exact zlp (zf.own_ne HI0.out HO160.out (by decide)));rintro e w38 ⟨rfl,hi,hb,hk⟩;refine ⟨_,rfl,?_⟩;have n0_:=za.mk (zl.blk hk (g':=gb140) (o:= .cells #[.int .i64 0,.int .i64 0] 27 (0,0)) (by exact BK140.out) NB140_0.out (by simp));have n1_:=za.mk (zl.blk hk (g':=gb144) (o:= .cells #[.int .i64 t141,.int .i64 t148] 27 (0,0)) (by exact BK144.out) NB144_0.out (by simp));have n2_:=za.mk (Kd.zmW (Kd.zp9 (zf.apart (show zf w0 _ g s0_0 t150 t151 from by repeat (with_reducible first|exact HI0.out|apply zf.alloc|apply zf.drewN|apply zf.set_1|apply zf.set_2|refine zf.far ?_ NB0_140.out _|refine zf.far ?_ NB0_144.out _)) (by (with_reducible repeat (first|apply Kd.zmY|apply Kd.zmX|apply Kd.zqa));exact HO160.out) (by decide)) hk (fun _ h=>h.2)) (fun _ h=>h.1));have n3_:=za.mk (zl.trans (by repeat (with_reducible first|exact HK.out|apply zl.set_|apply zu|apply zw|refine zF ?_ GW140.out _|refine zF ?_ GW144.out _)) hk (.inl rfl));have n4_:=za.mk (hb);have n5_:=za.mk (hi);clear BK140;clear BK144;clear HO160;clear HK;clear HB;clear HI0;have BK140:=n0_;have BK144:=n1_;have HO160:=n2_;have HK:=n3_;have HB:=n4_;have HI0:=n5_;clear n0_ n1_ n2_ n3_ n4_ n5_;(try clear hb);(try clear hb2);(try clear hk);(try clear hi);have hcz39_0:w38.cell? ⟨gb144,0,none⟩=some (.int .i64 t141):=(zq BK144.out 0).trans rfl;have hcz39_1:w38.cell? ⟨gb144,1,none⟩=some (.int .i64 t148):=(zq BK144.out 1).trans rfl;have hfz39_0:=zn BK144.out 0;have hfz39_1:=zn BK144.out 1;have hnb40:=NB140_0.out;have hnc40:=NB0_140.out;have hcz41_0:w38.cell? ⟨gb140,0,none⟩=some (.int .i64 0):=(zq BK140.out 0).trans rfl;have hcz41_1:w38.cell? ⟨gb140,1,none⟩=some (.int .i64 0):=(zq BK140.out 1).trans rfl;have hfz41_0:=zn BK140.out 0;have hfz41_1:=zn BK140.out 1))
   refine bodyPost_ret (results_cell_row rfl _ _ gb140 27 #[.int .i64 t141,.int .i64 t161] (0,0) _ rfl (by refine zaq (cs:=#[.int .i64 t141,.int .i64 0]) ?_ 1 _ rfl;refine zaq (cs:=#[.int .i64 0,.int .i64 0]) ?_ 0 _ rfl;refine zal ?_ NB140_144.out _;exact BK140.out) Tryz.underlying27 rfl (by kernel_rfl)) rfl ?_
   exact ⟨by first|rfl|(simp [*]<;>rfl),by repeat (with_reducible first|exact HI0.out|apply zf.alloc|apply zf.drewN|apply zf.set_1|apply zf.set_2|refine zf.far ?_ NB0_140.out _|refine zf.far ?_ NB0_144.out _),by repeat (with_reducible first|exact HB.out|apply zm|apply zk|refine zh ?_ (zf.ge HI0.out)|refine zh ?_ GE140.out|refine zh ?_ GE144.out),by repeat (with_reducible first|exact HK.out|apply zl.set_|apply zu|apply zw|refine zF ?_ GW140.out _|refine zF ?_ GW144.out _)⟩
  ·rw [if_neg c24] at H
   have c24b0:(t149==1)=false:=beq_eq_false_iff_ne.mpr c24
   have c24b1:(t149 != 1)=true:=bne_iff_ne.mpr c24
   simp only [Option.some.injEq,Prod.mk.injEq] at H
   obtain ⟨rfl,rfl,rfl,rfl⟩:=H
   go_enter Tryz.func23,Tryz.ntmps23
   go_wp2_with (first|((with_reducible refine zbw (N:=2) rfl ?_);refine zbz ?hg (N:=2) ?hd (cs:=#[.int .i64 0,.int .i64 0]) (t:=27) ?hr ?_;(case hd=>rfl);(case hg=>rfl);(case hr=>first|(go_simp;done)|(go_simp;rfl));intro gb140 hg w42 hbox hb;have n0_:=za.mk (zf.below (by repeat (with_reducible first|exact HI0.out|apply zf.alloc|apply zf.drewN|apply zf.set_1|apply zf.set_2)) hb);have n1_:=za.mk (zl.trans (by repeat (with_reducible first|exact HK.out|apply zl.set_|apply zu|apply zw)) (zl.of_below hb g none) (.inl rfl));have n2_:=za.mk (zaF (by repeat (with_reducible first|exact HB.out|apply zm|apply zk|refine zh ?_ (zf.ge HI0.out))) hb);have n3_:=za.mk (hbox);have n4_:=za.mk ((by rw [hg];exact (zaL (w:=w) (g:=g) (row:=none) (by repeat (with_reducible first|exact HK.out|apply zl.set_|apply zu|apply zw))):w.heap.size<=gb140));have n5_:=za.mk ((Nat.le_trans HW0.out (by rw [hg];exact (zaL (w:=w) (g:=g) (row:=none) (by repeat (with_reducible first|exact HK.out|apply zl.set_|apply zu|apply zw))):w.heap.size<=gb140):w0.heap.size<=gb140));have n6_:=za.mk ((by rw [hg];exact Nat.ne_of_lt (zf.lt (show zf w0 _ g s0_0 s0_1 s0_2 from by repeat (with_reducible first|exact HI0.out|apply zf.alloc|apply zf.drewN|apply zf.set_1|apply zf.set_2))):g≠gb140));have n7_:=za.mk ((by rw [hg];exact Nat.ne_of_gt (zf.lt (show zf w0 _ g s0_0 s0_1 s0_2 from by repeat (with_reducible first|exact HI0.out|apply zf.alloc|apply zf.drewN|apply zf.set_1|apply zf.set_2))):gb140≠g));clear HI0;clear HK;clear HB;have HI0:=n0_;have HK:=n1_;have HB:=n2_;have BK140:=n3_;have GW140:=n4_;have GE140:=n5_;have NB0_140:=n6_;have NB140_0:=n7_;clear n0_ n1_ n2_ n3_ n4_ n5_ n6_ n7_;clear hb hbox hg)|((with_reducible refine zQ (f:=67) rfl ?_);refine zaZ (some 5) rfl rfl Tryz.func67 (by kernel_rfl) rfl #[.pointer (some ⟨g,0,none⟩),.int .i64 900000000] rfl (by (try simp only [List.map_toArray,List.map_cons,List.map_nil]);first|done|rfl) ?_;(with_reducible refine (zaE.calls k g s0_0 s0_1 s0_2 900000000 t141 t142 t143 w0 _ ?side1 ?side2 A2.out).mono ?_);(case side1=>repeat (with_reducible first|exact HI0.out|apply zf.alloc|apply zf.drewN|apply zf.set_1|apply zf.set_2|refine zf.far ?_ NB0_140.out _));(case side2=>repeat (with_reducible first|exact HB.out|apply zm|apply zk|refine zh ?_ (zf.ge HI0.out)|refine zh ?_ GE140.out));rintro e w43 ⟨rfl,hi,hb,hk⟩;refine ⟨_,rfl,?_⟩;have n0_:=za.mk (zl.blk hk (g':=gb140) (o:= .cells #[.int .i64 0,.int .i64 0] 27 (0,0)) (by exact BK140.out) NB140_0.out (by simp));have n1_:=za.mk (zl.trans (by repeat (with_reducible first|exact HK.out|apply zl.set_|apply zu|apply zw|refine zF ?_ GW140.out _)) hk (.inl rfl));have n2_:=za.mk (hb);have n3_:=za.mk (hi);clear BK140;clear HK;clear HB;clear HI0;have BK140:=n0_;have HK:=n1_;have HB:=n2_;have HI0:=n3_;clear n0_ n1_ n2_ n3_;(try clear hb);(try clear hb2);(try clear hk);(try clear hi))|((with_reducible refine zbw (N:=3) rfl ?_);refine zbz ?hg (N:=3) ?hd (cs:=#[.int .i64 0,.int .i64 0]) (t:=27) ?hr ?_;(case hd=>rfl);(case hg=>rfl);(case hr=>first|(go_simp;done)|(go_simp;rfl));intro gb144 hg w44 hbox hb;have n0_:=za.mk (zf.below (by repeat (with_reducible first|exact HI0.out|apply zf.alloc|apply zf.drewN|apply zf.set_1|apply zf.set_2|refine zf.far ?_ NB0_140.out _)) hb);have n1_:=za.mk (zaC (g:=gb140) (o:= .cells #[.int .i64 0,.int .i64 0] 27 (0,0)) (by exact BK140.out) hb);have n2_:=za.mk (zl.trans (by repeat (with_reducible first|exact HK.out|apply zl.set_|apply zu|apply zw|refine zF ?_ GW140.out _)) (zl.of_below hb g none) (.inl rfl));have n3_:=za.mk (zaF (by repeat (with_reducible first|exact HB.out|apply zm|apply zk|refine zh ?_ (zf.ge HI0.out)|refine zh ?_ GE140.out)) hb);have n4_:=za.mk (hbox);have n5_:=za.mk ((by rw [hg];exact (zaL (w:=w) (g:=g) (row:=none) (by repeat (with_reducible first|exact HK.out|apply zl.set_|apply zu|apply zw|refine zF ?_ GW140.out _))):w.heap.size<=gb144));have n6_:=za.mk ((Nat.le_trans HW0.out (by rw [hg];exact (zaL (w:=w) (g:=g) (row:=none) (by repeat (with_reducible first|exact HK.out|apply zl.set_|apply zu|apply zw|refine zF ?_ GW140.out _))):w.heap.size<=gb144):w0.heap.size<=gb144));have n7_:=za.mk ((by rw [hg];exact Nat.ne_of_lt (zco (g:=gb140) (o:= .cells #[.int .i64 0,.int .i64 0] 27 (0,0)) (by exact BK140.out)):gb140≠gb144));have n8_:=za.mk ((by rw [hg];exact Nat.ne_of_gt (zco (g:=gb140) (o:= .cells #[.int .i64 0,.int .i64 0] 27 (0,0)) (by exact BK140.out)):gb144≠gb140));have n9_:=za.mk ((by rw [hg];exact Nat.ne_of_lt (zf.lt (show zf w0 _ g s0_0 t142 t143 from by repeat (with_reducible first|exact HI0.out|apply zf.alloc|apply zf.drewN|apply zf.set_1|apply zf.set_2|refine zf.far ?_ NB0_140.out _))):g≠gb144));have n10_:=za.mk ((by rw [hg];exact Nat.ne_of_gt (zf.lt (show zf w0 _ g s0_0 t142 t143 from by repeat (with_reducible first|exact HI0.out|apply zf.alloc|apply zf.drewN|apply zf.set_1|apply zf.set_2|refine zf.far ?_ NB0_140.out _))):gb144≠g));clear HI0;clear BK140;clear HK;clear HB;have HI0:=n0_;have BK140:=n1_;have HK:=n2_;have HB:=n3_;have BK144:=n4_;have GW144:=n5_;have GE144:=n6_;have NB140_144:=n7_;have NB144_140:=n8_;have NB0_144:=n9_;have NB144_0:=n10_;clear n0_ n1_ n2_ n3_ n4_ n5_ n6_ n7_ n8_ n9_ n10_;clear hb hbox hg;have hnb45:=NB144_140.out;have hnc45:=NB140_144.out;have hnb46:=NB144_0.out;have hnc46:=NB0_144.out;have hcz47_0:w44.cell? ⟨gb144,0,none⟩=some (.int .i64 0):=(zq BK144.out 0).trans rfl;have hcz47_1:w44.cell? ⟨gb144,1,none⟩=some (.int .i64 0):=(zq BK144.out 1).trans rfl;have hfz47_0:=zn BK144.out 0;have hfz47_1:=zn BK144.out 1)|((with_reducible refine zQ (f:=67) rfl ?_);refine zaZ (some 8) rfl rfl Tryz.func67 (by kernel_rfl) rfl #[.pointer (some ⟨g,0,none⟩),.int .i64 1800000000] rfl (by (try simp only [List.map_toArray,List.map_cons,List.map_nil]);first|done|rfl) ?_;(with_reducible refine (zaE.calls k g s0_0 t142 t143 1800000000 t145 t146 t147 w0 _ ?side1 ?side2 A3.out).mono ?_);(case side1=>repeat (with_reducible first|exact HI0.out|apply zf.alloc|apply zf.drewN|apply zf.set_1|apply zf.set_2|refine zf.far ?_ NB0_140.out _|refine zf.far ?_ NB0_144.out _));(case side2=>repeat (with_reducible first|exact HB.out|apply zm|apply zk|refine zh ?_ (zf.ge HI0.out)|refine zh ?_ GE140.out|refine zh ?_ GE144.out));rintro e w48 ⟨rfl,hi,hb,hk⟩;refine ⟨_,rfl,?_⟩;have n0_:=za.mk (zl.blk hk (g':=gb140) (o:= .cells #[.int .i64 0,.int .i64 0] 27 (0,0)) (by refine zal ?_ NB140_144.out _;refine zal ?_ NB140_144.out _;exact BK140.out) NB140_0.out (by simp));have n1_:=za.mk (zl.blk hk (g':=gb144) (o:= .cells #[.int .i64 t141,.int .i64 0] 27 (0,0)) (by refine zaq (cs:=#[.int .i64 t141,.int .i64 0]) ?_ 1 _ rfl;refine zaq (cs:=#[.int .i64 0,.int .i64 0]) ?_ 0 _ rfl;exact BK144.out) NB144_0.out (by simp));have n2_:=za.mk (zl.trans (by repeat (with_reducible first|exact HK.out|apply zl.set_|apply zu|apply zw|refine zF ?_ GW140.out _|refine zF ?_ GW144.out _)) hk (.inl rfl));have n3_:=za.mk (hb);have n4_:=za.mk (hi);clear BK140;clear BK144;clear HK;clear HB;clear HI0;have BK140:=n0_;have BK144:=n1_;have HK:=n2_;have HB:=n3_;have HI0:=n4_;clear n0_ n1_ n2_ n3_ n4_;(try clear hb);(try clear hb2);(try clear hk);(try clear hi))|((with_reducible refine zQ (f:=52) rfl ?_);refine zaZ (some 9) rfl rfl Tryz.func52 (by kernel_rfl) rfl #[.int .i64 t145] rfl (by (try simp only [List.map_toArray,List.map_cons,List.map_nil]);first|done|rfl) ?_;(with_reducible refine (zbi.calls t145 t148 _ A4.out).mono ?_);rintro e w' ⟨rfl,⟨nd,rfl⟩⟩;refine ⟨_,rfl,?_⟩;(try (rw [znd w48];generalize hq_:World.drewN w48 _=w48;have n0_:za (w48.heap[gb140]?=some (.cells #[.int .i64 0,.int .i64 0] 27 (0,0))):=⟨by rw [<- hq_];exact (by exact BK140.out)⟩;have n1_:za (w48.heap[gb144]?=some (.cells #[.int .i64 t141,.int .i64 0] 27 (0,0))):=⟨by rw [<- hq_];exact (by exact BK144.out)⟩;have n2_:za (zf w0 w48 g s0_0 t146 t147):=⟨by rw [<- hq_];exact (by repeat (with_reducible first|exact HI0.out|apply zf.alloc|apply zf.drewN|apply zf.set_1|apply zf.set_2|refine zf.far ?_ NB0_140.out _|refine zf.far ?_ NB0_144.out _))⟩;have n3_:za (zl w w48 g none):=⟨by rw [<- hq_];exact (by repeat (with_reducible first|exact HK.out|apply zl.set_|apply zu|apply zw|refine zF ?_ GW140.out _|refine zF ?_ GW144.out _))⟩;have n4_:za (Below w0.heap.size w0 w48):=⟨by rw [<- hq_];exact (by repeat (with_reducible first|exact HB.out|apply zm|apply zk|refine zh ?_ (zf.ge HI0.out)|refine zh ?_ GE140.out|refine zh ?_ GE144.out))⟩;clear BK140 BK144 HI0 HK HB hq_;have BK140:=n0_;have BK144:=n1_;have HI0:=n2_;have HK:=n3_;have HB:=n4_;clear n0_ n1_ n2_ n3_ n4_));have hcz49_0:w48.cell? ⟨gb144,0,none⟩=some (.int .i64 t141):=(zq BK144.out 0).trans rfl;have hcz49_1:w48.cell? ⟨gb144,1,none⟩=some (.int .i64 0):=(zq BK144.out 1).trans rfl;have hfz49_0:=zn BK144.out 0;have hfz49_1:=zn BK144.out 1)|((with_reducible refine zQ (f:=19) rfl ?_);refine zaZ (some 12) rfl rfl Tryz.func19 (by kernel_rfl) rfl #[.pointer (some ⟨g,0,none⟩),.int .i64 10] rfl (by (try simp only [List.map_toArray,List.map_cons,List.map_nil]);first|done|rfl) ?_;(with_reducible refine (zJ.calls g s0_0 t146 t147 10 t149 t150 t151 w0 _ ?side1 ?side2 A5.out).mono ?_);(case side1=>repeat (with_reducible first|exact HI0.out|apply zf.alloc|apply zf.drewN|apply zf.set_1|apply zf.set_2|refine zf.far ?_ NB0_140.out _|refine zf.far ?_ NB0_144.out _));(case side2=>repeat (with_reducible first|exact HB.out|apply zm|apply zk|refine zh ?_ (zf.ge HI0.out)|refine zh ?_ GE140.out|refine zh ?_ GE144.out));rintro e w50 ⟨rfl,hi,hb,hk⟩;refine ⟨_,rfl,?_⟩;have n0_:=za.mk (zl.blk hk (g':=gb140) (o:= .cells #[.int .i64 0,.int .i64 0] 27 (0,0)) (by refine zal ?_ NB140_144.out _;exact BK140.out) NB140_0.out (by simp));have n1_:=za.mk (zl.blk hk (g':=gb144) (o:= .cells #[.int .i64 t141,.int .i64 t148] 27 (0,0)) (by refine zaq (cs:=#[.int .i64 t141,.int .i64 0]) ?_ 1 _ rfl;exact BK144.out) NB144_0.out (by simp));have n2_:=za.mk (zl.trans (by repeat (with_reducible first|exact HK.out|apply zl.set_|apply zu|apply zw|refine zF ?_ GW140.out _|refine zF ?_ GW144.out _)) hk (.inl rfl));have n3_:=za.mk (hb);have n4_:=za.mk (hi);clear BK140;clear BK144;clear HK;clear HB;clear HI0;have BK140:=n0_;have BK144:=n1_;have HK:=n2_;have HB:=n3_;have HI0:=n4_;clear n0_ n1_ n2_ n3_ n4_;(try clear hb);(try clear hb2);(try clear hk);(try clear hi);have hcz51_0:w50.cell? ⟨gb144,0,none⟩=some (.int .i64 t141):=(zq BK144.out 0).trans rfl;have hcz51_1:w50.cell? ⟨gb144,1,none⟩=some (.int .i64 t148):=(zq BK144.out 1).trans rfl;have hfz51_0:=zn BK144.out 0;have hfz51_1:=zn BK144.out 1;have hnb52:=NB140_0.out;have hnc52:=NB0_140.out;have hcz53_0:w50.cell? ⟨gb140,0,none⟩=some (.int .i64 0):=(zq BK140.out 0).trans rfl;have hcz53_1:w50.cell? ⟨gb140,1,none⟩=some (.int .i64 0):=(zq BK140.out 1).trans rfl;have hfz53_0:=zn BK140.out 0;have hfz53_1:=zn BK140.out 1))
   refine bodyPost_ret (results_cell_row rfl _ _ gb140 27 #[.int .i64 t141,.int .i64 t148] (0,0) _ rfl (by refine zaq (cs:=#[.int .i64 t141,.int .i64 0]) ?_ 1 _ rfl;refine zaq (cs:=#[.int .i64 0,.int .i64 0]) ?_ 0 _ rfl;exact BK140.out) Tryz.underlying27 rfl (by kernel_rfl)) rfl ?_
   exact ⟨by first|rfl|(simp [*]<;>rfl),by repeat (with_reducible first|exact HI0.out|apply zf.alloc|apply zf.drewN|apply zf.set_1|apply zf.set_2|refine zf.far ?_ NB0_140.out _|refine zf.far ?_ NB0_144.out _),by repeat (with_reducible first|exact HB.out|apply zm|apply zk|refine zh ?_ (zf.ge HI0.out)|refine zh ?_ GE140.out|refine zh ?_ GE144.out),by repeat (with_reducible first|exact HK.out|apply zl.set_|apply zu|apply zw|refine zF ?_ GW140.out _|refine zF ?_ GW144.out _)⟩
def zbd.f (a0:Int) (a1:Int) (a2:Int):Option (Bool):=if a0>=a1 then (some (decide (a0<=a2))) else (some false)
set_option maxHeartbeats 8000000 in
set_option maxRecDepth 100000 in
theorem zbd.calls (a0:Int) (a1:Int) (a2:Int) (r:Bool) (w:World) (h:zbd.f a0 a1 a2=some r):
  Calls Tryz.prog 61 #[.int .i64 a0,.int .i64 a1,.int .i64 a2] w fun e w'=>e= .returned (.bool r)/\zcv w w':=by
 have H:(if a0>=a1 then (some (decide (a0<=a2))) else (some false))=some r:=h
 clear h
 by_cases c4:a0>=a1
 ·rw [if_pos c4] at H
  have c4b0:decide (a1<=a0)=true:=decide_eq_true c4
  clear c4
  obtain rfl:=Option.some.inj H
  go_enter Tryz.func61,Tryz.ntmps61
  go_wp2
  go_ret
  exact ⟨by first|rfl|(simp;done)|(simp [*];done),by repeat (first|exact zcv.refl _|apply zcv.step)⟩
 ·rw [if_neg c4] at H
  have c4b0:decide (a1<=a0)=false:=decide_eq_false c4
  clear c4
  obtain rfl:=Option.some.inj H
  go_enter Tryz.func61,Tryz.ntmps61
  go_wp2
  go_ret
  exact ⟨by first|rfl|(simp;done)|(simp [*];done),by repeat (first|exact zcv.refl _|apply zcv.step)⟩
end Go.Proofs.YtkenfaengphiiaaGreatDoor.PFnCylinders
-- CUT
