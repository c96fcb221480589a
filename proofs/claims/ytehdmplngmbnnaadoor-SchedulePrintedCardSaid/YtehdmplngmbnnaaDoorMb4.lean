/-
  The walks of the functions that the statements of this chapter reach, each told as a plain function; no conditions.
-/
import Derived.Test.YtehdmplngmbnnaaDoorMb2
import Derived.Test.YtehdmplngmbnnaaDoorMb3
import Derived.Test.YtehdmplngmbnnaaDoorRows
import Derived.ProofKit
import Derived.LaidMore
import Derived.OpenShut
import Derived.MakeChecks
import Derived.Stop.LaidErr
import Derived.Lib.LaidTab
import Derived.ChangeArms
import Derived.DataReads
import Derived.Deep.Slices
namespace Go.Proofs.YtehdmplngmbnnaaDoor.P
open Go.RowKit Go.Proofs.YtehdmplngmbnnaaDoorW.PrintWords Go.Proofs.YtehdmplngmbnnaaDoorW.PrintLast Go.Proofs.YtehdmplngmbnnaaDoorW.PrintMore
attribute [local go_sem] max2_int min2_int max_two min_two max_three min_three max_four min_four
attribute [local go_sem] cell_twice
set_option linter.unusedVariables false
set_option linter.unusedSimpArgs false
def schedule_Ends.j0:Nat→Int→Int→Int→Bool→ByteArray→Int→List (S52)→Option (Int × Bool)
 | 0,_,_,_,_,_,_,_=>none
 | k+1,x1,x2,x3,x21,x102000,x102001,x102002=>if x21=true then (some (0,false)) else (if 0≤x1 then (if x1 < (x102002.length:Int) then (if ((rd_T52 x102002 x1).f0) > 0 then (if ((rd_T52 x102002 x1).f1) > 0 then (if x3≤((rd_T52 x102002 x1).f0) then (some (wrap64 (x1+1),true)) else (if x2 ≥ ((rd_T52 x102002 x1).f1) then (some (wrap64 (x1+1),true)) else (some (x1,false)))) else (if x3≤((rd_T52 x102002 x1).f0) then (some (wrap64 (x1+1),true)) else (some (x1,false)))) else (if ((rd_T52 x102002 x1).f1) > 0 then (if x2 ≥ ((rd_T52 x102002 x1).f1) then (some (wrap64 (x1+1),true)) else (some (x1,false))) else (some (x1,false)))) else (none)) else (none))
def schedule_Ends.f (k:Nat) (a0_0:ByteArray) (a0_1:Int) (l0_2:List (S52)) (a1:Int) (a2:Int) (a3:Int):Option (Int × Bool):=if a1 < 0 then (schedule_Ends.j0 k a1 a2 a3 true a0_0 a0_1 l0_2) else (schedule_Ends.j0 k a1 a2 a3 (decide (a1 ≥ (l0_2.length:Int))) a0_0 a0_1 l0_2)
theorem schedule_Ends.mono_l:∀ k,(∀ y0 y1 y2 y3 y4 y5 y6,LeO (schedule_Ends.j0 k y0 y1 y2 y3 y4 y5 y6) (schedule_Ends.j0 (k+1) y0 y1 y2 y3 y4 y5 y6))
 | 0=>fun _ _ _ _ _ _ _ r h=>by simp [schedule_Ends.j0] at h
 | k+1=>by
  have ih0:=schedule_Ends.mono_l k
  ·intro y0 y1 y2 y3 y4 y5 y6
   unfold schedule_Ends.j0
   repeat' first
   | (with_reducible exact ih0 _ _ _ _ _ _ _)
   | (with_reducible exact LeO.refl _)
   | (with_reducible exact LeO.none _)
   | (with_reducible refine LeO.ite ?_ ?_)
   | (with_reducible refine LeO.bind ?_ (fun _=>?_))
   | exact ih0 _ _ _ _ _ _ _
   | exact LeO.none _
   | refine LeO.ite ?_ ?_
   | refine LeO.bind ?_ (fun _=>?_)
theorem schedule_Ends.mono:∀ a0 a1 a2 a3 a4 a5 k,LeO (schedule_Ends.f k a0 a1 a2 a3 a4 a5) (schedule_Ends.f (k+1) a0 a1 a2 a3 a4 a5):=by
 intro a0 a1 a2 a3 a4 a5 k
 have ih0:=schedule_Ends.mono_l k
 unfold schedule_Ends.f
 repeat' first
   | (with_reducible exact ih0 _ _ _ _ _ _ _)
   | (with_reducible exact LeO.refl _)
   | (with_reducible exact LeO.none _)
   | (with_reducible refine LeO.ite ?_ ?_)
   | (with_reducible refine LeO.bind ?_ (fun _=>?_))
   | exact ih0 _ _ _ _ _ _ _
   | exact LeO.none _
   | refine LeO.ite ?_ ?_
   | refine LeO.bind ?_ (fun _=>?_)
set_option maxHeartbeats 8000000 in
set_option maxRecDepth 100000 in
theorem schedule_Ends.calls (k:Nat) (a0_0:ByteArray) (a0_1:Int) (A0_2:Option Addr) (c0_2:Nat) (l0_2:List (S52)) (a1:Int) (a2:Int) (a3:Int) (r1:Int) (r2:Bool) (w:World) (hr0_2:Kd.C k52 w A0_2 l0_2.length l0_2) (hc0_2:l0_2.length≤c0_2) (h:schedule_Ends.f k a0_0 a0_1 l0_2 a1 a2 a3=some (r1,r2)) :
  Calls Tryd.prog 19 #[.agg #[.string a0_0,.int .i64 a0_1,.slice A0_2 l0_2.length c0_2],.int .i64 a1,.int .i64 a2,.int .i64 a3] w fun e w'=>e=.returned (.tuple #[.int .i64 r1,.bool r2])∧Below w.heap.size w w':=by
 have hu24:=Tryd.underlying24
 have hu52:=Tryd.underlying52
 have HR0_2:=Aside0.mk hr0_2
 have HC0_2:=Aside0.mk hc0_2
 clear hr0_2 hc0_2
 have HB:=Aside0.mk (Below.refl w.heap.size w)
 have H:(if a1 < 0 then (schedule_Ends.j0 k a1 a2 a3 true a0_0 a0_1 l0_2) else (schedule_Ends.j0 k a1 a2 a3 (decide (a1 ≥ (l0_2.length:Int))) a0_0 a0_1 l0_2))=some (r1,r2):=h
 clear h
 have HC5:=Aside0.mk H
 clear H
 go_enter Tryd.func19,Tryd.ntmps19
 go_upto_region 1 with (first|((with_reducible refine gate_dst (N:=4) rfl ?_);(try (refine gate_guard (by rfl) ?_;dsimp only));refine box_event ?hg (N:=4) ?hd (cs:=#[.string a0_0,.int .i64 a0_1,.slice A0_2 l0_2.length c0_2]) (t:=24) ?hr ?_;(case hd=>rfl);(case hg=>rfl);(case hr=>first|(go_simp;done)|(go_simp;rfl));intro gb101 hg w6 hbox hb;have n0_:=Aside0.mk (below_step (by repeat (first|(with_reducible first|exact HB.out|apply below_alloc|apply pw_below_drewN|apply below_drew1)|exact HB.out)) hb);have n1_:=Aside0.mk (hbox);have n2_:=Aside0.mk ((by rw [hg];exact (below_size (by repeat (first|(with_reducible first|exact HB.out|apply below_alloc|apply pw_below_drewN|apply below_drew1)|exact HB.out))):w.heap.size≤gb101));have n3_:=Aside0.mk ((by rw [hg];exact (below_size (by repeat (first|(with_reducible first|exact HB.out|apply below_alloc|apply pw_below_drewN|apply below_drew1)|exact HB.out))):w.heap.size≤gb101));clear HB;have HB:=n0_;have BK101:=n1_;have GW101:=n2_;have GE101:=n3_;clear n0_ n1_ n2_ n3_;clear hb hbox hg))
 (try simp only [Act.put,List.setIfInBounds_toArray,List.set_cons_zero,List.set_cons_succ])
 go_cut [21] (fun v21 wc=>∃ (kq:Nat) (x21_4:Bool),v21=.bool x21_4∧Aside0 (schedule_Ends.j0 kq a1 a2 a3 x21_4 a0_0 a0_1 l0_2=some (r1,r2))∧Aside0 (kq≤k)∧Aside0 (wc.heap[gb101]?=some (.cells #[.string a0_0,.int .i64 a0_1,(.slice A0_2 l0_2.length c0_2)] 24 (0,0)))∧Aside0 (Below w.heap.size w wc))
 case first =>
  have H:=HC5.out
  clear HC5
  by_cases c7:a1 < 0
  ·rw [if_pos c7] at H
   have c7b0:decide (a1 < 0)=true:=decide_eq_true c7
   clear c7
   (first|rw [c7b0]|(simp only [i64_w,i32_w];rw [c7b0])|skip)
   have H':=Aside0.mk H
   clear H
   go_wp2
   go_meet
   case rel=>exact ⟨_,(true),(by first|rfl|(simp;done)|(simp [*];done)),H',⟨by first|omega|exact Nat.le_refl _⟩,⟨by (with_reducible repeat (first|refine blk_drewN ?_ _|refine blk_drew ?_|refine blk_alloc ?_ _));exact BK101.out⟩,⟨by repeat (first|(with_reducible first|exact HB.out|apply below_alloc|apply pw_below_drewN|apply below_drew1|refine below_set ?_ GE101.out)|exact HB.out)⟩⟩
  ·rw [if_neg c7] at H
   have c7b0:decide (a1 < 0)=false:=decide_eq_false c7
   clear c7
   (first|rw [c7b0]|(simp only [i64_w,i32_w];rw [c7b0])|skip)
   have H':=Aside0.mk H
   clear H
   have hcz8_0:w6.cell? ⟨gb101,0,none⟩=some (.string a0_0):=(blk_cell BK101.out 0).trans rfl
   have hcz8_1:w6.cell? ⟨gb101,1,none⟩=some (.int .i64 a0_1):=(blk_cell BK101.out 1).trans rfl
   have hcz8_2:w6.cell? ⟨gb101,2,none⟩=some (.slice A0_2 l0_2.length c0_2):=(blk_cell BK101.out 2).trans rfl
   have hfz8_0:=blk_frozen BK101.out 0
   have hfz8_1:=blk_frozen BK101.out 1
   have hfz8_2:=blk_frozen BK101.out 2
   go_wp2
   go_meet
   case rel=>exact ⟨_,(decide (a1 ≥ (l0_2.length:Int))),(by first|rfl|(simp;done)|(simp [*];done)),H',⟨by first|omega|exact Nat.le_refl _⟩,⟨by (with_reducible repeat (first|refine blk_drewN ?_ _|refine blk_drew ?_|refine blk_alloc ?_ _));exact BK101.out⟩,⟨by repeat (first|(with_reducible first|exact HB.out|apply below_alloc|apply pw_below_drewN|apply below_drew1|refine below_set ?_ GE101.out)|exact HB.out)⟩⟩
 case rest =>
  clear HC5
  try clear c1
  try clear p2
  try clear c7
  try clear c7b0
  try clear hcz8_0
  try clear hcz8_1
  try clear hcz8_2
  try clear hfz8_0
  try clear hfz8_1
  try clear hfz8_2
  obtain ⟨kq,x21_4,rfl,HA,HJ4,BK101,HB⟩:=hcut
  cases kq with
  | zero=>exact absurd HA.out (by simp [schedule_Ends.j0])
  | succ kj4 =>
   have H:=HA.out
   clear HA
   simp only [schedule_Ends.j0] at H
   by_cases c9:x21_4=true
   ·subst c9
    have H1:(some (0,false))=some (r1,r2):=by rw [if_pos rfl] at H;exact H
    clear H
    have H:=H1
    clear H1
    simp only [Option.some.injEq,Prod.mk.injEq] at H
    obtain ⟨rfl,rfl⟩:=H
    go_wp2
    go_ret2
    exact ⟨by first|rfl|(simp [errW_none,errW_some]<;>rfl)|(simp [*,errW_none,errW_some]<;>rfl),by repeat (first|(with_reducible first|exact HB.out|apply below_alloc|apply pw_below_drewN|apply below_drew1|refine below_set ?_ GE101.out)|exact HB.out)⟩
   ·replace c9:=Bool.eq_false_iff.mpr c9
    subst c9
    have H1:(if 0≤a1 then (if a1 < (l0_2.length:Int) then (if ((rd_T52 l0_2 a1).f0) > 0 then (if ((rd_T52 l0_2 a1).f1) > 0 then (if a3≤((rd_T52 l0_2 a1).f0) then (some (wrap64 (a1+1),true)) else (if a2 ≥ ((rd_T52 l0_2 a1).f1) then (some (wrap64 (a1+1),true)) else (some (a1,false)))) else (if a3≤((rd_T52 l0_2 a1).f0) then (some (wrap64 (a1+1),true)) else (some (a1,false)))) else (if ((rd_T52 l0_2 a1).f1) > 0 then (if a2 ≥ ((rd_T52 l0_2 a1).f1) then (some (wrap64 (a1+1),true)) else (some (a1,false))) else (some (a1,false)))) else (none)) else (none))=some (r1,r2):=by rw [if_neg (show ¬ (false=true) by decide)] at H;exact H
    clear H
    have H:=H1
    clear H1
    by_cases c10:0≤a1
    ·rw [if_pos c10] at H
     have c10b0:decide (0≤a1)=true:=decide_eq_true c10
     clear c10
     by_cases c11:a1 < (l0_2.length:Int)
     ·rw [if_pos c11] at H
      have c11b0:decide (a1 < (l0_2.length:Int))=true:=decide_eq_true c11
      clear c11
      by_cases c12:((rd_T52 l0_2 a1).f0) > 0
      ·rw [if_pos c12] at H
       have c12b0:decide (0 < ((rd_T52 l0_2 a1).f0))=true:=decide_eq_true c12
       clear c12
       by_cases c13:((rd_T52 l0_2 a1).f1) > 0
       ·rw [if_pos c13] at H
        have c13b0:decide (0 < ((rd_T52 l0_2 a1).f1))=true:=decide_eq_true c13
        clear c13
        by_cases c14:a3≤((rd_T52 l0_2 a1).f0)
        ·rw [if_pos c14] at H
         have c14b0:decide (a3≤((rd_T52 l0_2 a1).f0))=true:=decide_eq_true c14
         clear c14
         simp only [Option.some.injEq,Prod.mk.injEq] at H
         obtain ⟨rfl,rfl⟩:=H
         have hcz15_0:wc.cell? ⟨gb101,0,none⟩=some (.string a0_0):=(blk_cell BK101.out 0).trans rfl
         have hcz15_1:wc.cell? ⟨gb101,1,none⟩=some (.int .i64 a0_1):=(blk_cell BK101.out 1).trans rfl
         have hcz15_2:wc.cell? ⟨gb101,2,none⟩=some (.slice A0_2 l0_2.length c0_2):=(blk_cell BK101.out 2).trans rfl
         have hfz15_0:=blk_frozen BK101.out 0
         have hfz15_1:=blk_frozen BK101.out 1
         have hfz15_2:=blk_frozen BK101.out 2
         have p102:0≤(a1:Int):=of_decide_eq_true (by first|(with_reducible assumption)|assumption)
         have q102:a1 < (l0_2.length:Int):=of_decide_eq_true (by first|(with_reducible assumption)|assumption)
         obtain ⟨ad102,e102,hx102_0,hx102_1,hx102_2,hx102_3⟩:=at_T52 HR0_2.out a1 p102 q102
         cases e102
         replace hx102_0:=(HB.out.cell (World.block_lt_of_cell? w _ hx102_0)).trans hx102_0
         replace hx102_1:=(HB.out.cell (World.block_lt_of_cell? w _ hx102_1)).trans hx102_1
         replace hx102_2:=(HB.out.cell (World.block_lt_of_cell? w _ hx102_2)).trans hx102_2
         replace hx102_3:=(HB.out.cell (World.block_lt_of_cell? w _ hx102_3)).trans hx102_3
         replace p102:=eq_true p102
         replace q102:=eq_true q102
         go_wp2_with (first|((with_reducible refine gate_dst (N:=10) rfl ?_);(try (refine gate_guard (by rfl) ?_;dsimp only));refine box_event ?hg (N:=10) ?hd (cs:=#[.int .i64 0,.int .i64 0,.int .i64 0,.int .i64 0]) (t:=52) ?hr ?_;(case hd=>rfl);(case hg=>rfl);(case hr=>first|(go_simp;done)|(go_simp;rfl));intro gb103 hg w16 hbox hb;have n0_:=Aside0.mk (blk_below (g:=gb101) (o:=.cells #[.string a0_0,.int .i64 a0_1,.slice (some ad102) l0_2.length c0_2] 24 (0,0)) (by (with_reducible repeat (first|refine blk_drewN ?_ _|refine blk_drew ?_|refine blk_alloc ?_ _));exact BK101.out) hb);have n1_:=Aside0.mk (below_step (by repeat (first|(with_reducible first|exact HB.out|apply below_alloc|apply pw_below_drewN|apply below_drew1|refine below_set ?_ GE101.out)|exact HB.out)) hb);have n2_:=Aside0.mk (hbox);have n3_:=Aside0.mk ((by rw [hg];exact (below_size (by repeat (first|(with_reducible first|exact HB.out|apply below_alloc|apply pw_below_drewN|apply below_drew1|refine below_set ?_ GE101.out)|exact HB.out))):w.heap.size≤gb103));have n4_:=Aside0.mk ((by rw [hg];exact (below_size (by repeat (first|(with_reducible first|exact HB.out|apply below_alloc|apply pw_below_drewN|apply below_drew1|refine below_set ?_ GE101.out)|exact HB.out))):w.heap.size≤gb103));have n5_:=Aside0.mk ((by rw [hg];exact Nat.ne_of_lt (blk_lt (g:=gb101) (o:=.cells #[.string a0_0,.int .i64 a0_1,.slice (some ad102) l0_2.length c0_2] 24 (0,0)) (by (with_reducible repeat (first|refine blk_drewN ?_ _|refine blk_drew ?_|refine blk_alloc ?_ _));exact BK101.out)):gb101 ≠ gb103));have n6_:=Aside0.mk ((by rw [hg];exact Nat.ne_of_gt (blk_lt (g:=gb101) (o:=.cells #[.string a0_0,.int .i64 a0_1,.slice (some ad102) l0_2.length c0_2] 24 (0,0)) (by (with_reducible repeat (first|refine blk_drewN ?_ _|refine blk_drew ?_|refine blk_alloc ?_ _));exact BK101.out)):gb103 ≠ gb101));clear BK101;clear HB;have BK101:=n0_;have HB:=n1_;have BK103:=n2_;have GW103:=n3_;have GE103:=n4_;have NB101_103:=n5_;have NB103_101:=n6_;clear n0_ n1_ n2_ n3_ n4_ n5_ n6_;clear hb hbox hg;have hnb17:=NB103_101.out;have hnc17:=NB101_103.out;have hcz18_0:w16.cell? ⟨gb103,0,none⟩=some (.int .i64 0):=(blk_cell BK103.out 0).trans rfl;have hcz18_1:w16.cell? ⟨gb103,1,none⟩=some (.int .i64 0):=(blk_cell BK103.out 1).trans rfl;have hcz18_2:w16.cell? ⟨gb103,2,none⟩=some (.int .i64 0):=(blk_cell BK103.out 2).trans rfl;have hcz18_3:w16.cell? ⟨gb103,3,none⟩=some (.int .i64 0):=(blk_cell BK103.out 3).trans rfl;have hfz18_0:=blk_frozen BK103.out 0;have hfz18_1:=blk_frozen BK103.out 1;have hfz18_2:=blk_frozen BK103.out 2;have hfz18_3:=blk_frozen BK103.out 3))
         go_ret2
         exact ⟨by first|rfl|(simp [errW_none,errW_some]<;>rfl)|(simp [*,errW_none,errW_some]<;>rfl),by repeat (first|(with_reducible first|exact HB.out|apply below_alloc|apply pw_below_drewN|apply below_drew1|refine below_set ?_ GE101.out|refine below_set ?_ GE103.out)|exact HB.out)⟩
        ·rw [if_neg c14] at H
         have c14b0:decide (a3≤((rd_T52 l0_2 a1).f0))=false:=decide_eq_false c14
         clear c14
         by_cases c19:a2 ≥ ((rd_T52 l0_2 a1).f1)
         ·rw [if_pos c19] at H
          have c19b0:decide (((rd_T52 l0_2 a1).f1)≤a2)=true:=decide_eq_true c19
          clear c19
          simp only [Option.some.injEq,Prod.mk.injEq] at H
          obtain ⟨rfl,rfl⟩:=H
          have hcz20_0:wc.cell? ⟨gb101,0,none⟩=some (.string a0_0):=(blk_cell BK101.out 0).trans rfl
          have hcz20_1:wc.cell? ⟨gb101,1,none⟩=some (.int .i64 a0_1):=(blk_cell BK101.out 1).trans rfl
          have hcz20_2:wc.cell? ⟨gb101,2,none⟩=some (.slice A0_2 l0_2.length c0_2):=(blk_cell BK101.out 2).trans rfl
          have hfz20_0:=blk_frozen BK101.out 0
          have hfz20_1:=blk_frozen BK101.out 1
          have hfz20_2:=blk_frozen BK101.out 2
          have p102:0≤(a1:Int):=of_decide_eq_true (by first|(with_reducible assumption)|assumption)
          have q102:a1 < (l0_2.length:Int):=of_decide_eq_true (by first|(with_reducible assumption)|assumption)
          obtain ⟨ad102,e102,hx102_0,hx102_1,hx102_2,hx102_3⟩:=at_T52 HR0_2.out a1 p102 q102
          cases e102
          replace hx102_0:=(HB.out.cell (World.block_lt_of_cell? w _ hx102_0)).trans hx102_0
          replace hx102_1:=(HB.out.cell (World.block_lt_of_cell? w _ hx102_1)).trans hx102_1
          replace hx102_2:=(HB.out.cell (World.block_lt_of_cell? w _ hx102_2)).trans hx102_2
          replace hx102_3:=(HB.out.cell (World.block_lt_of_cell? w _ hx102_3)).trans hx102_3
          replace p102:=eq_true p102
          replace q102:=eq_true q102
          go_wp2_with (first|((with_reducible refine gate_dst (N:=10) rfl ?_);(try (refine gate_guard (by rfl) ?_;dsimp only));refine box_event ?hg (N:=10) ?hd (cs:=#[.int .i64 0,.int .i64 0,.int .i64 0,.int .i64 0]) (t:=52) ?hr ?_;(case hd=>rfl);(case hg=>rfl);(case hr=>first|(go_simp;done)|(go_simp;rfl));intro gb103 hg w21 hbox hb;have n0_:=Aside0.mk (blk_below (g:=gb101) (o:=.cells #[.string a0_0,.int .i64 a0_1,.slice (some ad102) l0_2.length c0_2] 24 (0,0)) (by (with_reducible repeat (first|refine blk_drewN ?_ _|refine blk_drew ?_|refine blk_alloc ?_ _));exact BK101.out) hb);have n1_:=Aside0.mk (below_step (by repeat (first|(with_reducible first|exact HB.out|apply below_alloc|apply pw_below_drewN|apply below_drew1|refine below_set ?_ GE101.out)|exact HB.out)) hb);have n2_:=Aside0.mk (hbox);have n3_:=Aside0.mk ((by rw [hg];exact (below_size (by repeat (first|(with_reducible first|exact HB.out|apply below_alloc|apply pw_below_drewN|apply below_drew1|refine below_set ?_ GE101.out)|exact HB.out))):w.heap.size≤gb103));have n4_:=Aside0.mk ((by rw [hg];exact (below_size (by repeat (first|(with_reducible first|exact HB.out|apply below_alloc|apply pw_below_drewN|apply below_drew1|refine below_set ?_ GE101.out)|exact HB.out))):w.heap.size≤gb103));have n5_:=Aside0.mk ((by rw [hg];exact Nat.ne_of_lt (blk_lt (g:=gb101) (o:=.cells #[.string a0_0,.int .i64 a0_1,.slice (some ad102) l0_2.length c0_2] 24 (0,0)) (by (with_reducible repeat (first|refine blk_drewN ?_ _|refine blk_drew ?_|refine blk_alloc ?_ _));exact BK101.out)):gb101 ≠ gb103));have n6_:=Aside0.mk ((by rw [hg];exact Nat.ne_of_gt (blk_lt (g:=gb101) (o:=.cells #[.string a0_0,.int .i64 a0_1,.slice (some ad102) l0_2.length c0_2] 24 (0,0)) (by (with_reducible repeat (first|refine blk_drewN ?_ _|refine blk_drew ?_|refine blk_alloc ?_ _));exact BK101.out)):gb103 ≠ gb101));clear BK101;clear HB;have BK101:=n0_;have HB:=n1_;have BK103:=n2_;have GW103:=n3_;have GE103:=n4_;have NB101_103:=n5_;have NB103_101:=n6_;clear n0_ n1_ n2_ n3_ n4_ n5_ n6_;clear hb hbox hg;have hnb22:=NB103_101.out;have hnc22:=NB101_103.out;have hcz23_0:w21.cell? ⟨gb103,0,none⟩=some (.int .i64 0):=(blk_cell BK103.out 0).trans rfl;have hcz23_1:w21.cell? ⟨gb103,1,none⟩=some (.int .i64 0):=(blk_cell BK103.out 1).trans rfl;have hcz23_2:w21.cell? ⟨gb103,2,none⟩=some (.int .i64 0):=(blk_cell BK103.out 2).trans rfl;have hcz23_3:w21.cell? ⟨gb103,3,none⟩=some (.int .i64 0):=(blk_cell BK103.out 3).trans rfl;have hfz23_0:=blk_frozen BK103.out 0;have hfz23_1:=blk_frozen BK103.out 1;have hfz23_2:=blk_frozen BK103.out 2;have hfz23_3:=blk_frozen BK103.out 3))
          go_ret2
          exact ⟨by first|rfl|(simp [errW_none,errW_some]<;>rfl)|(simp [*,errW_none,errW_some]<;>rfl),by repeat (first|(with_reducible first|exact HB.out|apply below_alloc|apply pw_below_drewN|apply below_drew1|refine below_set ?_ GE101.out|refine below_set ?_ GE103.out)|exact HB.out)⟩
         ·rw [if_neg c19] at H
          have c19b0:decide (((rd_T52 l0_2 a1).f1)≤a2)=false:=decide_eq_false c19
          clear c19
          simp only [Option.some.injEq,Prod.mk.injEq] at H
          obtain ⟨rfl,rfl⟩:=H
          have hcz24_0:wc.cell? ⟨gb101,0,none⟩=some (.string a0_0):=(blk_cell BK101.out 0).trans rfl
          have hcz24_1:wc.cell? ⟨gb101,1,none⟩=some (.int .i64 a0_1):=(blk_cell BK101.out 1).trans rfl
          have hcz24_2:wc.cell? ⟨gb101,2,none⟩=some (.slice A0_2 l0_2.length c0_2):=(blk_cell BK101.out 2).trans rfl
          have hfz24_0:=blk_frozen BK101.out 0
          have hfz24_1:=blk_frozen BK101.out 1
          have hfz24_2:=blk_frozen BK101.out 2
          have p102:0≤(a1:Int):=of_decide_eq_true (by first|(with_reducible assumption)|assumption)
          have q102:a1 < (l0_2.length:Int):=of_decide_eq_true (by first|(with_reducible assumption)|assumption)
          obtain ⟨ad102,e102,hx102_0,hx102_1,hx102_2,hx102_3⟩:=at_T52 HR0_2.out a1 p102 q102
          cases e102
          replace hx102_0:=(HB.out.cell (World.block_lt_of_cell? w _ hx102_0)).trans hx102_0
          replace hx102_1:=(HB.out.cell (World.block_lt_of_cell? w _ hx102_1)).trans hx102_1
          replace hx102_2:=(HB.out.cell (World.block_lt_of_cell? w _ hx102_2)).trans hx102_2
          replace hx102_3:=(HB.out.cell (World.block_lt_of_cell? w _ hx102_3)).trans hx102_3
          replace p102:=eq_true p102
          replace q102:=eq_true q102
          go_wp2_with (first|((with_reducible refine gate_dst (N:=10) rfl ?_);(try (refine gate_guard (by rfl) ?_;dsimp only));refine box_event ?hg (N:=10) ?hd (cs:=#[.int .i64 0,.int .i64 0,.int .i64 0,.int .i64 0]) (t:=52) ?hr ?_;(case hd=>rfl);(case hg=>rfl);(case hr=>first|(go_simp;done)|(go_simp;rfl));intro gb103 hg w25 hbox hb;have n0_:=Aside0.mk (blk_below (g:=gb101) (o:=.cells #[.string a0_0,.int .i64 a0_1,.slice (some ad102) l0_2.length c0_2] 24 (0,0)) (by (with_reducible repeat (first|refine blk_drewN ?_ _|refine blk_drew ?_|refine blk_alloc ?_ _));exact BK101.out) hb);have n1_:=Aside0.mk (below_step (by repeat (first|(with_reducible first|exact HB.out|apply below_alloc|apply pw_below_drewN|apply below_drew1|refine below_set ?_ GE101.out)|exact HB.out)) hb);have n2_:=Aside0.mk (hbox);have n3_:=Aside0.mk ((by rw [hg];exact (below_size (by repeat (first|(with_reducible first|exact HB.out|apply below_alloc|apply pw_below_drewN|apply below_drew1|refine below_set ?_ GE101.out)|exact HB.out))):w.heap.size≤gb103));have n4_:=Aside0.mk ((by rw [hg];exact (below_size (by repeat (first|(with_reducible first|exact HB.out|apply below_alloc|apply pw_below_drewN|apply below_drew1|refine below_set ?_ GE101.out)|exact HB.out))):w.heap.size≤gb103));have n5_:=Aside0.mk ((by rw [hg];exact Nat.ne_of_lt (blk_lt (g:=gb101) (o:=.cells #[.string a0_0,.int .i64 a0_1,.slice (some ad102) l0_2.length c0_2] 24 (0,0)) (by (with_reducible repeat (first|refine blk_drewN ?_ _|refine blk_drew ?_|refine blk_alloc ?_ _));exact BK101.out)):gb101 ≠ gb103));have n6_:=Aside0.mk ((by rw [hg];exact Nat.ne_of_gt (blk_lt (g:=gb101) (o:=.cells #[.string a0_0,.int .i64 a0_1,.slice (some ad102) l0_2.length c0_2] 24 (0,0)) (by (with_reducible repeat (first|refine blk_drewN ?_ _|refine blk_drew ?_|refine blk_alloc ?_ _));exact BK101.out)):gb103 ≠ gb101));clear BK101;clear HB;have BK101:=n0_;have HB:=n1_;have BK103:=n2_;have GW103:=n3_;have GE103:=n4_;have NB101_103:=n5_;have NB103_101:=n6_;clear n0_ n1_ n2_ n3_ n4_ n5_ n6_;clear hb hbox hg;have hnb26:=NB103_101.out;have hnc26:=NB101_103.out;have hcz27_0:w25.cell? ⟨gb103,0,none⟩=some (.int .i64 0):=(blk_cell BK103.out 0).trans rfl;have hcz27_1:w25.cell? ⟨gb103,1,none⟩=some (.int .i64 0):=(blk_cell BK103.out 1).trans rfl;have hcz27_2:w25.cell? ⟨gb103,2,none⟩=some (.int .i64 0):=(blk_cell BK103.out 2).trans rfl;have hcz27_3:w25.cell? ⟨gb103,3,none⟩=some (.int .i64 0):=(blk_cell BK103.out 3).trans rfl;have hfz27_0:=blk_frozen BK103.out 0;have hfz27_1:=blk_frozen BK103.out 1;have hfz27_2:=blk_frozen BK103.out 2;have hfz27_3:=blk_frozen BK103.out 3))
          go_ret2
          exact ⟨by first|rfl|(simp [errW_none,errW_some]<;>rfl)|(simp [*,errW_none,errW_some]<;>rfl),by repeat (first|(with_reducible first|exact HB.out|apply below_alloc|apply pw_below_drewN|apply below_drew1|refine below_set ?_ GE101.out|refine below_set ?_ GE103.out)|exact HB.out)⟩
       ·rw [if_neg c13] at H
        have c13b0:decide (0 < ((rd_T52 l0_2 a1).f1))=false:=decide_eq_false c13
        clear c13
        by_cases c28:a3≤((rd_T52 l0_2 a1).f0)
        ·rw [if_pos c28] at H
         have c28b0:decide (a3≤((rd_T52 l0_2 a1).f0))=true:=decide_eq_true c28
         clear c28
         simp only [Option.some.injEq,Prod.mk.injEq] at H
         obtain ⟨rfl,rfl⟩:=H
         have hcz29_0:wc.cell? ⟨gb101,0,none⟩=some (.string a0_0):=(blk_cell BK101.out 0).trans rfl
         have hcz29_1:wc.cell? ⟨gb101,1,none⟩=some (.int .i64 a0_1):=(blk_cell BK101.out 1).trans rfl
         have hcz29_2:wc.cell? ⟨gb101,2,none⟩=some (.slice A0_2 l0_2.length c0_2):=(blk_cell BK101.out 2).trans rfl
         have hfz29_0:=blk_frozen BK101.out 0
         have hfz29_1:=blk_frozen BK101.out 1
         have hfz29_2:=blk_frozen BK101.out 2
         have p102:0≤(a1:Int):=of_decide_eq_true (by first|(with_reducible assumption)|assumption)
         have q102:a1 < (l0_2.length:Int):=of_decide_eq_true (by first|(with_reducible assumption)|assumption)
         obtain ⟨ad102,e102,hx102_0,hx102_1,hx102_2,hx102_3⟩:=at_T52 HR0_2.out a1 p102 q102
         cases e102
         replace hx102_0:=(HB.out.cell (World.block_lt_of_cell? w _ hx102_0)).trans hx102_0
         replace hx102_1:=(HB.out.cell (World.block_lt_of_cell? w _ hx102_1)).trans hx102_1
         replace hx102_2:=(HB.out.cell (World.block_lt_of_cell? w _ hx102_2)).trans hx102_2
         replace hx102_3:=(HB.out.cell (World.block_lt_of_cell? w _ hx102_3)).trans hx102_3
         replace p102:=eq_true p102
         replace q102:=eq_true q102
         go_wp2_with (first|((with_reducible refine gate_dst (N:=10) rfl ?_);(try (refine gate_guard (by rfl) ?_;dsimp only));refine box_event ?hg (N:=10) ?hd (cs:=#[.int .i64 0,.int .i64 0,.int .i64 0,.int .i64 0]) (t:=52) ?hr ?_;(case hd=>rfl);(case hg=>rfl);(case hr=>first|(go_simp;done)|(go_simp;rfl));intro gb103 hg w30 hbox hb;have n0_:=Aside0.mk (blk_below (g:=gb101) (o:=.cells #[.string a0_0,.int .i64 a0_1,.slice (some ad102) l0_2.length c0_2] 24 (0,0)) (by (with_reducible repeat (first|refine blk_drewN ?_ _|refine blk_drew ?_|refine blk_alloc ?_ _));exact BK101.out) hb);have n1_:=Aside0.mk (below_step (by repeat (first|(with_reducible first|exact HB.out|apply below_alloc|apply pw_below_drewN|apply below_drew1|refine below_set ?_ GE101.out)|exact HB.out)) hb);have n2_:=Aside0.mk (hbox);have n3_:=Aside0.mk ((by rw [hg];exact (below_size (by repeat (first|(with_reducible first|exact HB.out|apply below_alloc|apply pw_below_drewN|apply below_drew1|refine below_set ?_ GE101.out)|exact HB.out))):w.heap.size≤gb103));have n4_:=Aside0.mk ((by rw [hg];exact (below_size (by repeat (first|(with_reducible first|exact HB.out|apply below_alloc|apply pw_below_drewN|apply below_drew1|refine below_set ?_ GE101.out)|exact HB.out))):w.heap.size≤gb103));have n5_:=Aside0.mk ((by rw [hg];exact Nat.ne_of_lt (blk_lt (g:=gb101) (o:=.cells #[.string a0_0,.int .i64 a0_1,.slice (some ad102) l0_2.length c0_2] 24 (0,0)) (by (with_reducible repeat (first|refine blk_drewN ?_ _|refine blk_drew ?_|refine blk_alloc ?_ _));exact BK101.out)):gb101 ≠ gb103));have n6_:=Aside0.mk ((by rw [hg];exact Nat.ne_of_gt (blk_lt (g:=gb101) (o:=.cells #[.string a0_0,.int .i64 a0_1,.slice (some ad102) l0_2.length c0_2] 24 (0,0)) (by (with_reducible repeat (first|refine blk_drewN ?_ _|refine blk_drew ?_|refine blk_alloc ?_ _));exact BK101.out)):gb103 ≠ gb101));clear BK101;clear HB;have BK101:=n0_;have HB:=n1_;have BK103:=n2_;have GW103:=n3_;have GE103:=n4_;have NB101_103:=n5_;have NB103_101:=n6_;clear n0_ n1_ n2_ n3_ n4_ n5_ n6_;clear hb hbox hg;have hnb31:=NB103_101.out;have hnc31:=NB101_103.out;have hcz32_0:w30.cell? ⟨gb103,0,none⟩=some (.int .i64 0):=(blk_cell BK103.out 0).trans rfl;have hcz32_1:w30.cell? ⟨gb103,1,none⟩=some (.int .i64 0):=(blk_cell BK103.out 1).trans rfl;have hcz32_2:w30.cell? ⟨gb103,2,none⟩=some (.int .i64 0):=(blk_cell BK103.out 2).trans rfl;have hcz32_3:w30.cell? ⟨gb103,3,none⟩=some (.int .i64 0):=(blk_cell BK103.out 3).trans rfl;have hfz32_0:=blk_frozen BK103.out 0;have hfz32_1:=blk_frozen BK103.out 1;have hfz32_2:=blk_frozen BK103.out 2;have hfz32_3:=blk_frozen BK103.out 3))
         go_ret2
         exact ⟨by first|rfl|(simp [errW_none,errW_some]<;>rfl)|(simp [*,errW_none,errW_some]<;>rfl),by repeat (first|(with_reducible first|exact HB.out|apply below_alloc|apply pw_below_drewN|apply below_drew1|refine below_set ?_ GE101.out|refine below_set ?_ GE103.out)|exact HB.out)⟩
        ·rw [if_neg c28] at H
         have c28b0:decide (a3≤((rd_T52 l0_2 a1).f0))=false:=decide_eq_false c28
         clear c28
         simp only [Option.some.injEq,Prod.mk.injEq] at H
         obtain ⟨rfl,rfl⟩:=H
         have hcz33_0:wc.cell? ⟨gb101,0,none⟩=some (.string a0_0):=(blk_cell BK101.out 0).trans rfl
         have hcz33_1:wc.cell? ⟨gb101,1,none⟩=some (.int .i64 a0_1):=(blk_cell BK101.out 1).trans rfl
         have hcz33_2:wc.cell? ⟨gb101,2,none⟩=some (.slice A0_2 l0_2.length c0_2):=(blk_cell BK101.out 2).trans rfl
         have hfz33_0:=blk_frozen BK101.out 0
         have hfz33_1:=blk_frozen BK101.out 1
         have hfz33_2:=blk_frozen BK101.out 2
         have p102:0≤(a1:Int):=of_decide_eq_true (by first|(with_reducible assumption)|assumption)
         have q102:a1 < (l0_2.length:Int):=of_decide_eq_true (by first|(with_reducible assumption)|assumption)
         obtain ⟨ad102,e102,hx102_0,hx102_1,hx102_2,hx102_3⟩:=at_T52 HR0_2.out a1 p102 q102
         cases e102
         replace hx102_0:=(HB.out.cell (World.block_lt_of_cell? w _ hx102_0)).trans hx102_0
         replace hx102_1:=(HB.out.cell (World.block_lt_of_cell? w _ hx102_1)).trans hx102_1
         replace hx102_2:=(HB.out.cell (World.block_lt_of_cell? w _ hx102_2)).trans hx102_2
         replace hx102_3:=(HB.out.cell (World.block_lt_of_cell? w _ hx102_3)).trans hx102_3
         replace p102:=eq_true p102
         replace q102:=eq_true q102
         go_wp2_with (first|((with_reducible refine gate_dst (N:=10) rfl ?_);(try (refine gate_guard (by rfl) ?_;dsimp only));refine box_event ?hg (N:=10) ?hd (cs:=#[.int .i64 0,.int .i64 0,.int .i64 0,.int .i64 0]) (t:=52) ?hr ?_;(case hd=>rfl);(case hg=>rfl);(case hr=>first|(go_simp;done)|(go_simp;rfl));intro gb103 hg w34 hbox hb;have n0_:=Aside0.mk (blk_below (g:=gb101) (o:=.cells #[.string a0_0,.int .i64 a0_1,.slice (some ad102) l0_2.length c0_2] 24 (0,0)) (by (with_reducible repeat (first|refine blk_drewN ?_ _|refine blk_drew ?_|refine blk_alloc ?_ _));exact BK101.out) hb);have n1_:=Aside0.mk (below_step (by repeat (first|(with_reducible first|exact HB.out|apply below_alloc|apply pw_below_drewN|apply below_drew1|refine below_set ?_ GE101.out)|exact HB.out)) hb);have n2_:=Aside0.mk (hbox);have n3_:=Aside0.mk ((by rw [hg];exact (below_size (by repeat (first|(with_reducible first|exact HB.out|apply below_alloc|apply pw_below_drewN|apply below_drew1|refine below_set ?_ GE101.out)|exact HB.out))):w.heap.size≤gb103));have n4_:=Aside0.mk ((by rw [hg];exact (below_size (by repeat (first|(with_reducible first|exact HB.out|apply below_alloc|apply pw_below_drewN|apply below_drew1|refine below_set ?_ GE101.out)|exact HB.out))):w.heap.size≤gb103));have n5_:=Aside0.mk ((by rw [hg];exact Nat.ne_of_lt (blk_lt (g:=gb101) (o:=.cells #[.string a0_0,.int .i64 a0_1,.slice (some ad102) l0_2.length c0_2] 24 (0,0)) (by (with_reducible repeat (first|refine blk_drewN ?_ _|refine blk_drew ?_|refine blk_alloc ?_ _));exact BK101.out)):gb101 ≠ gb103));have n6_:=Aside0.mk ((by rw [hg];exact Nat.ne_of_gt (blk_lt (g:=gb101) (o:=.cells #[.string a0_0,.int .i64 a0_1,.slice (some ad102) l0_2.length c0_2] 24 (0,0)) (by (with_reducible repeat (first|refine blk_drewN ?_ _|refine blk_drew ?_|refine blk_alloc ?_ _));exact BK101.out)):gb103 ≠ gb101));clear BK101;clear HB;have BK101:=n0_;have HB:=n1_;have BK103:=n2_;have GW103:=n3_;have GE103:=n4_;have NB101_103:=n5_;have NB103_101:=n6_;clear n0_ n1_ n2_ n3_ n4_ n5_ n6_;clear hb hbox hg;have hnb35:=NB103_101.out;have hnc35:=NB101_103.out;have hcz36_0:w34.cell? ⟨gb103,0,none⟩=some (.int .i64 0):=(blk_cell BK103.out 0).trans rfl;have hcz36_1:w34.cell? ⟨gb103,1,none⟩=some (.int .i64 0):=(blk_cell BK103.out 1).trans rfl;have hcz36_2:w34.cell? ⟨gb103,2,none⟩=some (.int .i64 0):=(blk_cell BK103.out 2).trans rfl;have hcz36_3:w34.cell? ⟨gb103,3,none⟩=some (.int .i64 0):=(blk_cell BK103.out 3).trans rfl;have hfz36_0:=blk_frozen BK103.out 0;have hfz36_1:=blk_frozen BK103.out 1;have hfz36_2:=blk_frozen BK103.out 2;have hfz36_3:=blk_frozen BK103.out 3))
         go_ret2
         exact ⟨by first|rfl|(simp [errW_none,errW_some]<;>rfl)|(simp [*,errW_none,errW_some]<;>rfl),by repeat (first|(with_reducible first|exact HB.out|apply below_alloc|apply pw_below_drewN|apply below_drew1|refine below_set ?_ GE101.out|refine below_set ?_ GE103.out)|exact HB.out)⟩
      ·rw [if_neg c12] at H
       have c12b0:decide (0 < ((rd_T52 l0_2 a1).f0))=false:=decide_eq_false c12
       clear c12
       by_cases c37:((rd_T52 l0_2 a1).f1) > 0
       ·rw [if_pos c37] at H
        have c37b0:decide (0 < ((rd_T52 l0_2 a1).f1))=true:=decide_eq_true c37
        clear c37
        by_cases c38:a2 ≥ ((rd_T52 l0_2 a1).f1)
        ·rw [if_pos c38] at H
         have c38b0:decide (((rd_T52 l0_2 a1).f1)≤a2)=true:=decide_eq_true c38
         clear c38
         simp only [Option.some.injEq,Prod.mk.injEq] at H
         obtain ⟨rfl,rfl⟩:=H
         have hcz39_0:wc.cell? ⟨gb101,0,none⟩=some (.string a0_0):=(blk_cell BK101.out 0).trans rfl
         have hcz39_1:wc.cell? ⟨gb101,1,none⟩=some (.int .i64 a0_1):=(blk_cell BK101.out 1).trans rfl
         have hcz39_2:wc.cell? ⟨gb101,2,none⟩=some (.slice A0_2 l0_2.length c0_2):=(blk_cell BK101.out 2).trans rfl
         have hfz39_0:=blk_frozen BK101.out 0
         have hfz39_1:=blk_frozen BK101.out 1
         have hfz39_2:=blk_frozen BK101.out 2
         have p102:0≤(a1:Int):=of_decide_eq_true (by first|(with_reducible assumption)|assumption)
         have q102:a1 < (l0_2.length:Int):=of_decide_eq_true (by first|(with_reducible assumption)|assumption)
         obtain ⟨ad102,e102,hx102_0,hx102_1,hx102_2,hx102_3⟩:=at_T52 HR0_2.out a1 p102 q102
         cases e102
         replace hx102_0:=(HB.out.cell (World.block_lt_of_cell? w _ hx102_0)).trans hx102_0
         replace hx102_1:=(HB.out.cell (World.block_lt_of_cell? w _ hx102_1)).trans hx102_1
         replace hx102_2:=(HB.out.cell (World.block_lt_of_cell? w _ hx102_2)).trans hx102_2
         replace hx102_3:=(HB.out.cell (World.block_lt_of_cell? w _ hx102_3)).trans hx102_3
         replace p102:=eq_true p102
         replace q102:=eq_true q102
         go_wp2_with (first|((with_reducible refine gate_dst (N:=10) rfl ?_);(try (refine gate_guard (by rfl) ?_;dsimp only));refine box_event ?hg (N:=10) ?hd (cs:=#[.int .i64 0,.int .i64 0,.int .i64 0,.int .i64 0]) (t:=52) ?hr ?_;(case hd=>rfl);(case hg=>rfl);(case hr=>first|(go_simp;done)|(go_simp;rfl));intro gb103 hg w40 hbox hb;have n0_:=Aside0.mk (blk_below (g:=gb101) (o:=.cells #[.string a0_0,.int .i64 a0_1,.slice (some ad102) l0_2.length c0_2] 24 (0,0)) (by (with_reducible repeat (first|refine blk_drewN ?_ _|refine blk_drew ?_|refine blk_alloc ?_ _));exact BK101.out) hb);have n1_:=Aside0.mk (below_step (by repeat (first|(with_reducible first|exact HB.out|apply below_alloc|apply pw_below_drewN|apply below_drew1|refine below_set ?_ GE101.out)|exact HB.out)) hb);have n2_:=Aside0.mk (hbox);have n3_:=Aside0.mk ((by rw [hg];exact (below_size (by repeat (first|(with_reducible first|exact HB.out|apply below_alloc|apply pw_below_drewN|apply below_drew1|refine below_set ?_ GE101.out)|exact HB.out))):w.heap.size≤gb103));have n4_:=Aside0.mk ((by rw [hg];exact (below_size (by repeat (first|(with_reducible first|exact HB.out|apply below_alloc|apply pw_below_drewN|apply below_drew1|refine below_set ?_ GE101.out)|exact HB.out))):w.heap.size≤gb103));have n5_:=Aside0.mk ((by rw [hg];exact Nat.ne_of_lt (blk_lt (g:=gb101) (o:=.cells #[.string a0_0,.int .i64 a0_1,.slice (some ad102) l0_2.length c0_2] 24 (0,0)) (by (with_reducible repeat (first|refine blk_drewN ?_ _|refine blk_drew ?_|refine blk_alloc ?_ _));exact BK101.out)):gb101 ≠ gb103));have n6_:=Aside0.mk ((by rw [hg];exact Nat.ne_of_gt (blk_lt (g:=gb101) (o:=.cells #[.string a0_0,.int .i64 a0_1,.slice (some ad102) l0_2.length c0_2] 24 (0,0)) (by (with_reducible repeat (first|refine blk_drewN ?_ _|refine blk_drew ?_|refine blk_alloc ?_ _));exact BK101.out)):gb103 ≠ gb101));clear BK101;clear HB;have BK101:=n0_;have HB:=n1_;have BK103:=n2_;have GW103:=n3_;have GE103:=n4_;have NB101_103:=n5_;have NB103_101:=n6_;clear n0_ n1_ n2_ n3_ n4_ n5_ n6_;clear hb hbox hg;have hnb41:=NB103_101.out;have hnc41:=NB101_103.out;have hcz42_0:w40.cell? ⟨gb103,0,none⟩=some (.int .i64 0):=(blk_cell BK103.out 0).trans rfl;have hcz42_1:w40.cell? ⟨gb103,1,none⟩=some (.int .i64 0):=(blk_cell BK103.out 1).trans rfl;have hcz42_2:w40.cell? ⟨gb103,2,none⟩=some (.int .i64 0):=(blk_cell BK103.out 2).trans rfl;have hcz42_3:w40.cell? ⟨gb103,3,none⟩=some (.int .i64 0):=(blk_cell BK103.out 3).trans rfl;have hfz42_0:=blk_frozen BK103.out 0;have hfz42_1:=blk_frozen BK103.out 1;have hfz42_2:=blk_frozen BK103.out 2;have hfz42_3:=blk_frozen BK103.out 3))
         go_ret2
         exact ⟨by first|rfl|(simp [errW_none,errW_some]<;>rfl)|(simp [*,errW_none,errW_some]<;>rfl),by repeat (first|(with_reducible first|exact HB.out|apply below_alloc|apply pw_below_drewN|apply below_drew1|refine below_set ?_ GE101.out|refine below_set ?_ GE103.out)|exact HB.out)⟩
        ·rw [if_neg c38] at H
         have c38b0:decide (((rd_T52 l0_2 a1).f1)≤a2)=false:=decide_eq_false c38
         clear c38
         simp only [Option.some.injEq,Prod.mk.injEq] at H
         obtain ⟨rfl,rfl⟩:=H
         have hcz43_0:wc.cell? ⟨gb101,0,none⟩=some (.string a0_0):=(blk_cell BK101.out 0).trans rfl
         have hcz43_1:wc.cell? ⟨gb101,1,none⟩=some (.int .i64 a0_1):=(blk_cell BK101.out 1).trans rfl
         have hcz43_2:wc.cell? ⟨gb101,2,none⟩=some (.slice A0_2 l0_2.length c0_2):=(blk_cell BK101.out 2).trans rfl
         have hfz43_0:=blk_frozen BK101.out 0
         have hfz43_1:=blk_frozen BK101.out 1
         have hfz43_2:=blk_frozen BK101.out 2
         have p102:0≤(a1:Int):=of_decide_eq_true (by first|(with_reducible assumption)|assumption)
         have q102:a1 < (l0_2.length:Int):=of_decide_eq_true (by first|(with_reducible assumption)|assumption)
         obtain ⟨ad102,e102,hx102_0,hx102_1,hx102_2,hx102_3⟩:=at_T52 HR0_2.out a1 p102 q102
         cases e102
         replace hx102_0:=(HB.out.cell (World.block_lt_of_cell? w _ hx102_0)).trans hx102_0
         replace hx102_1:=(HB.out.cell (World.block_lt_of_cell? w _ hx102_1)).trans hx102_1
         replace hx102_2:=(HB.out.cell (World.block_lt_of_cell? w _ hx102_2)).trans hx102_2
         replace hx102_3:=(HB.out.cell (World.block_lt_of_cell? w _ hx102_3)).trans hx102_3
         replace p102:=eq_true p102
         replace q102:=eq_true q102
         go_wp2_with (first|((with_reducible refine gate_dst (N:=10) rfl ?_);(try (refine gate_guard (by rfl) ?_;dsimp only));refine box_event ?hg (N:=10) ?hd (cs:=#[.int .i64 0,.int .i64 0,.int .i64 0,.int .i64 0]) (t:=52) ?hr ?_;(case hd=>rfl);(case hg=>rfl);(case hr=>first|(go_simp;done)|(go_simp;rfl));intro gb103 hg w44 hbox hb;have n0_:=Aside0.mk (blk_below (g:=gb101) (o:=.cells #[.string a0_0,.int .i64 a0_1,.slice (some ad102) l0_2.length c0_2] 24 (0,0)) (by (with_reducible repeat (first|refine blk_drewN ?_ _|refine blk_drew ?_|refine blk_alloc ?_ _));exact BK101.out) hb);have n1_:=Aside0.mk (below_step (by repeat (first|(with_reducible first|exact HB.out|apply below_alloc|apply pw_below_drewN|apply below_drew1|refine below_set ?_ GE101.out)|exact HB.out)) hb);have n2_:=Aside0.mk (hbox);have n3_:=Aside0.mk ((by rw [hg];exact (below_size (by repeat (first|(with_reducible first|exact HB.out|apply below_alloc|apply pw_below_drewN|apply below_drew1|refine below_set ?_ GE101.out)|exact HB.out))):w.heap.size≤gb103));have n4_:=Aside0.mk ((by rw [hg];exact (below_size (by repeat (first|(with_reducible first|exact HB.out|apply below_alloc|apply pw_below_drewN|apply below_drew1|refine below_set ?_ GE101.out)|exact HB.out))):w.heap.size≤gb103));have n5_:=Aside0.mk ((by rw [hg];exact Nat.ne_of_lt (blk_lt (g:=gb101) (o:=.cells #[.string a0_0,.int .i64 a0_1,.slice (some ad102) l0_2.length c0_2] 24 (0,0)) (by (with_reducible repeat (first|refine blk_drewN ?_ _|refine blk_drew ?_|refine blk_alloc ?_ _));exact BK101.out)):gb101 ≠ gb103));have n6_:=Aside0.mk ((by rw [hg];exact Nat.ne_of_gt (blk_lt (g:=gb101) (o:=.cells #[.string a0_0,.int .i64 a0_1,.slice (some ad102) l0_2.length c0_2] 24 (0,0)) (by (with_reducible repeat (first|refine blk_drewN ?_ _|refine blk_drew ?_|refine blk_alloc ?_ _));exact BK101.out)):gb103 ≠ gb101));clear BK101;clear HB;have BK101:=n0_;have HB:=n1_;have BK103:=n2_;have GW103:=n3_;have GE103:=n4_;have NB101_103:=n5_;have NB103_101:=n6_;clear n0_ n1_ n2_ n3_ n4_ n5_ n6_;clear hb hbox hg;have hnb45:=NB103_101.out;have hnc45:=NB101_103.out;have hcz46_0:w44.cell? ⟨gb103,0,none⟩=some (.int .i64 0):=(blk_cell BK103.out 0).trans rfl;have hcz46_1:w44.cell? ⟨gb103,1,none⟩=some (.int .i64 0):=(blk_cell BK103.out 1).trans rfl;have hcz46_2:w44.cell? ⟨gb103,2,none⟩=some (.int .i64 0):=(blk_cell BK103.out 2).trans rfl;have hcz46_3:w44.cell? ⟨gb103,3,none⟩=some (.int .i64 0):=(blk_cell BK103.out 3).trans rfl;have hfz46_0:=blk_frozen BK103.out 0;have hfz46_1:=blk_frozen BK103.out 1;have hfz46_2:=blk_frozen BK103.out 2;have hfz46_3:=blk_frozen BK103.out 3))
         go_ret2
         exact ⟨by first|rfl|(simp [errW_none,errW_some]<;>rfl)|(simp [*,errW_none,errW_some]<;>rfl),by repeat (first|(with_reducible first|exact HB.out|apply below_alloc|apply pw_below_drewN|apply below_drew1|refine below_set ?_ GE101.out|refine below_set ?_ GE103.out)|exact HB.out)⟩
       ·rw [if_neg c37] at H
        have c37b0:decide (0 < ((rd_T52 l0_2 a1).f1))=false:=decide_eq_false c37
        clear c37
        simp only [Option.some.injEq,Prod.mk.injEq] at H
        obtain ⟨rfl,rfl⟩:=H
        have hcz47_0:wc.cell? ⟨gb101,0,none⟩=some (.string a0_0):=(blk_cell BK101.out 0).trans rfl
        have hcz47_1:wc.cell? ⟨gb101,1,none⟩=some (.int .i64 a0_1):=(blk_cell BK101.out 1).trans rfl
        have hcz47_2:wc.cell? ⟨gb101,2,none⟩=some (.slice A0_2 l0_2.length c0_2):=(blk_cell BK101.out 2).trans rfl
        have hfz47_0:=blk_frozen BK101.out 0
        have hfz47_1:=blk_frozen BK101.out 1
        have hfz47_2:=blk_frozen BK101.out 2
        have p102:0≤(a1:Int):=of_decide_eq_true (by first|(with_reducible assumption)|assumption)
        have q102:a1 < (l0_2.length:Int):=of_decide_eq_true (by first|(with_reducible assumption)|assumption)
        obtain ⟨ad102,e102,hx102_0,hx102_1,hx102_2,hx102_3⟩:=at_T52 HR0_2.out a1 p102 q102
        cases e102
        replace hx102_0:=(HB.out.cell (World.block_lt_of_cell? w _ hx102_0)).trans hx102_0
        replace hx102_1:=(HB.out.cell (World.block_lt_of_cell? w _ hx102_1)).trans hx102_1
        replace hx102_2:=(HB.out.cell (World.block_lt_of_cell? w _ hx102_2)).trans hx102_2
        replace hx102_3:=(HB.out.cell (World.block_lt_of_cell? w _ hx102_3)).trans hx102_3
        replace p102:=eq_true p102
        replace q102:=eq_true q102
        go_wp2_with (first|((with_reducible refine gate_dst (N:=10) rfl ?_);(try (refine gate_guard (by rfl) ?_;dsimp only));refine box_event ?hg (N:=10) ?hd (cs:=#[.int .i64 0,.int .i64 0,.int .i64 0,.int .i64 0]) (t:=52) ?hr ?_;(case hd=>rfl);(case hg=>rfl);(case hr=>first|(go_simp;done)|(go_simp;rfl));intro gb103 hg w48 hbox hb;have n0_:=Aside0.mk (blk_below (g:=gb101) (o:=.cells #[.string a0_0,.int .i64 a0_1,.slice (some ad102) l0_2.length c0_2] 24 (0,0)) (by (with_reducible repeat (first|refine blk_drewN ?_ _|refine blk_drew ?_|refine blk_alloc ?_ _));exact BK101.out) hb);have n1_:=Aside0.mk (below_step (by repeat (first|(with_reducible first|exact HB.out|apply below_alloc|apply pw_below_drewN|apply below_drew1|refine below_set ?_ GE101.out)|exact HB.out)) hb);have n2_:=Aside0.mk (hbox);have n3_:=Aside0.mk ((by rw [hg];exact (below_size (by repeat (first|(with_reducible first|exact HB.out|apply below_alloc|apply pw_below_drewN|apply below_drew1|refine below_set ?_ GE101.out)|exact HB.out))):w.heap.size≤gb103));have n4_:=Aside0.mk ((by rw [hg];exact (below_size (by repeat (first|(with_reducible first|exact HB.out|apply below_alloc|apply pw_below_drewN|apply below_drew1|refine below_set ?_ GE101.out)|exact HB.out))):w.heap.size≤gb103));have n5_:=Aside0.mk ((by rw [hg];exact Nat.ne_of_lt (blk_lt (g:=gb101) (o:=.cells #[.string a0_0,.int .i64 a0_1,.slice (some ad102) l0_2.length c0_2] 24 (0,0)) (by (with_reducible repeat (first|refine blk_drewN ?_ _|refine blk_drew ?_|refine blk_alloc ?_ _));exact BK101.out)):gb101 ≠ gb103));have n6_:=Aside0.mk ((by rw [hg];exact Nat.ne_of_gt (blk_lt (g:=gb101) (o:=.cells #[.string a0_0,.int .i64 a0_1,.slice (some ad102) l0_2.length c0_2] 24 (0,0)) (by (with_reducible repeat (first|refine blk_drewN ?_ _|refine blk_drew ?_|refine blk_alloc ?_ _));exact BK101.out)):gb103 ≠ gb101));clear BK101;clear HB;have BK101:=n0_;have HB:=n1_;have BK103:=n2_;have GW103:=n3_;have GE103:=n4_;have NB101_103:=n5_;have NB103_101:=n6_;clear n0_ n1_ n2_ n3_ n4_ n5_ n6_;clear hb hbox hg;have hnb49:=NB103_101.out;have hnc49:=NB101_103.out;have hcz50_0:w48.cell? ⟨gb103,0,none⟩=some (.int .i64 0):=(blk_cell BK103.out 0).trans rfl;have hcz50_1:w48.cell? ⟨gb103,1,none⟩=some (.int .i64 0):=(blk_cell BK103.out 1).trans rfl;have hcz50_2:w48.cell? ⟨gb103,2,none⟩=some (.int .i64 0):=(blk_cell BK103.out 2).trans rfl;have hcz50_3:w48.cell? ⟨gb103,3,none⟩=some (.int .i64 0):=(blk_cell BK103.out 3).trans rfl;have hfz50_0:=blk_frozen BK103.out 0;have hfz50_1:=blk_frozen BK103.out 1;have hfz50_2:=blk_frozen BK103.out 2;have hfz50_3:=blk_frozen BK103.out 3))
        go_ret2
        exact ⟨by first|rfl|(simp [errW_none,errW_some]<;>rfl)|(simp [*,errW_none,errW_some]<;>rfl),by repeat (first|(with_reducible first|exact HB.out|apply below_alloc|apply pw_below_drewN|apply below_drew1|refine below_set ?_ GE101.out|refine below_set ?_ GE103.out)|exact HB.out)⟩
     ·rw [if_neg c11] at H
      exact absurd H (by simp)
    ·rw [if_neg c10] at H
     exact absurd H (by simp)
end Go.Proofs.YtehdmplngmbnnaaDoor.P
namespace Go.Proofs.YtehdmplngmbnnaaDoor.P
open Go.RowKit Go.Proofs.YtehdmplngmbnnaaDoorW.PrintWords Go.Proofs.YtehdmplngmbnnaaDoorW.PrintLast Go.Proofs.YtehdmplngmbnnaaDoorW.PrintMore
attribute [local go_sem] max2_int min2_int max_two min_two max_three min_three max_four min_four
attribute [local go_sem] cell_twice
set_option linter.unusedVariables false
set_option linter.unusedSimpArgs false
def schedule_Target.f (a0_0:ByteArray) (a0_1:Int) (l0_2:List (S52)) (a1:Int) (a2_0:ByteArray) (a2_1:Int) (a2_2:Int) (a2_3:Int) (a2_4:Int) (a2_5:Int) (a2_6:Int) (a2_7:Int) (a2_8:Int) (a2_9:Int) (a2_10:Int) (a2_11:Int) (a2_12:Int):Option (Int × Int):=if a1 < 0 then (some (0,0)) else (if a1 ≥ (l0_2.length:Int) then (some (0,0)) else (if 0≤a1 then (if a1 < (l0_2.length:Int) then (some (mn ((rd_T52 l0_2 a1).f2) a2_7,mn ((rd_T52 l0_2 a1).f3) a2_8)) else (none)) else (none)))
set_option maxHeartbeats 8000000 in
set_option maxRecDepth 100000 in
theorem schedule_Target.calls (a0_0:ByteArray) (a0_1:Int) (A0_2:Option Addr) (c0_2:Nat) (l0_2:List (S52)) (a1:Int) (a2_0:ByteArray) (a2_1:Int) (a2_2:Int) (a2_3:Int) (a2_4:Int) (a2_5:Int) (a2_6:Int) (a2_7:Int) (a2_8:Int) (a2_9:Int) (a2_10:Int) (a2_11:Int) (a2_12:Int) (r1:Int) (r2:Int) (w:World) (hr0_2:Kd.C k52 w A0_2 l0_2.length l0_2) (hc0_2:l0_2.length≤c0_2) (h:schedule_Target.f a0_0 a0_1 l0_2 a1 a2_0 a2_1 a2_2 a2_3 a2_4 a2_5 a2_6 a2_7 a2_8 a2_9 a2_10 a2_11 a2_12=some (r1,r2)) :
  Calls Tryd.prog 21 #[.agg #[.string a0_0,.int .i64 a0_1,.slice A0_2 l0_2.length c0_2],.int .i64 a1,.agg #[.string a2_0,.int .i64 a2_1,.int .i64 a2_2,.int .i64 a2_3,.int .i64 a2_4,.int .i64 a2_5,.int .i64 a2_6,.int .i64 a2_7,.int .i64 a2_8,.int .i64 a2_9,.int .i64 a2_10,.int .i64 a2_11,.int .i64 a2_12]] w fun e w'=>e=.returned (.agg #[.int .i64 r1,.int .i64 r2])∧Below w.heap.size w w':=by
 have hu24:=Tryd.underlying24
 have hu37:=Tryd.underlying37
 have hu41:=Tryd.underlying41
 have hu52:=Tryd.underlying52
 have HR0_2:=Aside0.mk hr0_2
 have HC0_2:=Aside0.mk hc0_2
 clear hr0_2 hc0_2
 have HB:=Aside0.mk (Below.refl w.heap.size w)
 have H:(if a1 < 0 then (some (0,0)) else (if a1 ≥ (l0_2.length:Int) then (some (0,0)) else (if 0≤a1 then (if a1 < (l0_2.length:Int) then (some (mn ((rd_T52 l0_2 a1).f2) a2_7,mn ((rd_T52 l0_2 a1).f3) a2_8)) else (none)) else (none))))=some (r1,r2):=h
 clear h
 by_cases c4:a1 < 0
 ·rw [if_pos c4] at H
  have c4b0:decide (a1 < 0)=true:=decide_eq_true c4
  clear c4
  simp only [Option.some.injEq,Prod.mk.injEq] at H
  obtain ⟨rfl,rfl⟩:=H
  go_enter Tryd.func21,Tryd.ntmps21
  go_wp2_with (first|((with_reducible refine gate_dst (N:=3) rfl ?_);(try (refine gate_guard (by rfl) ?_;dsimp only));refine box_event ?hg (N:=3) ?hd (cs:=#[.string a0_0,.int .i64 a0_1,.slice A0_2 l0_2.length c0_2]) (t:=24) ?hr ?_;(case hd=>rfl);(case hg=>rfl);(case hr=>first|(go_simp;done)|(go_simp;rfl));intro gb101 hg w5 hbox hb;have n0_:=Aside0.mk (below_step (by repeat (first|(with_reducible first|exact HB.out|apply below_alloc|apply pw_below_drewN|apply below_drew1)|exact HB.out)) hb);have n1_:=Aside0.mk (hbox);have n2_:=Aside0.mk ((by rw [hg];exact (below_size (by repeat (first|(with_reducible first|exact HB.out|apply below_alloc|apply pw_below_drewN|apply below_drew1)|exact HB.out))):w.heap.size≤gb101));have n3_:=Aside0.mk ((by rw [hg];exact (below_size (by repeat (first|(with_reducible first|exact HB.out|apply below_alloc|apply pw_below_drewN|apply below_drew1)|exact HB.out))):w.heap.size≤gb101));clear HB;have HB:=n0_;have BK101:=n1_;have GW101:=n2_;have GE101:=n3_;clear n0_ n1_ n2_ n3_;clear hb hbox hg)|((with_reducible refine gate_dst (N:=5) rfl ?_);(try (refine gate_guard (by rfl) ?_;dsimp only));refine box_event ?hg (N:=5) ?hd (cs:=#[.string a2_0,.int .i64 a2_1,.int .i64 a2_2,.int .i64 a2_3,.int .i64 a2_4,.int .i64 a2_5,.int .i64 a2_6,.int .i64 a2_7,.int .i64 a2_8,.int .i64 a2_9,.int .i64 a2_10,.int .i64 a2_11,.int .i64 a2_12]) (t:=37) ?hr ?_;(case hd=>rfl);(case hg=>rfl);(case hr=>first|(go_simp;done)|(go_simp;rfl));intro gb102 hg w6 hbox hb;have n0_:=Aside0.mk (blk_below (g:=gb101) (o:=.cells #[.string a0_0,.int .i64 a0_1,.slice A0_2 l0_2.length c0_2] 24 (0,0)) (by (with_reducible repeat (first|refine blk_drewN ?_ _|refine blk_drew ?_|refine blk_alloc ?_ _));exact BK101.out) hb);have n1_:=Aside0.mk (below_step (by repeat (first|(with_reducible first|exact HB.out|apply below_alloc|apply pw_below_drewN|apply below_drew1|refine below_set ?_ GE101.out)|exact HB.out)) hb);have n2_:=Aside0.mk (hbox);have n3_:=Aside0.mk ((by rw [hg];exact (below_size (by repeat (first|(with_reducible first|exact HB.out|apply below_alloc|apply pw_below_drewN|apply below_drew1|refine below_set ?_ GE101.out)|exact HB.out))):w.heap.size≤gb102));have n4_:=Aside0.mk ((by rw [hg];exact (below_size (by repeat (first|(with_reducible first|exact HB.out|apply below_alloc|apply pw_below_drewN|apply below_drew1|refine below_set ?_ GE101.out)|exact HB.out))):w.heap.size≤gb102));have n5_:=Aside0.mk ((by rw [hg];exact Nat.ne_of_lt (blk_lt (g:=gb101) (o:=.cells #[.string a0_0,.int .i64 a0_1,.slice A0_2 l0_2.length c0_2] 24 (0,0)) (by (with_reducible repeat (first|refine blk_drewN ?_ _|refine blk_drew ?_|refine blk_alloc ?_ _));exact BK101.out)):gb101 ≠ gb102));have n6_:=Aside0.mk ((by rw [hg];exact Nat.ne_of_gt (blk_lt (g:=gb101) (o:=.cells #[.string a0_0,.int .i64 a0_1,.slice A0_2 l0_2.length c0_2] 24 (0,0)) (by (with_reducible repeat (first|refine blk_drewN ?_ _|refine blk_drew ?_|refine blk_alloc ?_ _));exact BK101.out)):gb102 ≠ gb101));clear BK101;clear HB;have BK101:=n0_;have HB:=n1_;have BK102:=n2_;have GW102:=n3_;have GE102:=n4_;have NB101_102:=n5_;have NB102_101:=n6_;clear n0_ n1_ n2_ n3_ n4_ n5_ n6_;clear hb hbox hg)|((with_reducible refine gate_dst (N:=6) rfl ?_);(try (refine gate_guard (by rfl) ?_;dsimp only));refine box_event ?hg (N:=6) ?hd (cs:=#[.int .i64 0,.int .i64 0]) (t:=41) ?hr ?_;(case hd=>rfl);(case hg=>rfl);(case hr=>first|(go_simp;done)|(go_simp;rfl));intro gb103 hg w7 hbox hb;have n0_:=Aside0.mk (blk_below (g:=gb101) (o:=.cells #[.string a0_0,.int .i64 a0_1,.slice A0_2 l0_2.length c0_2] 24 (0,0)) (by (with_reducible repeat (first|refine blk_drewN ?_ _|refine blk_drew ?_|refine blk_alloc ?_ _));exact BK101.out) hb);have n1_:=Aside0.mk (blk_below (g:=gb102) (o:=.cells #[.string a2_0,.int .i64 a2_1,.int .i64 a2_2,.int .i64 a2_3,.int .i64 a2_4,.int .i64 a2_5,.int .i64 a2_6,.int .i64 a2_7,.int .i64 a2_8,.int .i64 a2_9,.int .i64 a2_10,.int .i64 a2_11,.int .i64 a2_12] 37 (0,0)) (by (with_reducible repeat (first|refine blk_drewN ?_ _|refine blk_drew ?_|refine blk_alloc ?_ _));exact BK102.out) hb);have n2_:=Aside0.mk (below_step (by repeat (first|(with_reducible first|exact HB.out|apply below_alloc|apply pw_below_drewN|apply below_drew1|refine below_set ?_ GE101.out|refine below_set ?_ GE102.out)|exact HB.out)) hb);have n3_:=Aside0.mk (hbox);have n4_:=Aside0.mk ((by rw [hg];exact (below_size (by repeat (first|(with_reducible first|exact HB.out|apply below_alloc|apply pw_below_drewN|apply below_drew1|refine below_set ?_ GE101.out|refine below_set ?_ GE102.out)|exact HB.out))):w.heap.size≤gb103));have n5_:=Aside0.mk ((by rw [hg];exact (below_size (by repeat (first|(with_reducible first|exact HB.out|apply below_alloc|apply pw_below_drewN|apply below_drew1|refine below_set ?_ GE101.out|refine below_set ?_ GE102.out)|exact HB.out))):w.heap.size≤gb103));have n6_:=Aside0.mk ((by rw [hg];exact Nat.ne_of_lt (blk_lt (g:=gb101) (o:=.cells #[.string a0_0,.int .i64 a0_1,.slice A0_2 l0_2.length c0_2] 24 (0,0)) (by (with_reducible repeat (first|refine blk_drewN ?_ _|refine blk_drew ?_|refine blk_alloc ?_ _));exact BK101.out)):gb101 ≠ gb103));have n7_:=Aside0.mk ((by rw [hg];exact Nat.ne_of_gt (blk_lt (g:=gb101) (o:=.cells #[.string a0_0,.int .i64 a0_1,.slice A0_2 l0_2.length c0_2] 24 (0,0)) (by (with_reducible repeat (first|refine blk_drewN ?_ _|refine blk_drew ?_|refine blk_alloc ?_ _));exact BK101.out)):gb103 ≠ gb101));have n8_:=Aside0.mk ((by rw [hg];exact Nat.ne_of_lt (blk_lt (g:=gb102) (o:=.cells #[.string a2_0,.int .i64 a2_1,.int .i64 a2_2,.int .i64 a2_3,.int .i64 a2_4,.int .i64 a2_5,.int .i64 a2_6,.int .i64 a2_7,.int .i64 a2_8,.int .i64 a2_9,.int .i64 a2_10,.int .i64 a2_11,.int .i64 a2_12] 37 (0,0)) (by (with_reducible repeat (first|refine blk_drewN ?_ _|refine blk_drew ?_|refine blk_alloc ?_ _));exact BK102.out)):gb102 ≠ gb103));have n9_:=Aside0.mk ((by rw [hg];exact Nat.ne_of_gt (blk_lt (g:=gb102) (o:=.cells #[.string a2_0,.int .i64 a2_1,.int .i64 a2_2,.int .i64 a2_3,.int .i64 a2_4,.int .i64 a2_5,.int .i64 a2_6,.int .i64 a2_7,.int .i64 a2_8,.int .i64 a2_9,.int .i64 a2_10,.int .i64 a2_11,.int .i64 a2_12] 37 (0,0)) (by (with_reducible repeat (first|refine blk_drewN ?_ _|refine blk_drew ?_|refine blk_alloc ?_ _));exact BK102.out)):gb103 ≠ gb102));clear BK101;clear BK102;clear HB;have BK101:=n0_;have BK102:=n1_;have HB:=n2_;have BK103:=n3_;have GW103:=n4_;have GE103:=n5_;have NB101_103:=n6_;have NB103_101:=n7_;have NB102_103:=n8_;have NB103_102:=n9_;clear n0_ n1_ n2_ n3_ n4_ n5_ n6_ n7_ n8_ n9_;clear hb hbox hg;have hnb8:=NB103_101.out;have hnc8:=NB101_103.out;have hnb9:=NB103_102.out;have hnc9:=NB102_103.out;have hcz10_0:w7.cell? ⟨gb103,0,none⟩=some (.int .i64 0):=(blk_cell BK103.out 0).trans rfl;have hcz10_1:w7.cell? ⟨gb103,1,none⟩=some (.int .i64 0):=(blk_cell BK103.out 1).trans rfl;have hfz10_0:=blk_frozen BK103.out 0;have hfz10_1:=blk_frozen BK103.out 1))
  refine bodyPost_ret (results_cell_row rfl _ _ gb103 41 #[.int .i64 0,.int .i64 0] (0,0) _ rfl (by (with_reducible repeat (first|refine blk_drewN ?_ _|refine blk_drew ?_|refine blk_alloc ?_ _));refine blk_put (cs:=#[.int .i64 0,.int .i64 0]) ?_ 1 _ rfl;(with_reducible repeat (first|refine blk_drewN ?_ _|refine blk_drew ?_|refine blk_alloc ?_ _));refine blk_put (cs:=#[.int .i64 0,.int .i64 0]) ?_ 0 _ rfl;(with_reducible repeat (first|refine blk_drewN ?_ _|refine blk_drew ?_|refine blk_alloc ?_ _));exact BK103.out) Tryd.underlying41 rfl (by kernel_rfl)) rfl ?_
  exact ⟨by first|rfl|(simp [errW_none,errW_some]<;>rfl)|(simp [*,errW_none,errW_some]<;>rfl),by repeat (first|(with_reducible first|exact HB.out|apply below_alloc|apply pw_below_drewN|apply below_drew1|refine below_set ?_ GE101.out|refine below_set ?_ GE102.out|refine below_set ?_ GE103.out)|exact HB.out)⟩
 ·rw [if_neg c4] at H
  have c4b0:decide (a1 < 0)=false:=decide_eq_false c4
  clear c4
  by_cases c11:a1 ≥ (l0_2.length:Int)
  ·rw [if_pos c11] at H
   have c11b0:decide ((l0_2.length:Int)≤a1)=true:=decide_eq_true c11
   clear c11
   simp only [Option.some.injEq,Prod.mk.injEq] at H
   obtain ⟨rfl,rfl⟩:=H
   go_enter Tryd.func21,Tryd.ntmps21
   go_wp2_with (first|((with_reducible refine gate_dst (N:=3) rfl ?_);(try (refine gate_guard (by rfl) ?_;dsimp only));refine box_event ?hg (N:=3) ?hd (cs:=#[.string a0_0,.int .i64 a0_1,.slice A0_2 l0_2.length c0_2]) (t:=24) ?hr ?_;(case hd=>rfl);(case hg=>rfl);(case hr=>first|(go_simp;done)|(go_simp;rfl));intro gb101 hg w12 hbox hb;have n0_:=Aside0.mk (below_step (by repeat (first|(with_reducible first|exact HB.out|apply below_alloc|apply pw_below_drewN|apply below_drew1)|exact HB.out)) hb);have n1_:=Aside0.mk (hbox);have n2_:=Aside0.mk ((by rw [hg];exact (below_size (by repeat (first|(with_reducible first|exact HB.out|apply below_alloc|apply pw_below_drewN|apply below_drew1)|exact HB.out))):w.heap.size≤gb101));have n3_:=Aside0.mk ((by rw [hg];exact (below_size (by repeat (first|(with_reducible first|exact HB.out|apply below_alloc|apply pw_below_drewN|apply below_drew1)|exact HB.out))):w.heap.size≤gb101));clear HB;have HB:=n0_;have BK101:=n1_;have GW101:=n2_;have GE101:=n3_;clear n0_ n1_ n2_ n3_;clear hb hbox hg)|((with_reducible refine gate_dst (N:=5) rfl ?_);(try (refine gate_guard (by rfl) ?_;dsimp only));refine box_event ?hg (N:=5) ?hd (cs:=#[.string a2_0,.int .i64 a2_1,.int .i64 a2_2,.int .i64 a2_3,.int .i64 a2_4,.int .i64 a2_5,.int .i64 a2_6,.int .i64 a2_7,.int .i64 a2_8,.int .i64 a2_9,.int .i64 a2_10,.int .i64 a2_11,.int .i64 a2_12]) (t:=37) ?hr ?_;(case hd=>rfl);(case hg=>rfl);(case hr=>first|(go_simp;done)|(go_simp;rfl));intro gb102 hg w13 hbox hb;have n0_:=Aside0.mk (blk_below (g:=gb101) (o:=.cells #[.string a0_0,.int .i64 a0_1,.slice A0_2 l0_2.length c0_2] 24 (0,0)) (by (with_reducible repeat (first|refine blk_drewN ?_ _|refine blk_drew ?_|refine blk_alloc ?_ _));exact BK101.out) hb);have n1_:=Aside0.mk (below_step (by repeat (first|(with_reducible first|exact HB.out|apply below_alloc|apply pw_below_drewN|apply below_drew1|refine below_set ?_ GE101.out)|exact HB.out)) hb);have n2_:=Aside0.mk (hbox);have n3_:=Aside0.mk ((by rw [hg];exact (below_size (by repeat (first|(with_reducible first|exact HB.out|apply below_alloc|apply pw_below_drewN|apply below_drew1|refine below_set ?_ GE101.out)|exact HB.out))):w.heap.size≤gb102));have n4_:=Aside0.mk ((by rw [hg];exact (below_size (by repeat (first|(with_reducible first|exact HB.out|apply below_alloc|apply pw_below_drewN|apply below_drew1|refine below_set ?_ GE101.out)|exact HB.out))):w.heap.size≤gb102));have n5_:=Aside0.mk ((by rw [hg];exact Nat.ne_of_lt (blk_lt (g:=gb101) (o:=.cells #[.string a0_0,.int .i64 a0_1,.slice A0_2 l0_2.length c0_2] 24 (0,0)) (by (with_reducible repeat (first|refine blk_drewN ?_ _|refine blk_drew ?_|refine blk_alloc ?_ _));exact BK101.out)):gb101 ≠ gb102));have n6_:=Aside0.mk ((by rw [hg];exact Nat.ne_of_gt (blk_lt (g:=gb101) (o:=.cells #[.string a0_0,.int .i64 a0_1,.slice A0_2 l0_2.length c0_2] 24 (0,0)) (by (with_reducible repeat (first|refine blk_drewN ?_ _|refine blk_drew ?_|refine blk_alloc ?_ _));exact BK101.out)):gb102 ≠ gb101));clear BK101;clear HB;have BK101:=n0_;have HB:=n1_;have BK102:=n2_;have GW102:=n3_;have GE102:=n4_;have NB101_102:=n5_;have NB102_101:=n6_;clear n0_ n1_ n2_ n3_ n4_ n5_ n6_;clear hb hbox hg)|((with_reducible refine gate_dst (N:=6) rfl ?_);(try (refine gate_guard (by rfl) ?_;dsimp only));refine box_event ?hg (N:=6) ?hd (cs:=#[.int .i64 0,.int .i64 0]) (t:=41) ?hr ?_;(case hd=>rfl);(case hg=>rfl);(case hr=>first|(go_simp;done)|(go_simp;rfl));intro gb103 hg w14 hbox hb;have n0_:=Aside0.mk (blk_below (g:=gb101) (o:=.cells #[.string a0_0,.int .i64 a0_1,.slice A0_2 l0_2.length c0_2] 24 (0,0)) (by (with_reducible repeat (first|refine blk_drewN ?_ _|refine blk_drew ?_|refine blk_alloc ?_ _));exact BK101.out) hb);have n1_:=Aside0.mk (blk_below (g:=gb102) (o:=.cells #[.string a2_0,.int .i64 a2_1,.int .i64 a2_2,.int .i64 a2_3,.int .i64 a2_4,.int .i64 a2_5,.int .i64 a2_6,.int .i64 a2_7,.int .i64 a2_8,.int .i64 a2_9,.int .i64 a2_10,.int .i64 a2_11,.int .i64 a2_12] 37 (0,0)) (by (with_reducible repeat (first|refine blk_drewN ?_ _|refine blk_drew ?_|refine blk_alloc ?_ _));exact BK102.out) hb);have n2_:=Aside0.mk (below_step (by repeat (first|(with_reducible first|exact HB.out|apply below_alloc|apply pw_below_drewN|apply below_drew1|refine below_set ?_ GE101.out|refine below_set ?_ GE102.out)|exact HB.out)) hb);have n3_:=Aside0.mk (hbox);have n4_:=Aside0.mk ((by rw [hg];exact (below_size (by repeat (first|(with_reducible first|exact HB.out|apply below_alloc|apply pw_below_drewN|apply below_drew1|refine below_set ?_ GE101.out|refine below_set ?_ GE102.out)|exact HB.out))):w.heap.size≤gb103));have n5_:=Aside0.mk ((by rw [hg];exact (below_size (by repeat (first|(with_reducible first|exact HB.out|apply below_alloc|apply pw_below_drewN|apply below_drew1|refine below_set ?_ GE101.out|refine below_set ?_ GE102.out)|exact HB.out))):w.heap.size≤gb103));have n6_:=Aside0.mk ((by rw [hg];exact Nat.ne_of_lt (blk_lt (g:=gb101) (o:=.cells #[.string a0_0,.int .i64 a0_1,.slice A0_2 l0_2.length c0_2] 24 (0,0)) (by (with_reducible repeat (first|refine blk_drewN ?_ _|refine blk_drew ?_|refine blk_alloc ?_ _));exact BK101.out)):gb101 ≠ gb103));have n7_:=Aside0.mk ((by rw [hg];exact Nat.ne_of_gt (blk_lt (g:=gb101) (o:=.cells #[.string a0_0,.int .i64 a0_1,.slice A0_2 l0_2.length c0_2] 24 (0,0)) (by (with_reducible repeat (first|refine blk_drewN ?_ _|refine blk_drew ?_|refine blk_alloc ?_ _));exact BK101.out)):gb103 ≠ gb101));have n8_:=Aside0.mk ((by rw [hg];exact Nat.ne_of_lt (blk_lt (g:=gb102) (o:=.cells #[.string a2_0,.int .i64 a2_1,.int .i64 a2_2,.int .i64 a2_3,.int .i64 a2_4,.int .i64 a2_5,.int .i64 a2_6,.int .i64 a2_7,.int .i64 a2_8,.int .i64 a2_9,.int .i64 a2_10,.int .i64 a2_11,.int .i64 a2_12] 37 (0,0)) (by (with_reducible repeat (first|refine blk_drewN ?_ _|refine blk_drew ?_|refine blk_alloc ?_ _));exact BK102.out)):gb102 ≠ gb103));have n9_:=Aside0.mk ((by rw [hg];exact Nat.ne_of_gt (blk_lt (g:=gb102) (o:=.cells #[.string a2_0,.int .i64 a2_1,.int .i64 a2_2,.int .i64 a2_3,.int .i64 a2_4,.int .i64 a2_5,.int .i64 a2_6,.int .i64 a2_7,.int .i64 a2_8,.int .i64 a2_9,.int .i64 a2_10,.int .i64 a2_11,.int .i64 a2_12] 37 (0,0)) (by (with_reducible repeat (first|refine blk_drewN ?_ _|refine blk_drew ?_|refine blk_alloc ?_ _));exact BK102.out)):gb103 ≠ gb102));clear BK101;clear BK102;clear HB;have BK101:=n0_;have BK102:=n1_;have HB:=n2_;have BK103:=n3_;have GW103:=n4_;have GE103:=n5_;have NB101_103:=n6_;have NB103_101:=n7_;have NB102_103:=n8_;have NB103_102:=n9_;clear n0_ n1_ n2_ n3_ n4_ n5_ n6_ n7_ n8_ n9_;clear hb hbox hg;have hnb15:=NB101_102.out;have hnc15:=NB102_101.out;have hnb16:=NB101_103.out;have hnc16:=NB103_101.out;have hcz17_0:w14.cell? ⟨gb101,0,none⟩=some (.string a0_0):=(blk_cell BK101.out 0).trans rfl;have hcz17_1:w14.cell? ⟨gb101,1,none⟩=some (.int .i64 a0_1):=(blk_cell BK101.out 1).trans rfl;have hcz17_2:w14.cell? ⟨gb101,2,none⟩=some (.slice A0_2 l0_2.length c0_2):=(blk_cell BK101.out 2).trans rfl;have hfz17_0:=blk_frozen BK101.out 0;have hfz17_1:=blk_frozen BK101.out 1;have hfz17_2:=blk_frozen BK101.out 2;have hnb18:=NB103_102.out;have hnc18:=NB102_103.out;have hcz19_0:w14.cell? ⟨gb103,0,none⟩=some (.int .i64 0):=(blk_cell BK103.out 0).trans rfl;have hcz19_1:w14.cell? ⟨gb103,1,none⟩=some (.int .i64 0):=(blk_cell BK103.out 1).trans rfl;have hfz19_0:=blk_frozen BK103.out 0;have hfz19_1:=blk_frozen BK103.out 1))
   refine bodyPost_ret (results_cell_row rfl _ _ gb103 41 #[.int .i64 0,.int .i64 0] (0,0) _ rfl (by (with_reducible repeat (first|refine blk_drewN ?_ _|refine blk_drew ?_|refine blk_alloc ?_ _));refine blk_put (cs:=#[.int .i64 0,.int .i64 0]) ?_ 1 _ rfl;(with_reducible repeat (first|refine blk_drewN ?_ _|refine blk_drew ?_|refine blk_alloc ?_ _));refine blk_put (cs:=#[.int .i64 0,.int .i64 0]) ?_ 0 _ rfl;(with_reducible repeat (first|refine blk_drewN ?_ _|refine blk_drew ?_|refine blk_alloc ?_ _));exact BK103.out) Tryd.underlying41 rfl (by kernel_rfl)) rfl ?_
   exact ⟨by first|rfl|(simp [errW_none,errW_some]<;>rfl)|(simp [*,errW_none,errW_some]<;>rfl),by repeat (first|(with_reducible first|exact HB.out|apply below_alloc|apply pw_below_drewN|apply below_drew1|refine below_set ?_ GE101.out|refine below_set ?_ GE102.out|refine below_set ?_ GE103.out)|exact HB.out)⟩
  ·rw [if_neg c11] at H
   have c11b0:decide ((l0_2.length:Int)≤a1)=false:=decide_eq_false c11
   clear c11
   by_cases c20:0≤a1
   ·rw [if_pos c20] at H
    have c20b0:decide (0≤a1)=true:=decide_eq_true c20
    clear c20
    by_cases c21:a1 < (l0_2.length:Int)
    ·rw [if_pos c21] at H
     have c21b0:decide (a1 < (l0_2.length:Int))=true:=decide_eq_true c21
     clear c21
     obtain ⟨ji22,hji22⟩:∃ j_:Int,(mn ((rd_T52 l0_2 a1).f2) a2_7)=j_:=⟨_,rfl⟩
     replace H:(some (ji22,mn ((rd_T52 l0_2 a1).f3) a2_8))=some (r1,r2):=by first|(rw [hji22] at H;exact H)|(simp only [hji22] at H ⊢;exact H)
     have hji22_:(if a2_7 < ((rd_T52 l0_2 a1).f2) then a2_7 else ((rd_T52 l0_2 a1).f2))=ji22:=hji22
     obtain ⟨ji23,hji23⟩:∃ j_:Int,(mn ((rd_T52 l0_2 a1).f3) a2_8)=j_:=⟨_,rfl⟩
     replace H:(some (ji22,ji23))=some (r1,r2):=by first|(rw [hji23] at H;exact H)|(simp only [hji23] at H ⊢;exact H)
     have hji23_:(if a2_8 < ((rd_T52 l0_2 a1).f3) then a2_8 else ((rd_T52 l0_2 a1).f3))=ji23:=hji23
     simp only [Option.some.injEq,Prod.mk.injEq] at H
     obtain ⟨rfl,rfl⟩:=H
     go_enter Tryd.func21,Tryd.ntmps21
     go_wp2_with (first|((with_reducible refine gate_dst (N:=3) rfl ?_);(try (refine gate_guard (by rfl) ?_;dsimp only));refine box_event ?hg (N:=3) ?hd (cs:=#[.string a0_0,.int .i64 a0_1,.slice A0_2 l0_2.length c0_2]) (t:=24) ?hr ?_;(case hd=>rfl);(case hg=>rfl);(case hr=>first|(go_simp;done)|(go_simp;rfl));intro gb101 hg w24 hbox hb;have n0_:=Aside0.mk (below_step (by repeat (first|(with_reducible first|exact HB.out|apply below_alloc|apply pw_below_drewN|apply below_drew1)|exact HB.out)) hb);have n1_:=Aside0.mk (hbox);have n2_:=Aside0.mk ((by rw [hg];exact (below_size (by repeat (first|(with_reducible first|exact HB.out|apply below_alloc|apply pw_below_drewN|apply below_drew1)|exact HB.out))):w.heap.size≤gb101));have n3_:=Aside0.mk ((by rw [hg];exact (below_size (by repeat (first|(with_reducible first|exact HB.out|apply below_alloc|apply pw_below_drewN|apply below_drew1)|exact HB.out))):w.heap.size≤gb101));clear HB;have HB:=n0_;have BK101:=n1_;have GW101:=n2_;have GE101:=n3_;clear n0_ n1_ n2_ n3_;clear hb hbox hg)|((with_reducible refine gate_dst (N:=5) rfl ?_);(try (refine gate_guard (by rfl) ?_;dsimp only));refine box_event ?hg (N:=5) ?hd (cs:=#[.string a2_0,.int .i64 a2_1,.int .i64 a2_2,.int .i64 a2_3,.int .i64 a2_4,.int .i64 a2_5,.int .i64 a2_6,.int .i64 a2_7,.int .i64 a2_8,.int .i64 a2_9,.int .i64 a2_10,.int .i64 a2_11,.int .i64 a2_12]) (t:=37) ?hr ?_;(case hd=>rfl);(case hg=>rfl);(case hr=>first|(go_simp;done)|(go_simp;rfl));intro gb102 hg w25 hbox hb;have n0_:=Aside0.mk (blk_below (g:=gb101) (o:=.cells #[.string a0_0,.int .i64 a0_1,.slice A0_2 l0_2.length c0_2] 24 (0,0)) (by (with_reducible repeat (first|refine blk_drewN ?_ _|refine blk_drew ?_|refine blk_alloc ?_ _));exact BK101.out) hb);have n1_:=Aside0.mk (below_step (by repeat (first|(with_reducible first|exact HB.out|apply below_alloc|apply pw_below_drewN|apply below_drew1|refine below_set ?_ GE101.out)|exact HB.out)) hb);have n2_:=Aside0.mk (hbox);have n3_:=Aside0.mk ((by rw [hg];exact (below_size (by repeat (first|(with_reducible first|exact HB.out|apply below_alloc|apply pw_below_drewN|apply below_drew1|refine below_set ?_ GE101.out)|exact HB.out))):w.heap.size≤gb102));have n4_:=Aside0.mk ((by rw [hg];exact (below_size (by repeat (first|(with_reducible first|exact HB.out|apply below_alloc|apply pw_below_drewN|apply below_drew1|refine below_set ?_ GE101.out)|exact HB.out))):w.heap.size≤gb102));have n5_:=Aside0.mk ((by rw [hg];exact Nat.ne_of_lt (blk_lt (g:=gb101) (o:=.cells #[.string a0_0,.int .i64 a0_1,.slice A0_2 l0_2.length c0_2] 24 (0,0)) (by (with_reducible repeat (first|refine blk_drewN ?_ _|refine blk_drew ?_|refine blk_alloc ?_ _));exact BK101.out)):gb101 ≠ gb102));have n6_:=Aside0.mk ((by rw [hg];exact Nat.ne_of_gt (blk_lt (g:=gb101) (o:=.cells #[.string a0_0,.int .i64 a0_1,.slice A0_2 l0_2.length c0_2] 24 (0,0)) (by (with_reducible repeat (first|refine blk_drewN ?_ _|refine blk_drew ?_|refine blk_alloc ?_ _));exact BK101.out)):gb102 ≠ gb101));clear BK101;clear HB;have BK101:=n0_;have HB:=n1_;have BK102:=n2_;have GW102:=n3_;have GE102:=n4_;have NB101_102:=n5_;have NB102_101:=n6_;clear n0_ n1_ n2_ n3_ n4_ n5_ n6_;clear hb hbox hg)|((with_reducible refine gate_dst (N:=6) rfl ?_);(try (refine gate_guard (by rfl) ?_;dsimp only));refine box_event ?hg (N:=6) ?hd (cs:=#[.int .i64 0,.int .i64 0]) (t:=41) ?hr ?_;(case hd=>rfl);(case hg=>rfl);(case hr=>first|(go_simp;done)|(go_simp;rfl));intro gb103 hg w26 hbox hb;have n0_:=Aside0.mk (blk_below (g:=gb101) (o:=.cells #[.string a0_0,.int .i64 a0_1,.slice A0_2 l0_2.length c0_2] 24 (0,0)) (by (with_reducible repeat (first|refine blk_drewN ?_ _|refine blk_drew ?_|refine blk_alloc ?_ _));exact BK101.out) hb);have n1_:=Aside0.mk (blk_below (g:=gb102) (o:=.cells #[.string a2_0,.int .i64 a2_1,.int .i64 a2_2,.int .i64 a2_3,.int .i64 a2_4,.int .i64 a2_5,.int .i64 a2_6,.int .i64 a2_7,.int .i64 a2_8,.int .i64 a2_9,.int .i64 a2_10,.int .i64 a2_11,.int .i64 a2_12] 37 (0,0)) (by (with_reducible repeat (first|refine blk_drewN ?_ _|refine blk_drew ?_|refine blk_alloc ?_ _));exact BK102.out) hb);have n2_:=Aside0.mk (below_step (by repeat (first|(with_reducible first|exact HB.out|apply below_alloc|apply pw_below_drewN|apply below_drew1|refine below_set ?_ GE101.out|refine below_set ?_ GE102.out)|exact HB.out)) hb);have n3_:=Aside0.mk (hbox);have n4_:=Aside0.mk ((by rw [hg];exact (below_size (by repeat (first|(with_reducible first|exact HB.out|apply below_alloc|apply pw_below_drewN|apply below_drew1|refine below_set ?_ GE101.out|refine below_set ?_ GE102.out)|exact HB.out))):w.heap.size≤gb103));have n5_:=Aside0.mk ((by rw [hg];exact (below_size (by repeat (first|(with_reducible first|exact HB.out|apply below_alloc|apply pw_below_drewN|apply below_drew1|refine below_set ?_ GE101.out|refine below_set ?_ GE102.out)|exact HB.out))):w.heap.size≤gb103));have n6_:=Aside0.mk ((by rw [hg];exact Nat.ne_of_lt (blk_lt (g:=gb101) (o:=.cells #[.string a0_0,.int .i64 a0_1,.slice A0_2 l0_2.length c0_2] 24 (0,0)) (by (with_reducible repeat (first|refine blk_drewN ?_ _|refine blk_drew ?_|refine blk_alloc ?_ _));exact BK101.out)):gb101 ≠ gb103));have n7_:=Aside0.mk ((by rw [hg];exact Nat.ne_of_gt (blk_lt (g:=gb101) (o:=.cells #[.string a0_0,.int .i64 a0_1,.slice A0_2 l0_2.length c0_2] 24 (0,0)) (by (with_reducible repeat (first|refine blk_drewN ?_ _|refine blk_drew ?_|refine blk_alloc ?_ _));exact BK101.out)):gb103 ≠ gb101));have n8_:=Aside0.mk ((by rw [hg];exact Nat.ne_of_lt (blk_lt (g:=gb102) (o:=.cells #[.string a2_0,.int .i64 a2_1,.int .i64 a2_2,.int .i64 a2_3,.int .i64 a2_4,.int .i64 a2_5,.int .i64 a2_6,.int .i64 a2_7,.int .i64 a2_8,.int .i64 a2_9,.int .i64 a2_10,.int .i64 a2_11,.int .i64 a2_12] 37 (0,0)) (by (with_reducible repeat (first|refine blk_drewN ?_ _|refine blk_drew ?_|refine blk_alloc ?_ _));exact BK102.out)):gb102 ≠ gb103));have n9_:=Aside0.mk ((by rw [hg];exact Nat.ne_of_gt (blk_lt (g:=gb102) (o:=.cells #[.string a2_0,.int .i64 a2_1,.int .i64 a2_2,.int .i64 a2_3,.int .i64 a2_4,.int .i64 a2_5,.int .i64 a2_6,.int .i64 a2_7,.int .i64 a2_8,.int .i64 a2_9,.int .i64 a2_10,.int .i64 a2_11,.int .i64 a2_12] 37 (0,0)) (by (with_reducible repeat (first|refine blk_drewN ?_ _|refine blk_drew ?_|refine blk_alloc ?_ _));exact BK102.out)):gb103 ≠ gb102));clear BK101;clear BK102;clear HB;have BK101:=n0_;have BK102:=n1_;have HB:=n2_;have BK103:=n3_;have GW103:=n4_;have GE103:=n5_;have NB101_103:=n6_;have NB103_101:=n7_;have NB102_103:=n8_;have NB103_102:=n9_;clear n0_ n1_ n2_ n3_ n4_ n5_ n6_ n7_ n8_ n9_;clear hb hbox hg;have hnb27:=NB101_102.out;have hnc27:=NB102_101.out;have hnb28:=NB101_103.out;have hnc28:=NB103_101.out;have hcz29_0:w26.cell? ⟨gb101,0,none⟩=some (.string a0_0):=(blk_cell BK101.out 0).trans rfl;have hcz29_1:w26.cell? ⟨gb101,1,none⟩=some (.int .i64 a0_1):=(blk_cell BK101.out 1).trans rfl;have hcz29_2:w26.cell? ⟨gb101,2,none⟩=some (.slice A0_2 l0_2.length c0_2):=(blk_cell BK101.out 2).trans rfl;have hfz29_0:=blk_frozen BK101.out 0;have hfz29_1:=blk_frozen BK101.out 1;have hfz29_2:=blk_frozen BK101.out 2;have p104:0≤(a1:Int):=of_decide_eq_true (by first|(with_reducible assumption)|assumption);have q104:a1 < (l0_2.length:Int):=of_decide_eq_true (by first|(with_reducible assumption)|assumption);obtain ⟨ad104,e104,hx104_0,hx104_1,hx104_2,hx104_3⟩:=at_T52 HR0_2.out a1 p104 q104;cases e104;replace hx104_0:=(HB.out.cell (World.block_lt_of_cell? w _ hx104_0)).trans hx104_0;replace hx104_1:=(HB.out.cell (World.block_lt_of_cell? w _ hx104_1)).trans hx104_1;replace hx104_2:=(HB.out.cell (World.block_lt_of_cell? w _ hx104_2)).trans hx104_2;replace hx104_3:=(HB.out.cell (World.block_lt_of_cell? w _ hx104_3)).trans hx104_3;replace p104:=eq_true p104;replace q104:=eq_true q104)|((with_reducible refine gate_dst (N:=7) rfl ?_);(try (refine gate_guard (by rfl) ?_;dsimp only));refine box_event ?hg (N:=7) ?hd (cs:=#[.int .i64 0,.int .i64 0,.int .i64 0,.int .i64 0]) (t:=52) ?hr ?_;(case hd=>rfl);(case hg=>rfl);(case hr=>first|(go_simp;done)|(go_simp;rfl));intro gb105 hg w30 hbox hb;have n0_:=Aside0.mk (blk_below (g:=gb101) (o:=.cells #[.string a0_0,.int .i64 a0_1,.slice (some ad104) l0_2.length c0_2] 24 (0,0)) (by (with_reducible repeat (first|refine blk_drewN ?_ _|refine blk_drew ?_|refine blk_alloc ?_ _));exact BK101.out) hb);have n1_:=Aside0.mk (blk_below (g:=gb102) (o:=.cells #[.string a2_0,.int .i64 a2_1,.int .i64 a2_2,.int .i64 a2_3,.int .i64 a2_4,.int .i64 a2_5,.int .i64 a2_6,.int .i64 a2_7,.int .i64 a2_8,.int .i64 a2_9,.int .i64 a2_10,.int .i64 a2_11,.int .i64 a2_12] 37 (0,0)) (by (with_reducible repeat (first|refine blk_drewN ?_ _|refine blk_drew ?_|refine blk_alloc ?_ _));exact BK102.out) hb);have n2_:=Aside0.mk (blk_below (g:=gb103) (o:=.cells #[.int .i64 0,.int .i64 0] 41 (0,0)) (by (with_reducible repeat (first|refine blk_drewN ?_ _|refine blk_drew ?_|refine blk_alloc ?_ _));exact BK103.out) hb);have n3_:=Aside0.mk (below_step (by repeat (first|(with_reducible first|exact HB.out|apply below_alloc|apply pw_below_drewN|apply below_drew1|refine below_set ?_ GE101.out|refine below_set ?_ GE102.out|refine below_set ?_ GE103.out)|exact HB.out)) hb);have n4_:=Aside0.mk (hbox);have n5_:=Aside0.mk ((by rw [hg];exact (below_size (by repeat (first|(with_reducible first|exact HB.out|apply below_alloc|apply pw_below_drewN|apply below_drew1|refine below_set ?_ GE101.out|refine below_set ?_ GE102.out|refine below_set ?_ GE103.out)|exact HB.out))):w.heap.size≤gb105));have n6_:=Aside0.mk ((by rw [hg];exact (below_size (by repeat (first|(with_reducible first|exact HB.out|apply below_alloc|apply pw_below_drewN|apply below_drew1|refine below_set ?_ GE101.out|refine below_set ?_ GE102.out|refine below_set ?_ GE103.out)|exact HB.out))):w.heap.size≤gb105));have n7_:=Aside0.mk ((by rw [hg];exact Nat.ne_of_lt (blk_lt (g:=gb101) (o:=.cells #[.string a0_0,.int .i64 a0_1,.slice (some ad104) l0_2.length c0_2] 24 (0,0)) (by (with_reducible repeat (first|refine blk_drewN ?_ _|refine blk_drew ?_|refine blk_alloc ?_ _));exact BK101.out)):gb101 ≠ gb105));have n8_:=Aside0.mk ((by rw [hg];exact Nat.ne_of_gt (blk_lt (g:=gb101) (o:=.cells #[.string a0_0,.int .i64 a0_1,.slice (some ad104) l0_2.length c0_2] 24 (0,0)) (by (with_reducible repeat (first|refine blk_drewN ?_ _|refine blk_drew ?_|refine blk_alloc ?_ _));exact BK101.out)):gb105 ≠ gb101));have n9_:=Aside0.mk ((by rw [hg];exact Nat.ne_of_lt (blk_lt (g:=gb102) (o:=.cells #[.string a2_0,.int .i64 a2_1,.int .i64 a2_2,.int .i64 a2_3,.int .i64 a2_4,.int .i64 a2_5,.int .i64 a2_6,.int .i64 a2_7,.int .i64 a2_8,.int .i64 a2_9,.int .i64 a2_10,.int .i64 a2_11,.int .i64 a2_12] 37 (0,0)) (by (with_reducible repeat (first|refine blk_drewN ?_ _|refine blk_drew ?_|refine blk_alloc ?_ _));exact BK102.out)):gb102 ≠ gb105));have n10_:=Aside0.mk ((by rw [hg];exact Nat.ne_of_gt (blk_lt (g:=gb102) (o:=.cells #[.string a2_0,.int .i64 a2_1,.int .i64 a2_2,.int .i64 a2_3,.int .i64 a2_4,.int .i64 a2_5,.int .i64 a2_6,.int .i64 a2_7,.int .i64 a2_8,.int .i64 a2_9,.int .i64 a2_10,.int .i64 a2_11,.int .i64 a2_12] 37 (0,0)) (by (with_reducible repeat (first|refine blk_drewN ?_ _|refine blk_drew ?_|refine blk_alloc ?_ _));exact BK102.out)):gb105 ≠ gb102));have n11_:=Aside0.mk ((by rw [hg];exact Nat.ne_of_lt (blk_lt (g:=gb103) (o:=.cells #[.int .i64 0,.int .i64 0] 41 (0,0)) (by (with_reducible repeat (first|refine blk_drewN ?_ _|refine blk_drew ?_|refine blk_alloc ?_ _));exact BK103.out)):gb103 ≠ gb105));have n12_:=Aside0.mk ((by rw [hg];exact Nat.ne_of_gt (blk_lt (g:=gb103) (o:=.cells #[.int .i64 0,.int .i64 0] 41 (0,0)) (by (with_reducible repeat (first|refine blk_drewN ?_ _|refine blk_drew ?_|refine blk_alloc ?_ _));exact BK103.out)):gb105 ≠ gb103));clear BK101;clear BK102;clear BK103;clear HB;have BK101:=n0_;have BK102:=n1_;have BK103:=n2_;have HB:=n3_;have BK105:=n4_;have GW105:=n5_;have GE105:=n6_;have NB101_105:=n7_;have NB105_101:=n8_;have NB102_105:=n9_;have NB105_102:=n10_;have NB103_105:=n11_;have NB105_103:=n12_;clear n0_ n1_ n2_ n3_ n4_ n5_ n6_ n7_ n8_ n9_ n10_ n11_ n12_;clear hb hbox hg;have hnb31:=NB105_101.out;have hnc31:=NB101_105.out;have hnb32:=NB105_102.out;have hnc32:=NB102_105.out;have hnb33:=NB105_103.out;have hnc33:=NB103_105.out;have hcz34_0:w30.cell? ⟨gb105,0,none⟩=some (.int .i64 0):=(blk_cell BK105.out 0).trans rfl;have hcz34_1:w30.cell? ⟨gb105,1,none⟩=some (.int .i64 0):=(blk_cell BK105.out 1).trans rfl;have hcz34_2:w30.cell? ⟨gb105,2,none⟩=some (.int .i64 0):=(blk_cell BK105.out 2).trans rfl;have hcz34_3:w30.cell? ⟨gb105,3,none⟩=some (.int .i64 0):=(blk_cell BK105.out 3).trans rfl;have hfz34_0:=blk_frozen BK105.out 0;have hfz34_1:=blk_frozen BK105.out 1;have hfz34_2:=blk_frozen BK105.out 2;have hfz34_3:=blk_frozen BK105.out 3;have hnb35:=NB102_103.out;have hnc35:=NB103_102.out;have hcz36_0:w30.cell? ⟨gb102,0,none⟩=some (.string a2_0):=(blk_cell BK102.out 0).trans rfl;have hcz36_1:w30.cell? ⟨gb102,1,none⟩=some (.int .i64 a2_1):=(blk_cell BK102.out 1).trans rfl;have hcz36_2:w30.cell? ⟨gb102,2,none⟩=some (.int .i64 a2_2):=(blk_cell BK102.out 2).trans rfl;have hcz36_3:w30.cell? ⟨gb102,3,none⟩=some (.int .i64 a2_3):=(blk_cell BK102.out 3).trans rfl;have hcz36_4:w30.cell? ⟨gb102,4,none⟩=some (.int .i64 a2_4):=(blk_cell BK102.out 4).trans rfl;have hcz36_5:w30.cell? ⟨gb102,5,none⟩=some (.int .i64 a2_5):=(blk_cell BK102.out 5).trans rfl;have hcz36_6:w30.cell? ⟨gb102,6,none⟩=some (.int .i64 a2_6):=(blk_cell BK102.out 6).trans rfl;have hcz36_7:w30.cell? ⟨gb102,7,none⟩=some (.int .i64 a2_7):=(blk_cell BK102.out 7).trans rfl;have hcz36_8:w30.cell? ⟨gb102,8,none⟩=some (.int .i64 a2_8):=(blk_cell BK102.out 8).trans rfl;have hcz36_9:w30.cell? ⟨gb102,9,none⟩=some (.int .i64 a2_9):=(blk_cell BK102.out 9).trans rfl;have hcz36_10:w30.cell? ⟨gb102,10,none⟩=some (.int .i64 a2_10):=(blk_cell BK102.out 10).trans rfl;have hcz36_11:w30.cell? ⟨gb102,11,none⟩=some (.int .i64 a2_11):=(blk_cell BK102.out 11).trans rfl;have hcz36_12:w30.cell? ⟨gb102,12,none⟩=some (.int .i64 a2_12):=(blk_cell BK102.out 12).trans rfl;have hfz36_0:=blk_frozen BK102.out 0;have hfz36_1:=blk_frozen BK102.out 1;have hfz36_2:=blk_frozen BK102.out 2;have hfz36_3:=blk_frozen BK102.out 3;have hfz36_4:=blk_frozen BK102.out 4;have hfz36_5:=blk_frozen BK102.out 5;have hfz36_6:=blk_frozen BK102.out 6;have hfz36_7:=blk_frozen BK102.out 7;have hfz36_8:=blk_frozen BK102.out 8;have hfz36_9:=blk_frozen BK102.out 9;have hfz36_10:=blk_frozen BK102.out 10;have hfz36_11:=blk_frozen BK102.out 11;have hfz36_12:=blk_frozen BK102.out 12;have hcz37_0:w30.cell? ⟨gb103,0,none⟩=some (.int .i64 0):=(blk_cell BK103.out 0).trans rfl;have hcz37_1:w30.cell? ⟨gb103,1,none⟩=some (.int .i64 0):=(blk_cell BK103.out 1).trans rfl;have hfz37_0:=blk_frozen BK103.out 0;have hfz37_1:=blk_frozen BK103.out 1))
     refine bodyPost_ret (results_cell_row rfl _ _ gb103 41 #[.int .i64 ji22,.int .i64 ji23] (0,0) _ rfl (by (with_reducible repeat (first|refine blk_drewN ?_ _|refine blk_drew ?_|refine blk_alloc ?_ _));refine blk_put (cs:=#[.int .i64 ji22,.int .i64 0]) ?_ 1 _ rfl;(with_reducible repeat (first|refine blk_drewN ?_ _|refine blk_drew ?_|refine blk_alloc ?_ _));refine blk_put (cs:=#[.int .i64 0,.int .i64 0]) ?_ 0 _ rfl;(with_reducible repeat (first|refine blk_drewN ?_ _|refine blk_drew ?_|refine blk_alloc ?_ _));refine blk_far ?_ NB103_105.out _;(with_reducible repeat (first|refine blk_drewN ?_ _|refine blk_drew ?_|refine blk_alloc ?_ _));refine blk_far ?_ NB103_105.out _;(with_reducible repeat (first|refine blk_drewN ?_ _|refine blk_drew ?_|refine blk_alloc ?_ _));refine blk_far ?_ NB103_105.out _;(with_reducible repeat (first|refine blk_drewN ?_ _|refine blk_drew ?_|refine blk_alloc ?_ _));refine blk_far ?_ NB103_105.out _;(with_reducible repeat (first|refine blk_drewN ?_ _|refine blk_drew ?_|refine blk_alloc ?_ _));exact BK103.out) Tryd.underlying41 rfl (by kernel_rfl)) rfl ?_
     exact ⟨by first|rfl|(simp [errW_none,errW_some]<;>rfl)|(simp only [← hji22,← hji23];first|rfl|(simp [errW_none,errW_some]<;>rfl))|(simp [*,errW_none,errW_some]<;>rfl),by repeat (first|(with_reducible first|exact HB.out|apply below_alloc|apply pw_below_drewN|apply below_drew1|refine below_set ?_ GE101.out|refine below_set ?_ GE102.out|refine below_set ?_ GE103.out|refine below_set ?_ GE105.out)|exact HB.out)⟩
    ·rw [if_neg c21] at H
     exact absurd H (by simp)
   ·rw [if_neg c20] at H
    exact absurd H (by simp)
end Go.Proofs.YtehdmplngmbnnaaDoor.P
namespace Go.Proofs.YtehdmplngmbnnaaDoor.P
open Go.RowKit Go.Proofs.YtehdmplngmbnnaaDoorW.PrintWords Go.Proofs.YtehdmplngmbnnaaDoorW.PrintLast Go.Proofs.YtehdmplngmbnnaaDoorW.PrintMore
attribute [local go_sem] max2_int min2_int max_two min_two max_three min_three max_four min_four
attribute [local go_sem] cell_twice
set_option linter.unusedVariables false
set_option linter.unusedSimpArgs false
attribute [local go_sem high] eqA41
def sawmilllaw37_awake.f (k:Nat) :Option (Bool):=(some (([(⟨3000,0,500,60⟩:S52),(⟨1500,400,600,120⟩:S52)]:List (S52)):List (S52))).bind fun y101=>((schedule_Parse.f (⟨#[115,99,104,101,100,117,108,101,32,115,108,111,119,32,114,97,109,112,32,50,48,58,32,98,101,108,111,119,32,51,48,48,48,32,97,116,32,53,48,48,32,45,32,54,48,59,32,98,101,108,111,119,32,49,53,48,48,32,102,111,114,32,52,48,48,32,97,116,32,54,48,48,32,45,32,49,50,48,59,10]⟩:ByteArray)).bind fun bt105=>((schedule_Parse.f (⟨#[115,99,104,101,100,117,108,101,32,115,108,111,119,32,114,97,109,112,32,50,48,58,32,98,101,108,111,119,32,48,32,97,116,32,53,48,48,32,45,32,54,48,59]⟩:ByteArray)).bind fun bt110=>((schedule_Parse.f (⟨#[115,99,104,101,100,117,108,101,32,115,108,111,119,32,114,97,109,112,32,50,48,58]⟩:ByteArray)).bind fun bt115=>((schedule_Ends.f k (⟨#[115,108,111,119]⟩:ByteArray) 20 y101 0 0 3000).bind fun bt120=>((schedule_Ends.f k (⟨#[115,108,111,119]⟩:ByteArray) 20 y101 0 99 3001).bind fun bt122=>((schedule_Ends.f k (⟨#[115,108,111,119]⟩:ByteArray) 20 y101 1 400 9000).bind fun bt124=>((schedule_Target.f (⟨#[115,108,111,119]⟩:ByteArray) 20 y101 1 (⟨#[]⟩:ByteArray) 0 0 0 0 0 0 550 100 0 0 0 0).bind fun bt126=>(if bt105.2.1=0 then (if (bt105.1.length:Int)=1 then (if 0 < (bt105.1.length:Int) then ((sawmillref37_SameSchedule.f k ((rd_T24 bt105.1 0).f0) ((rd_T24 bt105.1 0).f1) ((rd_T24 bt105.1 0).f2) (⟨#[115,108,111,119]⟩:ByteArray) 20 y101).bind fun t130=>(if t130=true then ((schedule_Format.f bt105.1).bind fun t131=>(if t131.toList=([115,99,104,101,100,117,108,101,32,115,108,111,119,32,114,97,109,112,32,50,48,58,32,98,101,108,111,119,32,51,48,48,48,32,97,116,32,53,48,48,32,45,32,54,48,59,32,98,101,108,111,119,32,49,53,48,48,32,102,111,114,32,52,48,48,32,97,116,32,54,48,48,32,45,32,49,50,48,59,10]:List UInt8) then (if bt110.2.1=5 then (if bt110.2.2=29 then (if bt115.2.1=3 then (if bt115.2.2=0 then (if bt120.1=1 then (if bt120.2=true then (if bt122.1=0 then (if bt122.2=true then (none) else (if bt124.1=2 then (if bt124.2=true then (if (bt126.1 == 550 && (bt126.2 == 100))=true then ((schedule_Check.f (⟨#[115,108,111,119]⟩:ByteArray) 20 y101).bind fun t132=>(some (t132 == 0))) else (none)) else (none)) else (none))) else (none)) else (none)) else (none)) else (none)) else (none)) else (none)) else (none)) else (none))) else (none))) else (none)) else (none)) else (none)))))))))
theorem sawmilllaw37_awake.mono:∀ k,LeO (sawmilllaw37_awake.f k ) (sawmilllaw37_awake.f (k+1) ):=by
 intro  k
 unfold sawmilllaw37_awake.f
 repeat' first
   | (with_reducible exact sawmillref37_SameSchedule.mono _ _ _ _ _ _ _)
   | (with_reducible exact schedule_Ends.mono _ _ _ _ _ _ _)
   | (with_reducible exact LeO.refl _)
   | (with_reducible exact LeO.none _)
   | (with_reducible refine LeO.ite ?_ ?_)
   | (with_reducible refine LeO.bind ?_ (fun _=>?_))
   | exact sawmillref37_SameSchedule.mono _ _ _ _ _ _ _
   | exact schedule_Ends.mono _ _ _ _ _ _ _
   | exact LeO.none _
   | refine LeO.ite ?_ ?_
   | refine LeO.bind ?_ (fun _=>?_)
def sawmilllaw37_awake.T9:Bool × List (List Nat × List Nat):=(true,[([],[]),([0],[0]),([1],[1]),([2],[2]),([3,2],[2,3]),([4,2],[2,4]),([2,5],[2,5]),([6,2],[6]),([7],[7]),([8,7],[7,8]),([9,7],[7,9]),([7],[7]),([10,11,7,7],[7,10,11]),([7,12],[7,12]),([13,12],[13]),([14],[14]),([15,14,14],[14,15]),([16,14],[14,16]),([14,17],[14,17]),([18,16],[18]),([19],[19]),([20,19],[19,20]),([19,21],[19,21]),([22,19],[22]),([23],[23]),([24,23],[23,24]),([23,25],[23,25]),([26,23],[26]),([27],[27]),([28,27],[27,28]),([27,29],[27,29]),([30,27],[30]),([31],[31]),([32,31],[31,32]),([31,33],[31,33]),([34,31],[34]),([35],[35]),([36,35],[35,36]),([35,37],[35,37]),([38,35],[38]),([39],[39]),([39,40],[39,40]),([41,39],[41]),([42],[42]),([43,42],[42,43]),([42,44],[42,44]),([45,42],[45]),([46],[46]),([47,46],[46,47]),([46,48],[46,48]),([49,46],[49]),([50],[50]),([51,50],[50,51]),([50,52],[50,52]),([53,50],[53]),([54],[54]),([54,55],[54,55]),([56,54],[56]),([57],[57]),([57],[57]),([58,59,57],[57,58,59]),([57,60],[57,60]),([61,57],[61]),([62],[62]),([63,62,62],[62,63]),([64,62],[62,64]),([62,65],[62,65]),([66,64,0,1,2,3,4,5,6,7,8,9,10,11,12,13,14,15,16,17,18,19,20,21,22,23,24,25,26,27,28,29,30,31,32,33,34,35,36,37,38,39,40,41,42,43,44,45,46,47,48,49,50,51,52,53,54,55,56,57,58,59,60,61,62,63,64,65,66],[66])])
def sawmilllaw37_awake.B9:List Nat:=[0,1,3,7,15,31,63,127,255,511,1023,255,4095,8191,16383,32767,65535,131071,262143,524287,1048575,2097151,4194303,8388607,16777215,33554431,67108863,134217727,268435455,536870911,1073741823,2147483647,4294967295,8589934591,17179869183,34359738367,68719476735,137438953471,274877906943,549755813887,1099511627775,2199023255551,4398046511103,8796093022207,17592186044415,35184372088831,70368744177663,140737488355327,281474976710655,562949953421311,1125899906842623,2251799813685247,4503599627370495,9007199254740991,18014398509481983,36028797018963967,72057594037927935,144115188075855871,288230376151711743,288230376151711743,1152921504606846975,2305843009213693951,4611686018427387903,9223372036854775807,18446744073709551615,36893488147419103231,73786976294838206463,147573952589676412927]
theorem sawmilllaw37_awake.tab9:rtab .any (opsOf Tryd.f13 9)=sawmilllaw37_awake.T9:=by kernel_rfl
theorem sawmilllaw37_awake.bits9:waitsOk sawmilllaw37_awake.T9.2 sawmilllaw37_awake.B9=true:=by kernel_rfl
set_option maxHeartbeats 8000000 in
set_option maxRecDepth 100000 in
theorem sawmilllaw37_awake.calls (k:Nat)  (r:Bool) (w:World) (h:sawmilllaw37_awake.f k =some r) (HG_:Aside0 (Glob w)) :
  Calls Tryd.prog 13 #[] w fun e w'=>e=.returned (.bool r)∧Below w.heap.size w w':=by
 have hu52:=Tryd.underlying52
 have hu24:=Tryd.underlying24
 have hu37:=Tryd.underlying37
 have hu41:=Tryd.underlying41
 have HB:=Aside0.mk (Below.refl w.heap.size w)
 have H:((some (([(⟨3000,0,500,60⟩:S52),(⟨1500,400,600,120⟩:S52)]:List (S52)):List (S52))).bind fun y101=>((schedule_Parse.f (⟨#[115,99,104,101,100,117,108,101,32,115,108,111,119,32,114,97,109,112,32,50,48,58,32,98,101,108,111,119,32,51,48,48,48,32,97,116,32,53,48,48,32,45,32,54,48,59,32,98,101,108,111,119,32,49,53,48,48,32,102,111,114,32,52,48,48,32,97,116,32,54,48,48,32,45,32,49,50,48,59,10]⟩:ByteArray)).bind fun bt105=>((schedule_Parse.f (⟨#[115,99,104,101,100,117,108,101,32,115,108,111,119,32,114,97,109,112,32,50,48,58,32,98,101,108,111,119,32,48,32,97,116,32,53,48,48,32,45,32,54,48,59]⟩:ByteArray)).bind fun bt110=>((schedule_Parse.f (⟨#[115,99,104,101,100,117,108,101,32,115,108,111,119,32,114,97,109,112,32,50,48,58]⟩:ByteArray)).bind fun bt115=>((schedule_Ends.f k (⟨#[115,108,111,119]⟩:ByteArray) 20 y101 0 0 3000).bind fun bt120=>((schedule_Ends.f k (⟨#[115,108,111,119]⟩:ByteArray) 20 y101 0 99 3001).bind fun bt122=>((schedule_Ends.f k (⟨#[115,108,111,119]⟩:ByteArray) 20 y101 1 400 9000).bind fun bt124=>((schedule_Target.f (⟨#[115,108,111,119]⟩:ByteArray) 20 y101 1 (⟨#[]⟩:ByteArray) 0 0 0 0 0 0 550 100 0 0 0 0).bind fun bt126=>(if bt105.2.1=0 then (if (bt105.1.length:Int)=1 then (if 0 < (bt105.1.length:Int) then ((sawmillref37_SameSchedule.f k ((rd_T24 bt105.1 0).f0) ((rd_T24 bt105.1 0).f1) ((rd_T24 bt105.1 0).f2) (⟨#[115,108,111,119]⟩:ByteArray) 20 y101).bind fun t130=>(if t130=true then ((schedule_Format.f bt105.1).bind fun t131=>(if t131.toList=([115,99,104,101,100,117,108,101,32,115,108,111,119,32,114,97,109,112,32,50,48,58,32,98,101,108,111,119,32,51,48,48,48,32,97,116,32,53,48,48,32,45,32,54,48,59,32,98,101,108,111,119,32,49,53,48,48,32,102,111,114,32,52,48,48,32,97,116,32,54,48,48,32,45,32,49,50,48,59,10]:List UInt8) then (if bt110.2.1=5 then (if bt110.2.2=29 then (if bt115.2.1=3 then (if bt115.2.2=0 then (if bt120.1=1 then (if bt120.2=true then (if bt122.1=0 then (if bt122.2=true then (none) else (if bt124.1=2 then (if bt124.2=true then (if (bt126.1 == 550 && (bt126.2 == 100))=true then ((schedule_Check.f (⟨#[115,108,111,119]⟩:ByteArray) 20 y101).bind fun t132=>(some (t132 == 0))) else (none)) else (none)) else (none))) else (none)) else (none)) else (none)) else (none)) else (none)) else (none)) else (none)) else (none))) else (none))) else (none)) else (none)) else (none))))))))))=some r:=h
 clear h
 obtain ⟨y101,hy101⟩:∃ y_:List (S52),y_=(([(⟨3000,0,500,60⟩:S52),(⟨1500,400,600,120⟩:S52)]:List (S52))):=⟨_,rfl⟩
 replace H:((schedule_Parse.f (⟨#[115,99,104,101,100,117,108,101,32,115,108,111,119,32,114,97,109,112,32,50,48,58,32,98,101,108,111,119,32,51,48,48,48,32,97,116,32,53,48,48,32,45,32,54,48,59,32,98,101,108,111,119,32,49,53,48,48,32,102,111,114,32,52,48,48,32,97,116,32,54,48,48,32,45,32,49,50,48,59,10]⟩:ByteArray)).bind fun bt105=>((schedule_Parse.f (⟨#[115,99,104,101,100,117,108,101,32,115,108,111,119,32,114,97,109,112,32,50,48,58,32,98,101,108,111,119,32,48,32,97,116,32,53,48,48,32,45,32,54,48,59]⟩:ByteArray)).bind fun bt110=>((schedule_Parse.f (⟨#[115,99,104,101,100,117,108,101,32,115,108,111,119,32,114,97,109,112,32,50,48,58]⟩:ByteArray)).bind fun bt115=>((schedule_Ends.f k (⟨#[115,108,111,119]⟩:ByteArray) 20 y101 0 0 3000).bind fun bt120=>((schedule_Ends.f k (⟨#[115,108,111,119]⟩:ByteArray) 20 y101 0 99 3001).bind fun bt122=>((schedule_Ends.f k (⟨#[115,108,111,119]⟩:ByteArray) 20 y101 1 400 9000).bind fun bt124=>((schedule_Target.f (⟨#[115,108,111,119]⟩:ByteArray) 20 y101 1 (⟨#[]⟩:ByteArray) 0 0 0 0 0 0 550 100 0 0 0 0).bind fun bt126=>(if bt105.2.1=0 then (if (bt105.1.length:Int)=1 then (if 0 < (bt105.1.length:Int) then ((sawmillref37_SameSchedule.f k ((rd_T24 bt105.1 0).f0) ((rd_T24 bt105.1 0).f1) ((rd_T24 bt105.1 0).f2) (⟨#[115,108,111,119]⟩:ByteArray) 20 y101).bind fun t130=>(if t130=true then ((schedule_Format.f bt105.1).bind fun t131=>(if t131.toList=([115,99,104,101,100,117,108,101,32,115,108,111,119,32,114,97,109,112,32,50,48,58,32,98,101,108,111,119,32,51,48,48,48,32,97,116,32,53,48,48,32,45,32,54,48,59,32,98,101,108,111,119,32,49,53,48,48,32,102,111,114,32,52,48,48,32,97,116,32,54,48,48,32,45,32,49,50,48,59,10]:List UInt8) then (if bt110.2.1=5 then (if bt110.2.2=29 then (if bt115.2.1=3 then (if bt115.2.2=0 then (if bt120.1=1 then (if bt120.2=true then (if bt122.1=0 then (if bt122.2=true then (none) else (if bt124.1=2 then (if bt124.2=true then (if (bt126.1 == 550 && (bt126.2 == 100))=true then ((schedule_Check.f (⟨#[115,108,111,119]⟩:ByteArray) 20 y101).bind fun t132=>(some (t132 == 0))) else (none)) else (none)) else (none))) else (none)) else (none)) else (none)) else (none)) else (none)) else (none)) else (none)) else (none))) else (none))) else (none)) else (none)) else (none)))))))))=some r:=by first|(rw [hy101];with_reducible exact H)|(have H2_:=(Option.bind_some _ _).symm.trans H;rw [hy101];with_reducible exact H2_)|(have H2_:=(Option.bind_some _ _).symm.trans H;with_reducible exact H2_)|with_reducible exact H|(rw [hy101];exact H)|exact H
 have Ny101:=Aside0.mk hy101
 clear hy101
 replace H:=Option.bind_eq_some_iff.mp H
 obtain ⟨⟨t105,t106,t107⟩,A10,H⟩:=H
 replace H:((schedule_Parse.f (⟨#[115,99,104,101,100,117,108,101,32,115,108,111,119,32,114,97,109,112,32,50,48,58,32,98,101,108,111,119,32,48,32,97,116,32,53,48,48,32,45,32,54,48,59]⟩:ByteArray)).bind fun bt110=>((schedule_Parse.f (⟨#[115,99,104,101,100,117,108,101,32,115,108,111,119,32,114,97,109,112,32,50,48,58]⟩:ByteArray)).bind fun bt115=>((schedule_Ends.f k (⟨#[115,108,111,119]⟩:ByteArray) 20 y101 0 0 3000).bind fun bt120=>((schedule_Ends.f k (⟨#[115,108,111,119]⟩:ByteArray) 20 y101 0 99 3001).bind fun bt122=>((schedule_Ends.f k (⟨#[115,108,111,119]⟩:ByteArray) 20 y101 1 400 9000).bind fun bt124=>((schedule_Target.f (⟨#[115,108,111,119]⟩:ByteArray) 20 y101 1 (⟨#[]⟩:ByteArray) 0 0 0 0 0 0 550 100 0 0 0 0).bind fun bt126=>(if t106=0 then (if (t105.length:Int)=1 then (if 0 < (t105.length:Int) then ((sawmillref37_SameSchedule.f k ((rd_T24 t105 0).f0) ((rd_T24 t105 0).f1) ((rd_T24 t105 0).f2) (⟨#[115,108,111,119]⟩:ByteArray) 20 y101).bind fun t130=>(if t130=true then ((schedule_Format.f t105).bind fun t131=>(if t131.toList=([115,99,104,101,100,117,108,101,32,115,108,111,119,32,114,97,109,112,32,50,48,58,32,98,101,108,111,119,32,51,48,48,48,32,97,116,32,53,48,48,32,45,32,54,48,59,32,98,101,108,111,119,32,49,53,48,48,32,102,111,114,32,52,48,48,32,97,116,32,54,48,48,32,45,32,49,50,48,59,10]:List UInt8) then (if bt110.2.1=5 then (if bt110.2.2=29 then (if bt115.2.1=3 then (if bt115.2.2=0 then (if bt120.1=1 then (if bt120.2=true then (if bt122.1=0 then (if bt122.2=true then (none) else (if bt124.1=2 then (if bt124.2=true then (if (bt126.1 == 550 && (bt126.2 == 100))=true then ((schedule_Check.f (⟨#[115,108,111,119]⟩:ByteArray) 20 y101).bind fun t132=>(some (t132 == 0))) else (none)) else (none)) else (none))) else (none)) else (none)) else (none)) else (none)) else (none)) else (none)) else (none)) else (none))) else (none))) else (none)) else (none)) else (none))))))))=some r:=H
 have A1:=Aside0.mk A10
 clear A10
 replace H:=Option.bind_eq_some_iff.mp H
 obtain ⟨⟨t110,t111,t112⟩,A20,H⟩:=H
 replace H:((schedule_Parse.f (⟨#[115,99,104,101,100,117,108,101,32,115,108,111,119,32,114,97,109,112,32,50,48,58]⟩:ByteArray)).bind fun bt115=>((schedule_Ends.f k (⟨#[115,108,111,119]⟩:ByteArray) 20 y101 0 0 3000).bind fun bt120=>((schedule_Ends.f k (⟨#[115,108,111,119]⟩:ByteArray) 20 y101 0 99 3001).bind fun bt122=>((schedule_Ends.f k (⟨#[115,108,111,119]⟩:ByteArray) 20 y101 1 400 9000).bind fun bt124=>((schedule_Target.f (⟨#[115,108,111,119]⟩:ByteArray) 20 y101 1 (⟨#[]⟩:ByteArray) 0 0 0 0 0 0 550 100 0 0 0 0).bind fun bt126=>(if t106=0 then (if (t105.length:Int)=1 then (if 0 < (t105.length:Int) then ((sawmillref37_SameSchedule.f k ((rd_T24 t105 0).f0) ((rd_T24 t105 0).f1) ((rd_T24 t105 0).f2) (⟨#[115,108,111,119]⟩:ByteArray) 20 y101).bind fun t130=>(if t130=true then ((schedule_Format.f t105).bind fun t131=>(if t131.toList=([115,99,104,101,100,117,108,101,32,115,108,111,119,32,114,97,109,112,32,50,48,58,32,98,101,108,111,119,32,51,48,48,48,32,97,116,32,53,48,48,32,45,32,54,48,59,32,98,101,108,111,119,32,49,53,48,48,32,102,111,114,32,52,48,48,32,97,116,32,54,48,48,32,45,32,49,50,48,59,10]:List UInt8) then (if t111=5 then (if t112=29 then (if bt115.2.1=3 then (if bt115.2.2=0 then (if bt120.1=1 then (if bt120.2=true then (if bt122.1=0 then (if bt122.2=true then (none) else (if bt124.1=2 then (if bt124.2=true then (if (bt126.1 == 550 && (bt126.2 == 100))=true then ((schedule_Check.f (⟨#[115,108,111,119]⟩:ByteArray) 20 y101).bind fun t132=>(some (t132 == 0))) else (none)) else (none)) else (none))) else (none)) else (none)) else (none)) else (none)) else (none)) else (none)) else (none)) else (none))) else (none))) else (none)) else (none)) else (none)))))))=some r:=H
 have A2:=Aside0.mk A20
 clear A20
 replace H:=Option.bind_eq_some_iff.mp H
 obtain ⟨⟨t115,t116,t117⟩,A30,H⟩:=H
 replace H:((schedule_Ends.f k (⟨#[115,108,111,119]⟩:ByteArray) 20 y101 0 0 3000).bind fun bt120=>((schedule_Ends.f k (⟨#[115,108,111,119]⟩:ByteArray) 20 y101 0 99 3001).bind fun bt122=>((schedule_Ends.f k (⟨#[115,108,111,119]⟩:ByteArray) 20 y101 1 400 9000).bind fun bt124=>((schedule_Target.f (⟨#[115,108,111,119]⟩:ByteArray) 20 y101 1 (⟨#[]⟩:ByteArray) 0 0 0 0 0 0 550 100 0 0 0 0).bind fun bt126=>(if t106=0 then (if (t105.length:Int)=1 then (if 0 < (t105.length:Int) then ((sawmillref37_SameSchedule.f k ((rd_T24 t105 0).f0) ((rd_T24 t105 0).f1) ((rd_T24 t105 0).f2) (⟨#[115,108,111,119]⟩:ByteArray) 20 y101).bind fun t130=>(if t130=true then ((schedule_Format.f t105).bind fun t131=>(if t131.toList=([115,99,104,101,100,117,108,101,32,115,108,111,119,32,114,97,109,112,32,50,48,58,32,98,101,108,111,119,32,51,48,48,48,32,97,116,32,53,48,48,32,45,32,54,48,59,32,98,101,108,111,119,32,49,53,48,48,32,102,111,114,32,52,48,48,32,97,116,32,54,48,48,32,45,32,49,50,48,59,10]:List UInt8) then (if t111=5 then (if t112=29 then (if t116=3 then (if t117=0 then (if bt120.1=1 then (if bt120.2=true then (if bt122.1=0 then (if bt122.2=true then (none) else (if bt124.1=2 then (if bt124.2=true then (if (bt126.1 == 550 && (bt126.2 == 100))=true then ((schedule_Check.f (⟨#[115,108,111,119]⟩:ByteArray) 20 y101).bind fun t132=>(some (t132 == 0))) else (none)) else (none)) else (none))) else (none)) else (none)) else (none)) else (none)) else (none)) else (none)) else (none)) else (none))) else (none))) else (none)) else (none)) else (none))))))=some r:=H
 have A3:=Aside0.mk A30
 clear A30
 replace H:=Option.bind_eq_some_iff.mp H
 obtain ⟨⟨t120,t121⟩,A40,H⟩:=H
 replace H:((schedule_Ends.f k (⟨#[115,108,111,119]⟩:ByteArray) 20 y101 0 99 3001).bind fun bt122=>((schedule_Ends.f k (⟨#[115,108,111,119]⟩:ByteArray) 20 y101 1 400 9000).bind fun bt124=>((schedule_Target.f (⟨#[115,108,111,119]⟩:ByteArray) 20 y101 1 (⟨#[]⟩:ByteArray) 0 0 0 0 0 0 550 100 0 0 0 0).bind fun bt126=>(if t106=0 then (if (t105.length:Int)=1 then (if 0 < (t105.length:Int) then ((sawmillref37_SameSchedule.f k ((rd_T24 t105 0).f0) ((rd_T24 t105 0).f1) ((rd_T24 t105 0).f2) (⟨#[115,108,111,119]⟩:ByteArray) 20 y101).bind fun t130=>(if t130=true then ((schedule_Format.f t105).bind fun t131=>(if t131.toList=([115,99,104,101,100,117,108,101,32,115,108,111,119,32,114,97,109,112,32,50,48,58,32,98,101,108,111,119,32,51,48,48,48,32,97,116,32,53,48,48,32,45,32,54,48,59,32,98,101,108,111,119,32,49,53,48,48,32,102,111,114,32,52,48,48,32,97,116,32,54,48,48,32,45,32,49,50,48,59,10]:List UInt8) then (if t111=5 then (if t112=29 then (if t116=3 then (if t117=0 then (if t120=1 then (if t121=true then (if bt122.1=0 then (if bt122.2=true then (none) else (if bt124.1=2 then (if bt124.2=true then (if (bt126.1 == 550 && (bt126.2 == 100))=true then ((schedule_Check.f (⟨#[115,108,111,119]⟩:ByteArray) 20 y101).bind fun t132=>(some (t132 == 0))) else (none)) else (none)) else (none))) else (none)) else (none)) else (none)) else (none)) else (none)) else (none)) else (none)) else (none))) else (none))) else (none)) else (none)) else (none)))))=some r:=H
 have A4:=Aside0.mk A40
 clear A40
 replace H:=Option.bind_eq_some_iff.mp H
 obtain ⟨⟨t122,t123⟩,A50,H⟩:=H
 replace H:((schedule_Ends.f k (⟨#[115,108,111,119]⟩:ByteArray) 20 y101 1 400 9000).bind fun bt124=>((schedule_Target.f (⟨#[115,108,111,119]⟩:ByteArray) 20 y101 1 (⟨#[]⟩:ByteArray) 0 0 0 0 0 0 550 100 0 0 0 0).bind fun bt126=>(if t106=0 then (if (t105.length:Int)=1 then (if 0 < (t105.length:Int) then ((sawmillref37_SameSchedule.f k ((rd_T24 t105 0).f0) ((rd_T24 t105 0).f1) ((rd_T24 t105 0).f2) (⟨#[115,108,111,119]⟩:ByteArray) 20 y101).bind fun t130=>(if t130=true then ((schedule_Format.f t105).bind fun t131=>(if t131.toList=([115,99,104,101,100,117,108,101,32,115,108,111,119,32,114,97,109,112,32,50,48,58,32,98,101,108,111,119,32,51,48,48,48,32,97,116,32,53,48,48,32,45,32,54,48,59,32,98,101,108,111,119,32,49,53,48,48,32,102,111,114,32,52,48,48,32,97,116,32,54,48,48,32,45,32,49,50,48,59,10]:List UInt8) then (if t111=5 then (if t112=29 then (if t116=3 then (if t117=0 then (if t120=1 then (if t121=true then (if t122=0 then (if t123=true then (none) else (if bt124.1=2 then (if bt124.2=true then (if (bt126.1 == 550 && (bt126.2 == 100))=true then ((schedule_Check.f (⟨#[115,108,111,119]⟩:ByteArray) 20 y101).bind fun t132=>(some (t132 == 0))) else (none)) else (none)) else (none))) else (none)) else (none)) else (none)) else (none)) else (none)) else (none)) else (none)) else (none))) else (none))) else (none)) else (none)) else (none))))=some r:=H
 have A5:=Aside0.mk A50
 clear A50
 replace H:=Option.bind_eq_some_iff.mp H
 obtain ⟨⟨t124,t125⟩,A60,H⟩:=H
 replace H:((schedule_Target.f (⟨#[115,108,111,119]⟩:ByteArray) 20 y101 1 (⟨#[]⟩:ByteArray) 0 0 0 0 0 0 550 100 0 0 0 0).bind fun bt126=>(if t106=0 then (if (t105.length:Int)=1 then (if 0 < (t105.length:Int) then ((sawmillref37_SameSchedule.f k ((rd_T24 t105 0).f0) ((rd_T24 t105 0).f1) ((rd_T24 t105 0).f2) (⟨#[115,108,111,119]⟩:ByteArray) 20 y101).bind fun t130=>(if t130=true then ((schedule_Format.f t105).bind fun t131=>(if t131.toList=([115,99,104,101,100,117,108,101,32,115,108,111,119,32,114,97,109,112,32,50,48,58,32,98,101,108,111,119,32,51,48,48,48,32,97,116,32,53,48,48,32,45,32,54,48,59,32,98,101,108,111,119,32,49,53,48,48,32,102,111,114,32,52,48,48,32,97,116,32,54,48,48,32,45,32,49,50,48,59,10]:List UInt8) then (if t111=5 then (if t112=29 then (if t116=3 then (if t117=0 then (if t120=1 then (if t121=true then (if t122=0 then (if t123=true then (none) else (if t124=2 then (if t125=true then (if (bt126.1 == 550 && (bt126.2 == 100))=true then ((schedule_Check.f (⟨#[115,108,111,119]⟩:ByteArray) 20 y101).bind fun t132=>(some (t132 == 0))) else (none)) else (none)) else (none))) else (none)) else (none)) else (none)) else (none)) else (none)) else (none)) else (none)) else (none))) else (none))) else (none)) else (none)) else (none)))=some r:=H
 have A6:=Aside0.mk A60
 clear A60
 replace H:=Option.bind_eq_some_iff.mp H
 obtain ⟨⟨t126,t127⟩,A70,H⟩:=H
 replace H:(if t106=0 then (if (t105.length:Int)=1 then (if 0 < (t105.length:Int) then ((sawmillref37_SameSchedule.f k ((rd_T24 t105 0).f0) ((rd_T24 t105 0).f1) ((rd_T24 t105 0).f2) (⟨#[115,108,111,119]⟩:ByteArray) 20 y101).bind fun t130=>(if t130=true then ((schedule_Format.f t105).bind fun t131=>(if t131.toList=([115,99,104,101,100,117,108,101,32,115,108,111,119,32,114,97,109,112,32,50,48,58,32,98,101,108,111,119,32,51,48,48,48,32,97,116,32,53,48,48,32,45,32,54,48,59,32,98,101,108,111,119,32,49,53,48,48,32,102,111,114,32,52,48,48,32,97,116,32,54,48,48,32,45,32,49,50,48,59,10]:List UInt8) then (if t111=5 then (if t112=29 then (if t116=3 then (if t117=0 then (if t120=1 then (if t121=true then (if t122=0 then (if t123=true then (none) else (if t124=2 then (if t125=true then (if (t126 == 550 && (t127 == 100))=true then ((schedule_Check.f (⟨#[115,108,111,119]⟩:ByteArray) 20 y101).bind fun t132=>(some (t132 == 0))) else (none)) else (none)) else (none))) else (none)) else (none)) else (none)) else (none)) else (none)) else (none)) else (none)) else (none))) else (none))) else (none)) else (none)) else (none))=some r:=H
 have A7:=Aside0.mk A70
 clear A70
 by_cases c8:t106=0
 ·rw [if_pos c8] at H
  have c8b0:(t106 == 0)=true:=beq_iff_eq.mpr c8
  have c8b1:(t106 != 0)=false:=bne_eq_false_iff_eq.mpr c8
  clear c8
  by_cases c9:(t105.length:Int)=1
  ·rw [if_pos c9] at H
   have c9b0:((t105.length:Int) == 1)=true:=beq_iff_eq.mpr c9
   have c9b1:((t105.length:Int) != 1)=false:=bne_eq_false_iff_eq.mpr c9
   clear c9
   by_cases c10:0 < (t105.length:Int)
   ·rw [if_pos c10] at H
    have c10b0:decide (0 < (t105.length:Int))=true:=decide_eq_true c10
    have c10b1:decide (0 < t105.length)=true:=decide_eq_true (by omega)
    clear c10
    replace H:=Option.bind_eq_some_iff.mp H
    obtain ⟨t130,A110,H⟩:=H
    replace H:(if t130=true then ((schedule_Format.f t105).bind fun t131=>(if t131.toList=([115,99,104,101,100,117,108,101,32,115,108,111,119,32,114,97,109,112,32,50,48,58,32,98,101,108,111,119,32,51,48,48,48,32,97,116,32,53,48,48,32,45,32,54,48,59,32,98,101,108,111,119,32,49,53,48,48,32,102,111,114,32,52,48,48,32,97,116,32,54,48,48,32,45,32,49,50,48,59,10]:List UInt8) then (if t111=5 then (if t112=29 then (if t116=3 then (if t117=0 then (if t120=1 then (if t121=true then (if t122=0 then (if t123=true then (none) else (if t124=2 then (if t125=true then (if (t126 == 550 && (t127 == 100))=true then ((schedule_Check.f (⟨#[115,108,111,119]⟩:ByteArray) 20 y101).bind fun t132=>(some (t132 == 0))) else (none)) else (none)) else (none))) else (none)) else (none)) else (none)) else (none)) else (none)) else (none)) else (none)) else (none))) else (none))=some r:=H
    have A11:=Aside0.mk A110
    clear A110
    by_cases c12:t130=true
    ·subst c12
     have H1:((schedule_Format.f t105).bind fun t131=>(if t131.toList=([115,99,104,101,100,117,108,101,32,115,108,111,119,32,114,97,109,112,32,50,48,58,32,98,101,108,111,119,32,51,48,48,48,32,97,116,32,53,48,48,32,45,32,54,48,59,32,98,101,108,111,119,32,49,53,48,48,32,102,111,114,32,52,48,48,32,97,116,32,54,48,48,32,45,32,49,50,48,59,10]:List UInt8) then (if t111=5 then (if t112=29 then (if t116=3 then (if t117=0 then (if t120=1 then (if t121=true then (if t122=0 then (if t123=true then (none) else (if t124=2 then (if t125=true then (if (t126 == 550 && (t127 == 100))=true then ((schedule_Check.f (⟨#[115,108,111,119]⟩:ByteArray) 20 y101).bind fun t132=>(some (t132 == 0))) else (none)) else (none)) else (none))) else (none)) else (none)) else (none)) else (none)) else (none)) else (none)) else (none)) else (none)))=some r:=by rw [if_pos rfl] at H;exact H
     clear H
     have H:=H1
     clear H1
     replace H:=Option.bind_eq_some_iff.mp H
     obtain ⟨t131,A130,H⟩:=H
     replace H:(if t131.toList=([115,99,104,101,100,117,108,101,32,115,108,111,119,32,114,97,109,112,32,50,48,58,32,98,101,108,111,119,32,51,48,48,48,32,97,116,32,53,48,48,32,45,32,54,48,59,32,98,101,108,111,119,32,49,53,48,48,32,102,111,114,32,52,48,48,32,97,116,32,54,48,48,32,45,32,49,50,48,59,10]:List UInt8) then (if t111=5 then (if t112=29 then (if t116=3 then (if t117=0 then (if t120=1 then (if t121=true then (if t122=0 then (if t123=true then (none) else (if t124=2 then (if t125=true then (if (t126 == 550 && (t127 == 100))=true then ((schedule_Check.f (⟨#[115,108,111,119]⟩:ByteArray) 20 y101).bind fun t132=>(some (t132 == 0))) else (none)) else (none)) else (none))) else (none)) else (none)) else (none)) else (none)) else (none)) else (none)) else (none)) else (none))=some r:=H
     have A13:=Aside0.mk A130
     clear A130
     by_cases c14:t131.toList=([115,99,104,101,100,117,108,101,32,115,108,111,119,32,114,97,109,112,32,50,48,58,32,98,101,108,111,119,32,51,48,48,48,32,97,116,32,53,48,48,32,45,32,54,48,59,32,98,101,108,111,119,32,49,53,48,48,32,102,111,114,32,52,48,48,32,97,116,32,54,48,48,32,45,32,49,50,48,59,10]:List UInt8)
     ·rw [if_pos c14] at H
      have c14b0:(t131.toList == ([115,99,104,101,100,117,108,101,32,115,108,111,119,32,114,97,109,112,32,50,48,58,32,98,101,108,111,119,32,51,48,48,48,32,97,116,32,53,48,48,32,45,32,54,48,59,32,98,101,108,111,119,32,49,53,48,48,32,102,111,114,32,52,48,48,32,97,116,32,54,48,48,32,45,32,49,50,48,59,10]:List UInt8))=true:=beq_iff_eq.mpr c14
      have c14b1:(t131.toList != ([115,99,104,101,100,117,108,101,32,115,108,111,119,32,114,97,109,112,32,50,48,58,32,98,101,108,111,119,32,51,48,48,48,32,97,116,32,53,48,48,32,45,32,54,48,59,32,98,101,108,111,119,32,49,53,48,48,32,102,111,114,32,52,48,48,32,97,116,32,54,48,48,32,45,32,49,50,48,59,10]:List UInt8))=false:=bne_eq_false_iff_eq.mpr c14
      clear c14
      by_cases c15:t111=5
      ·rw [if_pos c15] at H
       have c15b0:(t111 == 5)=true:=beq_iff_eq.mpr c15
       have c15b1:(t111 != 5)=false:=bne_eq_false_iff_eq.mpr c15
       clear c15
       by_cases c16:t112=29
       ·rw [if_pos c16] at H
        have c16b0:(t112 == 29)=true:=beq_iff_eq.mpr c16
        have c16b1:(t112 != 29)=false:=bne_eq_false_iff_eq.mpr c16
        clear c16
        by_cases c17:t116=3
        ·rw [if_pos c17] at H
         have c17b0:(t116 == 3)=true:=beq_iff_eq.mpr c17
         have c17b1:(t116 != 3)=false:=bne_eq_false_iff_eq.mpr c17
         clear c17
         by_cases c18:t117=0
         ·rw [if_pos c18] at H
          have c18b0:(t117 == 0)=true:=beq_iff_eq.mpr c18
          have c18b1:(t117 != 0)=false:=bne_eq_false_iff_eq.mpr c18
          clear c18
          by_cases c19:t120=1
          ·rw [if_pos c19] at H
           have c19b0:(t120 == 1)=true:=beq_iff_eq.mpr c19
           have c19b1:(t120 != 1)=false:=bne_eq_false_iff_eq.mpr c19
           clear c19
           by_cases c20:t121=true
           ·subst c20
            have H1:(if t122=0 then (if t123=true then (none) else (if t124=2 then (if t125=true then (if (t126 == 550 && (t127 == 100))=true then ((schedule_Check.f (⟨#[115,108,111,119]⟩:ByteArray) 20 y101).bind fun t132=>(some (t132 == 0))) else (none)) else (none)) else (none))) else (none))=some r:=by rw [if_pos rfl] at H;exact H
            clear H
            have H:=H1
            clear H1
            by_cases c21:t122=0
            ·rw [if_pos c21] at H
             have c21b0:(t122 == 0)=true:=beq_iff_eq.mpr c21
             have c21b1:(t122 != 0)=false:=bne_eq_false_iff_eq.mpr c21
             clear c21
             by_cases c22:t123=true
             ·subst c22
              have H1:(none)=some r:=by rw [if_pos rfl] at H;exact H
              clear H
              have H:=H1
              clear H1
              exact absurd H (by simp)
             ·replace c22:=Bool.eq_false_iff.mpr c22
              subst c22
              have H1:(if t124=2 then (if t125=true then (if (t126 == 550 && (t127 == 100))=true then ((schedule_Check.f (⟨#[115,108,111,119]⟩:ByteArray) 20 y101).bind fun t132=>(some (t132 == 0))) else (none)) else (none)) else (none))=some r:=by rw [if_neg (show ¬ (false=true) by decide)] at H;exact H
              clear H
              have H:=H1
              clear H1
              by_cases c23:t124=2
              ·rw [if_pos c23] at H
               have c23b0:(t124 == 2)=true:=beq_iff_eq.mpr c23
               have c23b1:(t124 != 2)=false:=bne_eq_false_iff_eq.mpr c23
               clear c23
               by_cases c24:t125=true
               ·subst c24
                have H1:(if (t126 == 550 && (t127 == 100))=true then ((schedule_Check.f (⟨#[115,108,111,119]⟩:ByteArray) 20 y101).bind fun t132=>(some (t132 == 0))) else (none))=some r:=by rw [if_pos rfl] at H;exact H
                clear H
                have H:=H1
                clear H1
                by_cases c25:(t126 == 550 && (t127 == 100))=true
                ·rw [if_pos c25] at H
                 have c25b0:(t126 == 550 && (t127 == 100))=true:=c25
                 (try (have c25b1:decide (t126=550 && (t127 == 100))=true:=by simpa using c25))
                 (try (have c25b2:(t126 == 550 && (t127 == 100))=true:=by simpa using c25))
                 clear c25
                 replace H:=Option.bind_eq_some_iff.mp H
                 obtain ⟨t132,A260,H⟩:=H
                 replace H:(some (t132 == 0))=some r:=H
                 have A26:=Aside0.mk A260
                 clear A260
                 obtain rfl:=Option.some.inj H
                 go_enter Tryd.func13,Tryd.ntmps13
                 try go_wp2_with (first|((with_reducible refine gate_dst (N:=20) rfl ?_);(try (refine gate_guard (by rfl) ?_;dsimp only));refine Kd.R_lit k52 _ 52 ?hg (N:=20) ?hd (xs:=([(⟨3000,0,500,60⟩:S52),(⟨1500,400,600,120⟩:S52)]:List (S52))) (inner:=[.int .i64 3000,.int .i64 0,.int .i64 500,.int .i64 60,.int .i64 1500,.int .i64 400,.int .i64 600,.int .i64 120]) (ok:=fun _=>True) (okp:=fun _=>True) ?hr ?hp (fun _ hk=>hk) trivial (Below.refl _ _) (Nat.le_refl _) (by simp) ?_;(case hd=>rfl);(case hg=>rfl);(case hr=>first|(go_simp;done)|(go_simp;rfl));(case hp=>exact (Reps.c4 (show Kd.M k52 _ _ _ (⟨3000,0,500,60⟩:S52) [.int .i64 3000,.int .i64 0,.int .i64 500,.int .i64 60] from (k52_mkM _ _ _ (⟨3000,0,500,60⟩:S52) )) (Reps.c4 (show Kd.M k52 _ _ _ (⟨1500,400,600,120⟩:S52) [.int .i64 1500,.int .i64 400,.int .i64 600,.int .i64 120] from (k52_mkM _ _ _ (⟨1500,400,600,120⟩:S52) )) (Reps.none _ _))));intro v102 w27 ho28 hb hg_ hnew_;clear hg_ hnew_;(first|rw [← Ny101.out] at ho28|(simp only [Int.reduceToNat] at ho28;rw [← Ny101.out] at ho28));have n0_:=Aside0.mk (Kd.R_lower ho28 (below_size (by repeat (first|(with_reducible first|exact HB.out|apply below_alloc|apply pw_below_drewN|apply below_drew1)|exact HB.out))));have n1_:=Aside0.mk (below_step (by repeat (first|(with_reducible first|exact HB.out|apply below_alloc|apply pw_below_drewN|apply below_drew1)|exact HB.out)) hb);clear HB;have HO103:=n0_;have HB:=n1_;clear n0_ n1_;clear hb ho28;obtain ⟨Ao29,co29,eo29⟩:=Kd.R_slice HO103.out;subst eo29)|((with_reducible refine gate_dst (N:=1) rfl ?_);(try (refine gate_guard (by rfl) ?_;dsimp only));refine box_event ?hg (N:=1) ?hd (cs:=#[.string (⟨#[]⟩:ByteArray),.int .i64 0,.slice none 0 0]) (t:=24) ?hr ?_;(case hd=>rfl);(case hg=>rfl);(case hr=>first|(go_simp;done)|(go_simp;rfl));intro gb104 hg w30 hbox hb;have n0_:=Aside0.mk (Kd.R_below (by (with_reducible repeat (first|apply Kd.R_alloc|apply Kd.R_drewN|apply Kd.R_drew));exact HO103.out) hb);have n1_:=Aside0.mk (below_step (by repeat (first|(with_reducible first|exact HB.out|apply below_alloc|apply pw_below_drewN|apply below_drew1)|exact HB.out)) hb);have n2_:=Aside0.mk (hbox);have n3_:=Aside0.mk ((by rw [hg];exact (below_size (by repeat (first|(with_reducible first|exact HB.out|apply below_alloc|apply pw_below_drewN|apply below_drew1)|exact HB.out))):w.heap.size≤gb104));have n4_:=Aside0.mk ((by rw [hg];exact (below_size (by repeat (first|(with_reducible first|exact HB.out|apply below_alloc|apply pw_below_drewN|apply below_drew1)|exact HB.out))):w.heap.size≤gb104));clear HO103;clear HB;have HO103:=n0_;have HB:=n1_;have BK104:=n2_;have GW104:=n3_;have GE104:=n4_;clear n0_ n1_ n2_ n3_ n4_;clear hb hbox hg;have hcz31_0:w30.cell? ⟨gb104,0,none⟩=some (.string (⟨#[]⟩:ByteArray)):=(blk_cell BK104.out 0).trans rfl;have hcz31_1:w30.cell? ⟨gb104,1,none⟩=some (.int .i64 0):=(blk_cell BK104.out 1).trans rfl;have hcz31_2:w30.cell? ⟨gb104,2,none⟩=some (.slice none 0 0):=(blk_cell BK104.out 2).trans rfl;have hfz31_0:=blk_frozen BK104.out 0;have hfz31_1:=blk_frozen BK104.out 1;have hfz31_2:=blk_frozen BK104.out 2)|((with_reducible refine gate_callee (f:=25) rfl ?_);refine goesL_ (some 23) rfl rfl Tryd.func25 (by kernel_rfl) rfl #[.string (⟨#[115,99,104,101,100,117,108,101,32,115,108,111,119,32,114,97,109,112,32,50,48,58,32,98,101,108,111,119,32,51,48,48,48,32,97,116,32,53,48,48,32,45,32,54,48,59,32,98,101,108,111,119,32,49,53,48,48,32,102,111,114,32,52,48,48,32,97,116,32,54,48,48,32,45,32,49,50,48,59,10]⟩:ByteArray)] rfl (by (try simp only [List.map_toArray,List.map_cons,List.map_nil]);first|done|rfl|(simp only [List.length_drop,List.length_take];rfl)) ?_;(with_reducible refine (schedule_Parse.calls (⟨#[115,99,104,101,100,117,108,101,32,115,108,111,119,32,114,97,109,112,32,50,48,58,32,98,101,108,111,119,32,51,48,48,48,32,97,116,32,53,48,48,32,45,32,54,48,59,32,98,101,108,111,119,32,49,53,48,48,32,102,111,114,32,52,48,48,32,97,116,32,54,48,48,32,45,32,49,50,48,59,10]⟩:ByteArray) t105 t106 t107 _ A1.out (glob_at HG_ (by repeat (first|(with_reducible first|exact HB.out|apply below_alloc|apply pw_below_drewN|apply below_drew1|refine below_set ?_ (Aside0.out (by assumption)))|exact HB.out)))).mono ?_);rintro e w32 ⟨v108,rfl,ho0,hb⟩;refine ⟨_,rfl,?_⟩;have n0_:=Aside0.mk (Kd.R_below (by (with_reducible repeat (first|apply Kd.R_alloc|apply Kd.R_drewN|apply Kd.R_drew));exact (Kd.R_mono (Kd.R_far (p:=⟨gb104,2,none⟩) (Kd.R_far (p:=⟨gb104,1,none⟩) (Kd.R_far (p:=⟨gb104,0,none⟩) (Kd.R_types HO103.out BK104.out (by decide)) (fun _ hk=>hk.2) (.string (⟨#[115,108,111,119]⟩:ByteArray))) (fun _ hk=>hk.2) (.int .i64 20)) (fun _ hk=>hk.2) (.slice Ao29 y101.length co29)) (fun _ h_=>h_.1))) hb);have n1_:=Aside0.mk (Kd.S_lower (Kd.S_newB (Kd.S_new' ho0 (Kd.R_lt (by (with_reducible repeat (first|apply Kd.R_alloc|apply Kd.R_drewN|apply Kd.R_drew));exact (Kd.R_mono (Kd.R_far (p:=⟨gb104,2,none⟩) (Kd.R_far (p:=⟨gb104,1,none⟩) (Kd.R_far (p:=⟨gb104,0,none⟩) (Kd.R_types HO103.out BK104.out (by decide)) (fun _ hk=>hk.2) (.string (⟨#[115,108,111,119]⟩:ByteArray))) (fun _ hk=>hk.2) (.int .i64 20)) (fun _ hk=>hk.2) (.slice Ao29 y101.length co29)) (fun _ h_=>h_.1))))) (g:=gb104) (o:=.cells #[.string (⟨#[115,108,111,119]⟩:ByteArray),.int .i64 20,.slice Ao29 y101.length co29] 24 (0,0)) (by (with_reducible repeat (first|refine blk_drewN ?_ _|refine blk_drew ?_|refine blk_alloc ?_ _));refine blk_put (cs:=#[.string (⟨#[115,108,111,119]⟩:ByteArray),.int .i64 20,.slice none 0 0]) ?_ 2 _ rfl;(with_reducible repeat (first|refine blk_drewN ?_ _|refine blk_drew ?_|refine blk_alloc ?_ _));refine blk_put (cs:=#[.string (⟨#[115,108,111,119]⟩:ByteArray),.int .i64 0,.slice none 0 0]) ?_ 1 _ rfl;(with_reducible repeat (first|refine blk_drewN ?_ _|refine blk_drew ?_|refine blk_alloc ?_ _));refine blk_put (cs:=#[.string (⟨#[]⟩:ByteArray),.int .i64 0,.slice none 0 0]) ?_ 0 _ rfl;(with_reducible repeat (first|refine blk_drewN ?_ _|refine blk_drew ?_|refine blk_alloc ?_ _));exact BK104.out)) (below_size (by repeat (first|(with_reducible first|exact HB.out|apply below_alloc|apply pw_below_drewN|apply below_drew1|refine below_set ?_ GE104.out)|exact HB.out))));have n2_:=Aside0.mk (blk_below (g:=gb104) (o:=.cells #[.string (⟨#[115,108,111,119]⟩:ByteArray),.int .i64 20,.slice Ao29 y101.length co29] 24 (0,0)) (by (with_reducible repeat (first|refine blk_drewN ?_ _|refine blk_drew ?_|refine blk_alloc ?_ _));refine blk_put (cs:=#[.string (⟨#[115,108,111,119]⟩:ByteArray),.int .i64 20,.slice none 0 0]) ?_ 2 _ rfl;(with_reducible repeat (first|refine blk_drewN ?_ _|refine blk_drew ?_|refine blk_alloc ?_ _));refine blk_put (cs:=#[.string (⟨#[115,108,111,119]⟩:ByteArray),.int .i64 0,.slice none 0 0]) ?_ 1 _ rfl;(with_reducible repeat (first|refine blk_drewN ?_ _|refine blk_drew ?_|refine blk_alloc ?_ _));refine blk_put (cs:=#[.string (⟨#[]⟩:ByteArray),.int .i64 0,.slice none 0 0]) ?_ 0 _ rfl;(with_reducible repeat (first|refine blk_drewN ?_ _|refine blk_drew ?_|refine blk_alloc ?_ _));exact BK104.out) hb);have n3_:=Aside0.mk (below_step (by repeat (first|(with_reducible first|exact HB.out|apply below_alloc|apply pw_below_drewN|apply below_drew1|refine below_set ?_ GE104.out)|exact HB.out)) hb);clear HO103;clear BK104;clear HB;have HO103:=n0_;have HO109:=n1_;have BK104:=n2_;have HB:=n3_;clear n0_ n1_ n2_ n3_;(try clear hb);(try clear hb2);(try clear hk);(try clear hi);(try clear ho0))|((with_reducible refine gate_callee (f:=25) rfl ?_);refine goesL_ (some 28) rfl rfl Tryd.func25 (by kernel_rfl) rfl #[.string (⟨#[115,99,104,101,100,117,108,101,32,115,108,111,119,32,114,97,109,112,32,50,48,58,32,98,101,108,111,119,32,48,32,97,116,32,53,48,48,32,45,32,54,48,59]⟩:ByteArray)] rfl (by (try simp only [List.map_toArray,List.map_cons,List.map_nil]);first|done|rfl|(simp only [List.length_drop,List.length_take];rfl)) ?_;(with_reducible refine (schedule_Parse.calls (⟨#[115,99,104,101,100,117,108,101,32,115,108,111,119,32,114,97,109,112,32,50,48,58,32,98,101,108,111,119,32,48,32,97,116,32,53,48,48,32,45,32,54,48,59]⟩:ByteArray) t110 t111 t112 _ A2.out (glob_at HG_ (by repeat (first|(with_reducible first|exact HB.out|apply below_alloc|apply pw_below_drewN|apply below_drew1|refine below_set ?_ (Aside0.out (by assumption)))|exact HB.out)))).mono ?_);rintro e w33 ⟨v113,rfl,ho0,hb⟩;refine ⟨_,rfl,?_⟩;have n0_:=Aside0.mk (Kd.R_below (by (with_reducible repeat (first|apply Kd.R_alloc|apply Kd.R_drewN|apply Kd.R_drew));exact HO103.out) hb);have n1_:=Aside0.mk (Kd.S_elder' (by (with_reducible repeat (first|apply Kd.S_alloc|apply Kd.S_drewN|apply Kd.S_drew));exact HO109.out) (Kd.S_base ho0) hb);have n2_:=Aside0.mk (Kd.S_lower (Kd.S_newB (Kd.S_new' (Kd.S_new' ho0 (Kd.R_lt (by (with_reducible repeat (first|apply Kd.R_alloc|apply Kd.R_drewN|apply Kd.R_drew));exact HO103.out))) (Kd.S_lt (by (with_reducible repeat (first|apply Kd.S_alloc|apply Kd.S_drewN|apply Kd.S_drew));exact HO109.out))) (g:=gb104) (o:=.cells #[.string (⟨#[115,108,111,119]⟩:ByteArray),.int .i64 20,.slice Ao29 y101.length co29] 24 (0,0)) (by (with_reducible repeat (first|refine blk_drewN ?_ _|refine blk_drew ?_|refine blk_alloc ?_ _));exact BK104.out)) (below_size (by repeat (first|(with_reducible first|exact HB.out|apply below_alloc|apply pw_below_drewN|apply below_drew1|refine below_set ?_ GE104.out)|exact HB.out))));have n3_:=Aside0.mk (blk_below (g:=gb104) (o:=.cells #[.string (⟨#[115,108,111,119]⟩:ByteArray),.int .i64 20,.slice Ao29 y101.length co29] 24 (0,0)) (by (with_reducible repeat (first|refine blk_drewN ?_ _|refine blk_drew ?_|refine blk_alloc ?_ _));exact BK104.out) hb);have n4_:=Aside0.mk (below_step (by repeat (first|(with_reducible first|exact HB.out|apply below_alloc|apply pw_below_drewN|apply below_drew1|refine below_set ?_ GE104.out)|exact HB.out)) hb);clear HO103;clear HO109;clear BK104;clear HB;have HO103:=n0_;have HO109:=n1_;have HO114:=n2_;have BK104:=n3_;have HB:=n4_;clear n0_ n1_ n2_ n3_ n4_;(try clear hb);(try clear hb2);(try clear hk);(try clear hi);(try clear ho0))|((with_reducible refine gate_callee (f:=25) rfl ?_);refine goesL_ (some 33) rfl rfl Tryd.func25 (by kernel_rfl) rfl #[.string (⟨#[115,99,104,101,100,117,108,101,32,115,108,111,119,32,114,97,109,112,32,50,48,58]⟩:ByteArray)] rfl (by (try simp only [List.map_toArray,List.map_cons,List.map_nil]);first|done|rfl|(simp only [List.length_drop,List.length_take];rfl)) ?_;(with_reducible refine (schedule_Parse.calls (⟨#[115,99,104,101,100,117,108,101,32,115,108,111,119,32,114,97,109,112,32,50,48,58]⟩:ByteArray) t115 t116 t117 _ A3.out (glob_at HG_ (by repeat (first|(with_reducible first|exact HB.out|apply below_alloc|apply pw_below_drewN|apply below_drew1|refine below_set ?_ (Aside0.out (by assumption)))|exact HB.out)))).mono ?_);rintro e w34 ⟨v118,rfl,ho0,hb⟩;refine ⟨_,rfl,?_⟩;have n0_:=Aside0.mk (Kd.R_below (by (with_reducible repeat (first|apply Kd.R_alloc|apply Kd.R_drewN|apply Kd.R_drew));exact HO103.out) hb);have n1_:=Aside0.mk (Kd.S_elder' (by (with_reducible repeat (first|apply Kd.S_alloc|apply Kd.S_drewN|apply Kd.S_drew));exact HO109.out) (Kd.S_base ho0) hb);have n2_:=Aside0.mk (Kd.S_elder' (by (with_reducible repeat (first|apply Kd.S_alloc|apply Kd.S_drewN|apply Kd.S_drew));exact HO114.out) (Kd.S_base ho0) hb);have n3_:=Aside0.mk (Kd.S_lower (Kd.S_newB (Kd.S_new' (Kd.S_new' (Kd.S_new' ho0 (Kd.R_lt (by (with_reducible repeat (first|apply Kd.R_alloc|apply Kd.R_drewN|apply Kd.R_drew));exact HO103.out))) (Kd.S_lt (by (with_reducible repeat (first|apply Kd.S_alloc|apply Kd.S_drewN|apply Kd.S_drew));exact HO109.out))) (Kd.S_lt (by (with_reducible repeat (first|apply Kd.S_alloc|apply Kd.S_drewN|apply Kd.S_drew));exact HO114.out))) (g:=gb104) (o:=.cells #[.string (⟨#[115,108,111,119]⟩:ByteArray),.int .i64 20,.slice Ao29 y101.length co29] 24 (0,0)) (by (with_reducible repeat (first|refine blk_drewN ?_ _|refine blk_drew ?_|refine blk_alloc ?_ _));exact BK104.out)) (below_size (by repeat (first|(with_reducible first|exact HB.out|apply below_alloc|apply pw_below_drewN|apply below_drew1|refine below_set ?_ GE104.out)|exact HB.out))));have n4_:=Aside0.mk (blk_below (g:=gb104) (o:=.cells #[.string (⟨#[115,108,111,119]⟩:ByteArray),.int .i64 20,.slice Ao29 y101.length co29] 24 (0,0)) (by (with_reducible repeat (first|refine blk_drewN ?_ _|refine blk_drew ?_|refine blk_alloc ?_ _));exact BK104.out) hb);have n5_:=Aside0.mk (below_step (by repeat (first|(with_reducible first|exact HB.out|apply below_alloc|apply pw_below_drewN|apply below_drew1|refine below_set ?_ GE104.out)|exact HB.out)) hb);clear HO103;clear HO109;clear HO114;clear BK104;clear HB;have HO103:=n0_;have HO109:=n1_;have HO114:=n2_;have HO119:=n3_;have BK104:=n4_;have HB:=n5_;clear n0_ n1_ n2_ n3_ n4_ n5_;(try clear hb);(try clear hb2);(try clear hk);(try clear hi);(try clear ho0);have hcz35_0:w34.cell? ⟨gb104,0,none⟩=some (.string (⟨#[115,108,111,119]⟩:ByteArray)):=(blk_cell BK104.out 0).trans rfl;have hcz35_1:w34.cell? ⟨gb104,1,none⟩=some (.int .i64 20):=(blk_cell BK104.out 1).trans rfl;have hcz35_2:w34.cell? ⟨gb104,2,none⟩=some (.slice Ao29 y101.length co29):=(blk_cell BK104.out 2).trans rfl;have hfz35_0:=blk_frozen BK104.out 0;have hfz35_1:=blk_frozen BK104.out 1;have hfz35_2:=blk_frozen BK104.out 2)|((with_reducible refine gate_callee (f:=19) rfl ?_);refine goesL_ (some 39) rfl rfl Tryd.func19 (by kernel_rfl) rfl #[.agg #[.string (⟨#[115,108,111,119]⟩:ByteArray),.int .i64 20,.slice Ao29 y101.length co29],.int .i64 0,.int .i64 0,.int .i64 3000] rfl (by (try simp only [List.map_toArray,List.map_cons,List.map_nil]);first|done|rfl|(simp only [List.length_drop,List.length_take];rfl)) ?_;(with_reducible refine (schedule_Ends.calls k (⟨#[115,108,111,119]⟩:ByteArray) 20 _ _ y101 0 0 3000 t120 true _ ?side1 ?side2 A4.out).mono ?_);(case side1=>repeat (first|exact (Kd.R_reads' HO103.out).2.2|(with_reducible refine Kd.C_alloc ?_ _)|(with_reducible refine Kd.C_drewN ?_ _)|(with_reducible refine Kd.C_drew ?_)));(case side2=>exact (Kd.R_reads' HO103.out).2.1);rintro e w36 ⟨rfl,hb⟩;refine ⟨_,rfl,?_⟩;have n0_:=Aside0.mk (Kd.R_below (by (with_reducible repeat (first|apply Kd.R_alloc|apply Kd.R_drewN|apply Kd.R_drew));exact HO103.out) hb);have n1_:=Aside0.mk (Kd.S_below (by (with_reducible repeat (first|apply Kd.S_alloc|apply Kd.S_drewN|apply Kd.S_drew));exact HO109.out) hb);have n2_:=Aside0.mk (Kd.S_below (by (with_reducible repeat (first|apply Kd.S_alloc|apply Kd.S_drewN|apply Kd.S_drew));exact HO114.out) hb);have n3_:=Aside0.mk (Kd.S_below (by (with_reducible repeat (first|apply Kd.S_alloc|apply Kd.S_drewN|apply Kd.S_drew));exact HO119.out) hb);have n4_:=Aside0.mk (blk_below (g:=gb104) (o:=.cells #[.string (⟨#[115,108,111,119]⟩:ByteArray),.int .i64 20,.slice Ao29 y101.length co29] 24 (0,0)) (by (with_reducible repeat (first|refine blk_drewN ?_ _|refine blk_drew ?_|refine blk_alloc ?_ _));exact BK104.out) hb);have n5_:=Aside0.mk (below_step (by repeat (first|(with_reducible first|exact HB.out|apply below_alloc|apply pw_below_drewN|apply below_drew1|refine below_set ?_ GE104.out)|exact HB.out)) hb);clear HO103;clear HO109;clear HO114;clear HO119;clear BK104;clear HB;have HO103:=n0_;have HO109:=n1_;have HO114:=n2_;have HO119:=n3_;have BK104:=n4_;have HB:=n5_;clear n0_ n1_ n2_ n3_ n4_ n5_;(try clear hb);(try clear hb2);(try clear hk);(try clear hi);have hcz37_0:w36.cell? ⟨gb104,0,none⟩=some (.string (⟨#[115,108,111,119]⟩:ByteArray)):=(blk_cell BK104.out 0).trans rfl;have hcz37_1:w36.cell? ⟨gb104,1,none⟩=some (.int .i64 20):=(blk_cell BK104.out 1).trans rfl;have hcz37_2:w36.cell? ⟨gb104,2,none⟩=some (.slice Ao29 y101.length co29):=(blk_cell BK104.out 2).trans rfl;have hfz37_0:=blk_frozen BK104.out 0;have hfz37_1:=blk_frozen BK104.out 1;have hfz37_2:=blk_frozen BK104.out 2)|((with_reducible refine gate_callee (f:=19) rfl ?_);refine goesL_ (some 44) rfl rfl Tryd.func19 (by kernel_rfl) rfl #[.agg #[.string (⟨#[115,108,111,119]⟩:ByteArray),.int .i64 20,.slice Ao29 y101.length co29],.int .i64 0,.int .i64 99,.int .i64 3001] rfl (by (try simp only [List.map_toArray,List.map_cons,List.map_nil]);first|done|rfl|(simp only [List.length_drop,List.length_take];rfl)) ?_;(with_reducible refine (schedule_Ends.calls k (⟨#[115,108,111,119]⟩:ByteArray) 20 _ _ y101 0 99 3001 t122 false _ ?side1 ?side2 A5.out).mono ?_);(case side1=>repeat (first|exact (Kd.R_reads' HO103.out).2.2|(with_reducible refine Kd.C_alloc ?_ _)|(with_reducible refine Kd.C_drewN ?_ _)|(with_reducible refine Kd.C_drew ?_)));(case side2=>exact (Kd.R_reads' HO103.out).2.1);rintro e w38 ⟨rfl,hb⟩;refine ⟨_,rfl,?_⟩;have n0_:=Aside0.mk (Kd.R_below (by (with_reducible repeat (first|apply Kd.R_alloc|apply Kd.R_drewN|apply Kd.R_drew));exact HO103.out) hb);have n1_:=Aside0.mk (Kd.S_below (by (with_reducible repeat (first|apply Kd.S_alloc|apply Kd.S_drewN|apply Kd.S_drew));exact HO109.out) hb);have n2_:=Aside0.mk (Kd.S_below (by (with_reducible repeat (first|apply Kd.S_alloc|apply Kd.S_drewN|apply Kd.S_drew));exact HO114.out) hb);have n3_:=Aside0.mk (Kd.S_below (by (with_reducible repeat (first|apply Kd.S_alloc|apply Kd.S_drewN|apply Kd.S_drew));exact HO119.out) hb);have n4_:=Aside0.mk (blk_below (g:=gb104) (o:=.cells #[.string (⟨#[115,108,111,119]⟩:ByteArray),.int .i64 20,.slice Ao29 y101.length co29] 24 (0,0)) (by (with_reducible repeat (first|refine blk_drewN ?_ _|refine blk_drew ?_|refine blk_alloc ?_ _));exact BK104.out) hb);have n5_:=Aside0.mk (below_step (by repeat (first|(with_reducible first|exact HB.out|apply below_alloc|apply pw_below_drewN|apply below_drew1|refine below_set ?_ GE104.out)|exact HB.out)) hb);clear HO103;clear HO109;clear HO114;clear HO119;clear BK104;clear HB;have HO103:=n0_;have HO109:=n1_;have HO114:=n2_;have HO119:=n3_;have BK104:=n4_;have HB:=n5_;clear n0_ n1_ n2_ n3_ n4_ n5_;(try clear hb);(try clear hb2);(try clear hk);(try clear hi);have hcz39_0:w38.cell? ⟨gb104,0,none⟩=some (.string (⟨#[115,108,111,119]⟩:ByteArray)):=(blk_cell BK104.out 0).trans rfl;have hcz39_1:w38.cell? ⟨gb104,1,none⟩=some (.int .i64 20):=(blk_cell BK104.out 1).trans rfl;have hcz39_2:w38.cell? ⟨gb104,2,none⟩=some (.slice Ao29 y101.length co29):=(blk_cell BK104.out 2).trans rfl;have hfz39_0:=blk_frozen BK104.out 0;have hfz39_1:=blk_frozen BK104.out 1;have hfz39_2:=blk_frozen BK104.out 2)|((with_reducible refine gate_callee (f:=19) rfl ?_);refine goesL_ (some 49) rfl rfl Tryd.func19 (by kernel_rfl) rfl #[.agg #[.string (⟨#[115,108,111,119]⟩:ByteArray),.int .i64 20,.slice Ao29 y101.length co29],.int .i64 1,.int .i64 400,.int .i64 9000] rfl (by (try simp only [List.map_toArray,List.map_cons,List.map_nil]);first|done|rfl|(simp only [List.length_drop,List.length_take];rfl)) ?_;(with_reducible refine (schedule_Ends.calls k (⟨#[115,108,111,119]⟩:ByteArray) 20 _ _ y101 1 400 9000 t124 true _ ?side1 ?side2 A6.out).mono ?_);(case side1=>repeat (first|exact (Kd.R_reads' HO103.out).2.2|(with_reducible refine Kd.C_alloc ?_ _)|(with_reducible refine Kd.C_drewN ?_ _)|(with_reducible refine Kd.C_drew ?_)));(case side2=>exact (Kd.R_reads' HO103.out).2.1);rintro e w40 ⟨rfl,hb⟩;refine ⟨_,rfl,?_⟩;have n0_:=Aside0.mk (Kd.R_below (by (with_reducible repeat (first|apply Kd.R_alloc|apply Kd.R_drewN|apply Kd.R_drew));exact HO103.out) hb);have n1_:=Aside0.mk (Kd.S_below (by (with_reducible repeat (first|apply Kd.S_alloc|apply Kd.S_drewN|apply Kd.S_drew));exact HO109.out) hb);have n2_:=Aside0.mk (Kd.S_below (by (with_reducible repeat (first|apply Kd.S_alloc|apply Kd.S_drewN|apply Kd.S_drew));exact HO114.out) hb);have n3_:=Aside0.mk (Kd.S_below (by (with_reducible repeat (first|apply Kd.S_alloc|apply Kd.S_drewN|apply Kd.S_drew));exact HO119.out) hb);have n4_:=Aside0.mk (blk_below (g:=gb104) (o:=.cells #[.string (⟨#[115,108,111,119]⟩:ByteArray),.int .i64 20,.slice Ao29 y101.length co29] 24 (0,0)) (by (with_reducible repeat (first|refine blk_drewN ?_ _|refine blk_drew ?_|refine blk_alloc ?_ _));exact BK104.out) hb);have n5_:=Aside0.mk (below_step (by repeat (first|(with_reducible first|exact HB.out|apply below_alloc|apply pw_below_drewN|apply below_drew1|refine below_set ?_ GE104.out)|exact HB.out)) hb);clear HO103;clear HO109;clear HO114;clear HO119;clear BK104;clear HB;have HO103:=n0_;have HO109:=n1_;have HO114:=n2_;have HO119:=n3_;have BK104:=n4_;have HB:=n5_;clear n0_ n1_ n2_ n3_ n4_ n5_;(try clear hb);(try clear hb2);(try clear hk);(try clear hi);have hcz41_0:w40.cell? ⟨gb104,0,none⟩=some (.string (⟨#[115,108,111,119]⟩:ByteArray)):=(blk_cell BK104.out 0).trans rfl;have hcz41_1:w40.cell? ⟨gb104,1,none⟩=some (.int .i64 20):=(blk_cell BK104.out 1).trans rfl;have hcz41_2:w40.cell? ⟨gb104,2,none⟩=some (.slice Ao29 y101.length co29):=(blk_cell BK104.out 2).trans rfl;have hfz41_0:=blk_frozen BK104.out 0;have hfz41_1:=blk_frozen BK104.out 1;have hfz41_2:=blk_frozen BK104.out 2)|((with_reducible refine gate_callee (f:=21) rfl ?_);refine goesL_ (some 54) rfl rfl Tryd.func21 (by kernel_rfl) rfl #[.agg #[.string (⟨#[115,108,111,119]⟩:ByteArray),.int .i64 20,.slice Ao29 y101.length co29],.int .i64 1,.agg #[.string (⟨#[]⟩:ByteArray),.int .i64 0,.int .i64 0,.int .i64 0,.int .i64 0,.int .i64 0,.int .i64 0,.int .i64 550,.int .i64 100,.int .i64 0,.int .i64 0,.int .i64 0,.int .i64 0]] rfl (by (try simp only [List.map_toArray,List.map_cons,List.map_nil]);first|done|rfl|(simp only [List.length_drop,List.length_take];rfl)) ?_;(with_reducible refine (schedule_Target.calls (⟨#[115,108,111,119]⟩:ByteArray) 20 _ _ y101 1 (⟨#[]⟩:ByteArray) 0 0 0 0 0 0 550 100 0 0 0 0 t126 t127 _ ?side1 ?side2 A7.out).mono ?_);(case side1=>repeat (first|exact (Kd.R_reads' HO103.out).2.2|(with_reducible refine Kd.C_alloc ?_ _)|(with_reducible refine Kd.C_drewN ?_ _)|(with_reducible refine Kd.C_drew ?_)));(case side2=>exact (Kd.R_reads' HO103.out).2.1);rintro e w42 ⟨rfl,hb⟩;refine ⟨_,rfl,?_⟩;have n0_:=Aside0.mk (Kd.R_below (by (with_reducible repeat (first|apply Kd.R_alloc|apply Kd.R_drewN|apply Kd.R_drew));exact HO103.out) hb);have n1_:=Aside0.mk (Kd.S_below (by (with_reducible repeat (first|apply Kd.S_alloc|apply Kd.S_drewN|apply Kd.S_drew));exact HO109.out) hb);have n2_:=Aside0.mk (Kd.S_below (by (with_reducible repeat (first|apply Kd.S_alloc|apply Kd.S_drewN|apply Kd.S_drew));exact HO114.out) hb);have n3_:=Aside0.mk (Kd.S_below (by (with_reducible repeat (first|apply Kd.S_alloc|apply Kd.S_drewN|apply Kd.S_drew));exact HO119.out) hb);have n4_:=Aside0.mk (blk_below (g:=gb104) (o:=.cells #[.string (⟨#[115,108,111,119]⟩:ByteArray),.int .i64 20,.slice Ao29 y101.length co29] 24 (0,0)) (by (with_reducible repeat (first|refine blk_drewN ?_ _|refine blk_drew ?_|refine blk_alloc ?_ _));exact BK104.out) hb);have n5_:=Aside0.mk (below_step (by repeat (first|(with_reducible first|exact HB.out|apply below_alloc|apply pw_below_drewN|apply below_drew1|refine below_set ?_ GE104.out)|exact HB.out)) hb);clear HO103;clear HO109;clear HO114;clear HO119;clear BK104;clear HB;have HO103:=n0_;have HO109:=n1_;have HO114:=n2_;have HO119:=n3_;have BK104:=n4_;have HB:=n5_;clear n0_ n1_ n2_ n3_ n4_ n5_;(try clear hb);(try clear hb2);(try clear hk);(try clear hi))|((with_reducible refine gate_dst (N:=17) rfl ?_);(try (refine gate_guard (by rfl) ?_;dsimp only));refine box_event ?hg (N:=17) ?hd (cs:=#[.int .i64 0,.int .i64 0]) (t:=41) ?hr ?_;(case hd=>rfl);(case hg=>rfl);(case hr=>first|(go_simp;done)|(go_simp;rfl));intro gb128 hg w43 hbox hb;have n0_:=Aside0.mk (Kd.R_below (by (with_reducible repeat (first|apply Kd.R_alloc|apply Kd.R_drewN|apply Kd.R_drew));exact HO103.out) hb);have n1_:=Aside0.mk (Kd.S_below (by (with_reducible repeat (first|apply Kd.S_alloc|apply Kd.S_drewN|apply Kd.S_drew));exact HO109.out) hb);have n2_:=Aside0.mk (Kd.S_below (by (with_reducible repeat (first|apply Kd.S_alloc|apply Kd.S_drewN|apply Kd.S_drew));exact HO114.out) hb);have n3_:=Aside0.mk (Kd.S_below (by (with_reducible repeat (first|apply Kd.S_alloc|apply Kd.S_drewN|apply Kd.S_drew));exact HO119.out) hb);have n4_:=Aside0.mk (blk_below (g:=gb104) (o:=.cells #[.string (⟨#[115,108,111,119]⟩:ByteArray),.int .i64 20,.slice Ao29 y101.length co29] 24 (0,0)) (by (with_reducible repeat (first|refine blk_drewN ?_ _|refine blk_drew ?_|refine blk_alloc ?_ _));exact BK104.out) hb);have n5_:=Aside0.mk (below_step (by repeat (first|(with_reducible first|exact HB.out|apply below_alloc|apply pw_below_drewN|apply below_drew1|refine below_set ?_ GE104.out)|exact HB.out)) hb);have n6_:=Aside0.mk (hbox);have n7_:=Aside0.mk ((by rw [hg];exact (below_size (by repeat (first|(with_reducible first|exact HB.out|apply below_alloc|apply pw_below_drewN|apply below_drew1|refine below_set ?_ GE104.out)|exact HB.out))):w.heap.size≤gb128));have n8_:=Aside0.mk ((by rw [hg];exact (below_size (by repeat (first|(with_reducible first|exact HB.out|apply below_alloc|apply pw_below_drewN|apply below_drew1|refine below_set ?_ GE104.out)|exact HB.out))):w.heap.size≤gb128));have n9_:=Aside0.mk ((by rw [hg];exact Nat.ne_of_lt (blk_lt (g:=gb104) (o:=.cells #[.string (⟨#[115,108,111,119]⟩:ByteArray),.int .i64 20,.slice Ao29 y101.length co29] 24 (0,0)) (by (with_reducible repeat (first|refine blk_drewN ?_ _|refine blk_drew ?_|refine blk_alloc ?_ _));exact BK104.out)):gb104 ≠ gb128));have n10_:=Aside0.mk ((by rw [hg];exact Nat.ne_of_gt (blk_lt (g:=gb104) (o:=.cells #[.string (⟨#[115,108,111,119]⟩:ByteArray),.int .i64 20,.slice Ao29 y101.length co29] 24 (0,0)) (by (with_reducible repeat (first|refine blk_drewN ?_ _|refine blk_drew ?_|refine blk_alloc ?_ _));exact BK104.out)):gb128 ≠ gb104));clear HO103;clear HO109;clear HO114;clear HO119;clear BK104;clear HB;have HO103:=n0_;have HO109:=n1_;have HO114:=n2_;have HO119:=n3_;have BK104:=n4_;have HB:=n5_;have BK128:=n6_;have GW128:=n7_;have GE128:=n8_;have NB104_128:=n9_;have NB128_104:=n10_;clear n0_ n1_ n2_ n3_ n4_ n5_ n6_ n7_ n8_ n9_ n10_;clear hb hbox hg;have hnb44:=NB128_104.out;have hnc44:=NB104_128.out;have hcz45_0:w43.cell? ⟨gb128,0,none⟩=some (.int .i64 0):=(blk_cell BK128.out 0).trans rfl;have hcz45_1:w43.cell? ⟨gb128,1,none⟩=some (.int .i64 0):=(blk_cell BK128.out 1).trans rfl;have hfz45_0:=blk_frozen BK128.out 0;have hfz45_1:=blk_frozen BK128.out 1))
                 have n0_:Aside0 (Kd.R k52 52 ((w43.setCell ⟨gb128,0,none⟩ (.int .i64 t126)).setCell ⟨gb128,1,none⟩ (.int .i64 t127)) w.heap.size (fun _=>True) (.slice Ao29 y101.length co29) y101):=⟨by (with_reducible repeat (first|apply Kd.R_alloc|apply Kd.R_drewN|apply Kd.R_drew));exact Kd.R_mono (Kd.R_far (p:=⟨gb128,1,none⟩) (Kd.R_far (p:=⟨gb128,0,none⟩) (Kd.R_types HO103.out BK128.out (by decide)) (fun _ hk=>hk.2) (.int .i64 t126)) (fun _ hk=>hk.2) (.int .i64 t127)) (fun _ hk=>trivial)⟩
                 have n1_:Aside0 (Kd.S k24 24 ((w43.setCell ⟨gb128,0,none⟩ (.int .i64 t126)).setCell ⟨gb128,1,none⟩ (.int .i64 t127)) w.heap.size (fun k_=>some k_ ≠ (.slice Ao29 y101.length co29:Value).ownBlock∧some k_ ≠ (v113:Value).ownBlock∧some k_ ≠ (v118:Value).ownBlock∧k_ ≠ gb104) v108 t105):=⟨by (with_reducible repeat (first|apply Kd.S_alloc|apply Kd.S_drewN|apply Kd.S_drew));exact Kd.S_mono (Kd.S_far (p:=⟨gb128,1,none⟩) (Kd.S_far (p:=⟨gb128,0,none⟩) (Kd.S_types HO109.out BK128.out (by decide)) (fun _ hk=>hk.2) (.int .i64 t126)) (fun _ hk=>hk.2) (.int .i64 t127)) (fun _ hk=>⟨hk.1.1.1.1.2,⟨hk.1.1.2,⟨hk.1.2,hk.1.1.1.2⟩⟩⟩)⟩
                 have n2_:Aside0 (Kd.S k24 24 ((w43.setCell ⟨gb128,0,none⟩ (.int .i64 t126)).setCell ⟨gb128,1,none⟩ (.int .i64 t127)) w.heap.size (fun k_=>some k_ ≠ (.slice Ao29 y101.length co29:Value).ownBlock∧some k_ ≠ (v108:Value).ownBlock∧some k_ ≠ (v118:Value).ownBlock∧k_ ≠ gb104) v113 t110):=⟨by (with_reducible repeat (first|apply Kd.S_alloc|apply Kd.S_drewN|apply Kd.S_drew));exact Kd.S_mono (Kd.S_far (p:=⟨gb128,1,none⟩) (Kd.S_far (p:=⟨gb128,0,none⟩) (Kd.S_types HO114.out BK128.out (by decide)) (fun _ hk=>hk.2) (.int .i64 t126)) (fun _ hk=>hk.2) (.int .i64 t127)) (fun _ hk=>⟨hk.1.1.1.1.2,⟨hk.1.1.1.2,⟨hk.1.2,hk.1.1.2⟩⟩⟩)⟩
                 have n3_:Aside0 (Kd.S k24 24 ((w43.setCell ⟨gb128,0,none⟩ (.int .i64 t126)).setCell ⟨gb128,1,none⟩ (.int .i64 t127)) w.heap.size (fun k_=>some k_ ≠ (.slice Ao29 y101.length co29:Value).ownBlock∧some k_ ≠ (v108:Value).ownBlock∧some k_ ≠ (v113:Value).ownBlock∧k_ ≠ gb104) v118 t115):=⟨by (with_reducible repeat (first|apply Kd.S_alloc|apply Kd.S_drewN|apply Kd.S_drew));exact Kd.S_mono (Kd.S_far (p:=⟨gb128,1,none⟩) (Kd.S_far (p:=⟨gb128,0,none⟩) (Kd.S_types HO119.out BK128.out (by decide)) (fun _ hk=>hk.2) (.int .i64 t126)) (fun _ hk=>hk.2) (.int .i64 t127)) (fun _ hk=>⟨hk.1.1.1.1.2,⟨hk.1.1.1.2,⟨hk.1.1.2,hk.1.2⟩⟩⟩)⟩
                 have n4_:Aside0 (((w43.setCell ⟨gb128,0,none⟩ (.int .i64 t126)).setCell ⟨gb128,1,none⟩ (.int .i64 t127)).heap[gb104]?=some (.cells #[.string (⟨#[115,108,111,119]⟩:ByteArray),.int .i64 20,.slice Ao29 y101.length co29] 24 (0,0))):=⟨by (with_reducible repeat (first|refine blk_drewN ?_ _|refine blk_drew ?_|refine blk_alloc ?_ _));refine blk_far ?_ NB104_128.out _;(with_reducible repeat (first|refine blk_drewN ?_ _|refine blk_drew ?_|refine blk_alloc ?_ _));refine blk_far ?_ NB104_128.out _;(with_reducible repeat (first|refine blk_drewN ?_ _|refine blk_drew ?_|refine blk_alloc ?_ _));exact BK104.out⟩
                 have n5_:Aside0 (((w43.setCell ⟨gb128,0,none⟩ (.int .i64 t126)).setCell ⟨gb128,1,none⟩ (.int .i64 t127)).heap[gb128]?=some (.cells #[.int .i64 t126,.int .i64 t127] 41 (0,0))):=⟨by (with_reducible repeat (first|refine blk_drewN ?_ _|refine blk_drew ?_|refine blk_alloc ?_ _));refine blk_put (cs:=#[.int .i64 t126,.int .i64 0]) ?_ 1 _ rfl;(with_reducible repeat (first|refine blk_drewN ?_ _|refine blk_drew ?_|refine blk_alloc ?_ _));refine blk_put (cs:=#[.int .i64 0,.int .i64 0]) ?_ 0 _ rfl;(with_reducible repeat (first|refine blk_drewN ?_ _|refine blk_drew ?_|refine blk_alloc ?_ _));exact BK128.out⟩
                 have n6_:Aside0 (Below w.heap.size w ((w43.setCell ⟨gb128,0,none⟩ (.int .i64 t126)).setCell ⟨gb128,1,none⟩ (.int .i64 t127))):=⟨by repeat (first|(with_reducible first|exact HB.out|apply below_alloc|apply pw_below_drewN|apply below_drew1|refine below_set ?_ GE104.out|refine below_set ?_ GE128.out)|exact HB.out)⟩
                 (try clear HO103)
                 (try clear HO109)
                 (try clear HO114)
                 (try clear HO119)
                 (try clear BK104)
                 (try clear BK128)
                 (try clear HB)
                 generalize ((w43.setCell ⟨gb128,0,none⟩ (.int .i64 t126)).setCell ⟨gb128,1,none⟩ (.int .i64 t127))=w46 at n0_ n1_ n2_ n3_ n4_ n5_ n6_ ⊢
                 have HO103:=n0_
                 have HO109:=n1_
                 have HO114:=n2_
                 have HO119:=n3_
                 have BK104:=n4_
                 have BK128:=n5_
                 have HB:=n6_
                 clear n0_ n1_ n2_ n3_ n4_ n5_ n6_
                 have n0_:=Aside0.mk (Kd.R_drew HO103.out)
                 have n1_:=Aside0.mk (Kd.S_drew HO109.out)
                 have n2_:=Aside0.mk (Kd.S_drew HO114.out)
                 have n3_:=Aside0.mk (Kd.S_drew HO119.out)
                 have n4_:=Aside0.mk (blk_drew BK104.out)
                 have n5_:=Aside0.mk (blk_drew BK128.out)
                 have n6_:=Aside0.mk (below_drew1 HB.out)
                 clear HO103
                 clear HO109
                 clear HO114
                 clear HO119
                 clear BK104
                 clear BK128
                 clear HB
                 have HO103:=n0_
                 have HO109:=n1_
                 have HO114:=n2_
                 have HO119:=n3_
                 have BK104:=n4_
                 have BK128:=n5_
                 have HB:=n6_
                 clear n0_ n1_ n2_ n3_ n4_ n5_ n6_
                 obtain ⟨Ao48,co48,eo48⟩:=Kd.S_slice HO109.out
                 (first|subst eo48|(injection eo48 with f1_ f2_ f3_;have f4_:=f1_.symm;have f5_:=f3_.symm;clear f1_ f2_ f3_;subst f4_;subst f5_))
                 have p129:0≤(0:Int):=(by omega)
                 have q129:0 < (t105.length:Int):=of_decide_eq_true (by first|(with_reducible assumption)|assumption)
                 obtain ⟨ad129,A129_2,c129_2,e129,hx129_0,hx129_1,hx129_2,hl129_2,hi129_2⟩:=at_T24 (Kd.S_reads' HO109.out).2.2 0 p129 q129
                 cases e129
                 obtain ⟨ce129,hce129,hMe129,hcc129⟩:=Kd.S_get HO109.out z24 0 p129 (by first|exact q129|exact of_decide_eq_true (by first|(with_reducible assumption)|assumption)|(have e_:=(Kd.S_reads' HO109.out).1;omega))
                 obtain ⟨ve129_2,rfl,ge129_2⟩:=k24_openM hMe129
                 have hv129_2:=hcc129 2 _ rfl
                 rw [add_field _ _ 2 (by omega)] at hv129_2
                 replace hv129_2:=Option.some.inj (hv129_2.symm.trans hx129_2)
                 rw [hv129_2] at ge129_2
                 have HL129_2:=Aside0.mk (show Kd.R k52 52 _ _ _ _ ((rd_T24 t105 0).f2) from ge129_2)
                 clear hv129_2 ge129_2
                 clear hcc129 hce129
                 have qi129:(0 < t105.length)=True:=eq_true (by omega)
                 (try rw [show ((0:Int)).toNat=0 from rfl] at hx129_0)
                 (try rw [show 0 * 3=0 from rfl] at hx129_0)
                 (try rw [Addr.add_zero'] at hx129_0)
                 (try rw [show ((0:Int)).toNat=0 from rfl] at hx129_1)
                 (try rw [show 0 * 3=0 from rfl] at hx129_1)
                 (try rw [Addr.add_zero'] at hx129_1)
                 (try rw [show ((0:Int)).toNat=0 from rfl] at hx129_2)
                 (try rw [show 0 * 3=0 from rfl] at hx129_2)
                 (try rw [Addr.add_zero'] at hx129_2)
                 have HR129_2:=Aside0.mk hi129_2
                 have HC129_2:=Aside0.mk hl129_2
                 clear hi129_2 hl129_2
                 replace p129:=eq_true p129
                 replace q129:=eq_true q129
                 refine start_ (n:=68) (S:=fun w'=>w'.cell? ⟨gb104,0,none⟩=some (.string (⟨#[115,108,111,119]⟩:ByteArray))∧w'.cell? ⟨gb104,1,none⟩=some (.int .i64 20)∧w'.cell? ⟨gb104,2,none⟩=some (.slice Ao29 y101.length co29)∧w'.cell? ⟨gb128,0,none⟩=some (.int .i64 t126)∧w'.cell? ⟨gb128,1,none⟩=some (.int .i64 t127)∧w'.cell? ad129=some (.string ((rd_T24 t105 0).f0))∧w'.cell? ⟨ad129.block,ad129.off+1,none⟩=some (.int .i64 ((rd_T24 t105 0).f1))∧w'.cell? ⟨ad129.block,ad129.off+2,none⟩=some (.slice A129_2 ((rd_T24 t105 0).f2).length c129_2)) (ds:=[]) #[false,false,false,false,false,false,false,false,false,false,false,false,false,false,false,false,false,false,false,false,false,false,false,false,false,false,false,false,false,false,false,false,false,false,false,false,false,false,false,false,false,false,false,false,false,false,false,false,false,false,false,false,false,false,false,false,false,false,false,false,false,false,false,false,false,false,false,false] (by kernel_rfl) rfl rfl ⟨(blk_cell BK104.out 0).trans rfl,(blk_cell BK104.out 1).trans rfl,(blk_cell BK104.out 2).trans rfl,(blk_cell BK128.out 0).trans rfl,(blk_cell BK128.out 1).trans rfl,hx129_0,hx129_1,hx129_2⟩ (fun hHeld=>?_);refine with_tabW sawmilllaw37_awake.tab9 sawmilllaw37_awake.bits9 (fun HT_ HW_=>?_)
                 generalize w46.drew=w47 at HO103 HO109 HO114 HO119 BK104 BK128 HB HL129_2 HR129_2 hx129_0 hx129_1 hx129_2 hHeld ⊢
                 refine pure_ (i:=0) (N:=some 55) (v:=?_) (a':=?_) #[true,false,false,false,false,false,false,false,false,false,false,false,false,false,false,false,false,false,false,false,false,false,false,false,false,false,false,false,false,false,false,false,false,false,false,false,false,false,false,false,false,false,false,false,false,false,false,false,false,false,false,false,false,false,false,false,false,false,false,false,false,false,false,false,false,false,false,false] rfl rfl (any_of HT_.out (by kernel_rfl)) (fun _ _ _ h=>h) (Or.inl ⟨by rfl,?_⟩) ?_ ?_
                 rotate_left
                 ·intro w'
                  go_simp
                  with_reducible rfl
                 rotate_left
                 ·simp only [Act.put,List.setIfInBounds_toArray,List.set_cons_zero,List.set_cons_succ,i64_w,i32_w]
                  rfl
                 refine pure_ (i:=1) (N:=some 56) (v:=?_) (a':=?_) #[true,true,false,false,false,false,false,false,false,false,false,false,false,false,false,false,false,false,false,false,false,false,false,false,false,false,false,false,false,false,false,false,false,false,false,false,false,false,false,false,false,false,false,false,false,false,false,false,false,false,false,false,false,false,false,false,false,false,false,false,false,false,false,false,false,false,false,false] rfl rfl (any_of HT_.out (by kernel_rfl)) (fun _ _ _ h=>h) (Or.inl ⟨by rfl,?_⟩) ?_ ?_
                 rotate_left
                 ·intro w'
                  go_simp
                  with_reducible rfl
                 rotate_left
                 ·simp only [Act.put,List.setIfInBounds_toArray,List.set_cons_zero,List.set_cons_succ,i64_w,i32_w]
                  rfl
                 refine pure_ (i:=2) (N:=some 57) (v:=?_) (a':=?_) #[true,true,true,false,false,false,false,false,false,false,false,false,false,false,false,false,false,false,false,false,false,false,false,false,false,false,false,false,false,false,false,false,false,false,false,false,false,false,false,false,false,false,false,false,false,false,false,false,false,false,false,false,false,false,false,false,false,false,false,false,false,false,false,false,false,false,false,false] rfl rfl (any_of HT_.out (by kernel_rfl)) (fun _ _ _ h=>h) (Or.inl ⟨by rfl,?_⟩) ?_ ?_
                 rotate_left
                 ·intro w'
                  go_simp
                  with_reducible rfl
                 rotate_left
                 ·simp only [Act.put,List.setIfInBounds_toArray,List.set_cons_zero,List.set_cons_succ,i64_w,i32_w]
                  rfl
                 refine pure_ (i:=3) (N:=some 58) (v:=?_) (a':=?_) #[true,true,true,true,false,false,false,false,false,false,false,false,false,false,false,false,false,false,false,false,false,false,false,false,false,false,false,false,false,false,false,false,false,false,false,false,false,false,false,false,false,false,false,false,false,false,false,false,false,false,false,false,false,false,false,false,false,false,false,false,false,false,false,false,false,false,false,false] rfl rfl (any_of HT_.out (by kernel_rfl)) (fun _ _ _ h=>h) (Or.inl ⟨by rfl,?_⟩) ?_ ?_
                 rotate_left
                 ·intro w'
                  go_simp
                  with_reducible rfl
                 rotate_left
                 ·simp only [Act.put,List.setIfInBounds_toArray,List.set_cons_zero,List.set_cons_succ,i64_w,i32_w]
                  rfl
                 refine pure_ (i:=4) (N:=some 59) (v:=?_) (a':=?_) #[true,true,true,true,true,false,false,false,false,false,false,false,false,false,false,false,false,false,false,false,false,false,false,false,false,false,false,false,false,false,false,false,false,false,false,false,false,false,false,false,false,false,false,false,false,false,false,false,false,false,false,false,false,false,false,false,false,false,false,false,false,false,false,false,false,false,false,false] rfl rfl (any_of HT_.out (by kernel_rfl)) (fun _ _ _ h=>h) (Or.inl ⟨by rfl,?_⟩) ?_ ?_
                 rotate_left
                 ·intro w'
                  go_simp
                  with_reducible rfl
                 rotate_left
                 ·simp only [Act.put,List.setIfInBounds_toArray,List.set_cons_zero,List.set_cons_succ,i64_w,i32_w]
                  rfl
                 refine pure_ (i:=5) (N:=some 60) (v:=?_) (a':=?_) #[true,true,true,true,true,true,false,false,false,false,false,false,false,false,false,false,false,false,false,false,false,false,false,false,false,false,false,false,false,false,false,false,false,false,false,false,false,false,false,false,false,false,false,false,false,false,false,false,false,false,false,false,false,false,false,false,false,false,false,false,false,false,false,false,false,false,false,false] rfl rfl (any_of HT_.out (by kernel_rfl)) (fun _ _ _ h=>h) (Or.inl ⟨by rfl,?_⟩) ?_ ?_
                 rotate_left
                 ·intro w'
                  go_simp
                  with_reducible rfl
                 rotate_left
                 ·simp only [Act.put,List.setIfInBounds_toArray,List.set_cons_zero,List.set_cons_succ,i64_w,i32_w]
                  rfl
                 refine pure_ (i:=6) (N:=some 61) (v:=?_) (a':=?_) #[true,true,true,true,true,true,true,false,false,false,false,false,false,false,false,false,false,false,false,false,false,false,false,false,false,false,false,false,false,false,false,false,false,false,false,false,false,false,false,false,false,false,false,false,false,false,false,false,false,false,false,false,false,false,false,false,false,false,false,false,false,false,false,false,false,false,false,false] rfl rfl (any_of HT_.out (by kernel_rfl)) (fun _ _ _ h=>h) (Or.inl ⟨by rfl,?_⟩) ?_ ?_
                 rotate_left
                 ·intro w'
                  go_simp
                  with_reducible rfl
                 rotate_left
                 ·simp only [Act.put,List.setIfInBounds_toArray,List.set_cons_zero,List.set_cons_succ,i64_w,i32_w]
                  rfl
                 refine pure_ (i:=7) (N:=some 62) (v:=?_) (a':=?_) #[true,true,true,true,true,true,true,true,false,false,false,false,false,false,false,false,false,false,false,false,false,false,false,false,false,false,false,false,false,false,false,false,false,false,false,false,false,false,false,false,false,false,false,false,false,false,false,false,false,false,false,false,false,false,false,false,false,false,false,false,false,false,false,false,false,false,false,false] rfl rfl (any_of HT_.out (by kernel_rfl)) (fun _ _ _ h=>h) (Or.inl ⟨by rfl,?_⟩) ?_ ?_
                 rotate_left
                 ·intro w'
                  go_simp
                  with_reducible rfl
                 rotate_left
                 ·simp only [Act.put,List.setIfInBounds_toArray,List.set_cons_zero,List.set_cons_succ,i64_w,i32_w]
                  rfl
                 refine pure_ (i:=8) (N:=some 63) (v:=?_) (a':=?_) #[true,true,true,true,true,true,true,true,true,false,false,false,false,false,false,false,false,false,false,false,false,false,false,false,false,false,false,false,false,false,false,false,false,false,false,false,false,false,false,false,false,false,false,false,false,false,false,false,false,false,false,false,false,false,false,false,false,false,false,false,false,false,false,false,false,false,false,false] rfl rfl (any_of HT_.out (by kernel_rfl)) (fun _ _ _ h=>h) (Or.inl ⟨by rfl,?_⟩) ?_ ?_
                 rotate_left
                 ·intro w'
                  go_simp
                  with_reducible rfl
                 rotate_left
                 ·simp only [Act.put,List.setIfInBounds_toArray,List.set_cons_zero,List.set_cons_succ,i64_w,i32_w]
                  rfl
                 refine pure_ (i:=9) (N:=some 64) (v:=?_) (a':=?_) #[true,true,true,true,true,true,true,true,true,true,false,false,false,false,false,false,false,false,false,false,false,false,false,false,false,false,false,false,false,false,false,false,false,false,false,false,false,false,false,false,false,false,false,false,false,false,false,false,false,false,false,false,false,false,false,false,false,false,false,false,false,false,false,false,false,false,false,false] rfl rfl (any_of HT_.out (by kernel_rfl)) (fun _ _ _ h=>h) (Or.inl ⟨by rfl,?_⟩) ?_ ?_
                 rotate_left
                 ·intro w'
                  go_simp
                  with_reducible rfl
                 rotate_left
                 ·simp only [Act.put,List.setIfInBounds_toArray,List.set_cons_zero,List.set_cons_succ,i64_w,i32_w]
                  rfl
                 refine take_ (i:=10) (N:=some 65) (v:=?_) (a':=?_) #[true,true,true,true,true,true,true,true,true,true,true,false,false,false,false,false,false,false,false,false,false,false,false,false,false,false,false,false,false,false,false,false,false,false,false,false,false,false,false,false,false,false,false,false,false,false,false,false,false,false,false,false,false,false,false,false,false,false,false,false,false,false,false,false,false,false,false,false] rfl rfl (take_ofW HT_.out HW_.out (by kernel_rfl)) (fun _ _ _ h=>h) (Or.inl ⟨by rfl,?_⟩) hHeld ?_ ?_
                 rotate_left
                 ·rintro w' ⟨s0,s1,s2,s3,s4,s5,s6,s7⟩
                  go_simp
                  with_reducible rfl
                 rotate_left
                 ·simp only [Act.put,List.setIfInBounds_toArray,List.set_cons_zero,List.set_cons_succ,i64_w,i32_w]
                  rfl
                 refine take_ (i:=11) (N:=some 66) (v:=?_) (a':=?_) #[true,true,true,true,true,true,true,true,true,true,true,true,false,false,false,false,false,false,false,false,false,false,false,false,false,false,false,false,false,false,false,false,false,false,false,false,false,false,false,false,false,false,false,false,false,false,false,false,false,false,false,false,false,false,false,false,false,false,false,false,false,false,false,false,false,false,false,false] rfl rfl (take_ofW HT_.out HW_.out (by kernel_rfl)) (fun _ _ _ h=>h) (Or.inl ⟨by rfl,?_⟩) hHeld ?_ ?_
                 rotate_left
                 ·rintro w' ⟨s0,s1,s2,s3,s4,s5,s6,s7⟩
                  go_simp
                  with_reducible rfl
                 rotate_left
                 ·simp only [Act.put,List.setIfInBounds_toArray,List.set_cons_zero,List.set_cons_succ,i64_w,i32_w]
                  rfl
                 refine one_ (i:=12) (N:=some 67) #[true,true,true,true,true,true,true,true,true,true,true,true,true,false,false,false,false,false,false,false,false,false,false,false,false,false,false,false,false,false,false,false,false,false,false,false,false,false,false,false,false,false,false,false,false,false,false,false,false,false,false,false,false,false,false,false,false,false,false,false,false,false,false,false,false,false,false,false] rfl rfl (one_of HT_.out (by kernel_rfl)) (by decide) (fun K hK=>?_)
                 refine goes_ Tryd.func18 (by kernel_rfl) rfl #[.agg #[.string ((rd_T24 t105 0).f0),.int .i64 ((rd_T24 t105 0).f1),.slice A129_2 ((rd_T24 t105 0).f2).length c129_2],.agg #[.string (⟨#[115,108,111,119]⟩:ByteArray),.int .i64 20,.slice Ao29 y101.length co29]] (by rfl) rfl rfl (by (try simp only [List.map_toArray,List.map_cons,List.map_nil]);first|done|rfl|(simp only [List.length_drop,List.length_take];rfl)) ?_
                 with_reducible refine (sawmillref37_SameSchedule.calls k ((rd_T24 t105 0).f0) ((rd_T24 t105 0).f1) _ _ ((rd_T24 t105 0).f2) (⟨#[115,108,111,119]⟩:ByteArray) 20 _ _ y101 true _ ?side1 ?side2 ?side3 ?side4 A11.out).mono ?_
                 (case side1=>repeat (first|exact (by repeat (first|(with_reducible exact HR129_2.out)|(with_reducible refine Kd.C_alloc ?_ _)|(with_reducible refine Kd.C_drewN ?_ _)|(with_reducible refine Kd.C_drew ?_)|exact HR129_2.out))|(with_reducible refine Kd.C_alloc ?_ _)|(with_reducible refine Kd.C_drewN ?_ _)|(with_reducible refine Kd.C_drew ?_)))
                 (case side2=>exact HC129_2.out)
                 (case side3=>repeat (first|exact (Kd.R_reads' HO103.out).2.2|(with_reducible refine Kd.C_alloc ?_ _)|(with_reducible refine Kd.C_drewN ?_ _)|(with_reducible refine Kd.C_drew ?_)))
                 (case side4=>exact (Kd.R_reads' HO103.out).2.1)
                 rintro e w49 ⟨rfl,hb⟩
                 have HS5_:=(hb.cell (World.block_lt_of_cell? _ _ (hHeld.2.2.2.2.2.1))).trans (hHeld.2.2.2.2.2.1)
                 have HS6_:=(hb.cell (World.block_lt_of_cell? _ _ (hHeld.2.2.2.2.2.2.1))).trans (hHeld.2.2.2.2.2.2.1)
                 have HS7_:=(hb.cell (World.block_lt_of_cell? _ _ (hHeld.2.2.2.2.2.2.2))).trans (hHeld.2.2.2.2.2.2.2)
                 refine ⟨_,rfl,?_⟩
                 have n0_:=Aside0.mk (Kd.R_below (by (with_reducible repeat (first|apply Kd.R_alloc|apply Kd.R_drewN|apply Kd.R_drew));exact HO103.out) hb)
                 have n1_:=Aside0.mk (Kd.S_below (by (with_reducible repeat (first|apply Kd.S_alloc|apply Kd.S_drewN|apply Kd.S_drew));exact HO109.out) hb)
                 have n2_:=Aside0.mk (Kd.S_below (by (with_reducible repeat (first|apply Kd.S_alloc|apply Kd.S_drewN|apply Kd.S_drew));exact HO114.out) hb)
                 have n3_:=Aside0.mk (Kd.S_below (by (with_reducible repeat (first|apply Kd.S_alloc|apply Kd.S_drewN|apply Kd.S_drew));exact HO119.out) hb)
                 have n4_:=Aside0.mk (Kd.R_below (by (with_reducible repeat (first|apply Kd.R_alloc|apply Kd.R_drewN|apply Kd.R_drew));exact HL129_2.out) hb)
                 have n5_:=Aside0.mk (blk_below (g:=gb104) (o:=.cells #[.string (⟨#[115,108,111,119]⟩:ByteArray),.int .i64 20,.slice Ao29 y101.length co29] 24 (0,0)) (by (with_reducible repeat (first|refine blk_drewN ?_ _|refine blk_drew ?_|refine blk_alloc ?_ _));exact BK104.out) hb)
                 have n6_:=Aside0.mk (blk_below (g:=gb128) (o:=.cells #[.int .i64 t126,.int .i64 t127] 41 (0,0)) (by (with_reducible repeat (first|refine blk_drewN ?_ _|refine blk_drew ?_|refine blk_alloc ?_ _));exact BK128.out) hb)
                 have n7_:=Aside0.mk (Kd.C_below (by repeat (first|(with_reducible exact HR129_2.out)|(with_reducible refine Kd.C_alloc ?_ _)|(with_reducible refine Kd.C_drewN ?_ _)|(with_reducible refine Kd.C_drew ?_)|exact HR129_2.out)) hb)
                 have n8_:=Aside0.mk (below_step (by repeat (first|(with_reducible first|exact HB.out|apply below_alloc|apply pw_below_drewN|apply below_drew1|refine below_set ?_ GE104.out|refine below_set ?_ GE128.out)|exact HB.out)) hb)
                 clear HO103
                 clear HO109
                 clear HO114
                 clear HO119
                 clear HL129_2
                 clear BK104
                 clear BK128
                 clear HR129_2
                 clear HB
                 have HO103:=n0_
                 have HO109:=n1_
                 have HO114:=n2_
                 have HO119:=n3_
                 have HL129_2:=n4_
                 have BK104:=n5_
                 have BK128:=n6_
                 have HR129_2:=n7_
                 have HB:=n8_
                 clear n0_ n1_ n2_ n3_ n4_ n5_ n6_ n7_ n8_
                 (try clear hb)
                 (try clear hb2)
                 (try clear hk)
                 (try clear hi)
                 refine hK.out _ _ ⟨(blk_cell BK104.out 0).trans rfl,(blk_cell BK104.out 1).trans rfl,(blk_cell BK104.out 2).trans rfl,(blk_cell BK128.out 0).trans rfl,(blk_cell BK128.out 1).trans rfl,HS5_,HS6_,HS7_⟩ (fun hHeld=>?_)
                 clear hK K
                 refine norm_ (a':=?_) ?_ ?_
                 rotate_left
                 ·show Act.put _ (some 67) _=_
                  simp only [Act.put,List.setIfInBounds_toArray,List.set_cons_zero,List.set_cons_succ,i64_w,i32_w]
                  rfl
                 refine pure_ (i:=13) (N:=some 68) (v:=?_) (a':=?_) #[true,true,true,true,true,true,true,true,true,true,true,true,true,true,false,false,false,false,false,false,false,false,false,false,false,false,false,false,false,false,false,false,false,false,false,false,false,false,false,false,false,false,false,false,false,false,false,false,false,false,false,false,false,false,false,false,false,false,false,false,false,false,false,false,false,false,false,false] rfl rfl (any_of HT_.out (by kernel_rfl)) (fun _ _ _ h=>h) (Or.inl ⟨by rfl,?_⟩) ?_ ?_
                 rotate_left
                 ·intro w'
                  go_simp
                  with_reducible rfl
                 rotate_left
                 ·simp only [Act.put,List.setIfInBounds_toArray,List.set_cons_zero,List.set_cons_succ,i64_w,i32_w]
                  rfl
                 refine pure_ (i:=14) (N:=some 69) (v:=?_) (a':=?_) #[true,true,true,true,true,true,true,true,true,true,true,true,true,true,true,false,false,false,false,false,false,false,false,false,false,false,false,false,false,false,false,false,false,false,false,false,false,false,false,false,false,false,false,false,false,false,false,false,false,false,false,false,false,false,false,false,false,false,false,false,false,false,false,false,false,false,false,false] rfl rfl (any_of HT_.out (by kernel_rfl)) (fun _ _ _ h=>h) (Or.inl ⟨by rfl,?_⟩) ?_ ?_
                 rotate_left
                 ·intro w'
                  go_simp
                  with_reducible rfl
                 rotate_left
                 ·simp only [Act.put,List.setIfInBounds_toArray,List.set_cons_zero,List.set_cons_succ,i64_w,i32_w]
                  rfl
                 refine pure_ (i:=15) (N:=some 70) (v:=?_) (a':=?_) #[true,true,true,true,true,true,true,true,true,true,true,true,true,true,true,true,false,false,false,false,false,false,false,false,false,false,false,false,false,false,false,false,false,false,false,false,false,false,false,false,false,false,false,false,false,false,false,false,false,false,false,false,false,false,false,false,false,false,false,false,false,false,false,false,false,false,false,false] rfl rfl (any_of HT_.out (by kernel_rfl)) (fun _ _ _ h=>h) (Or.inl ⟨by rfl,?_⟩) ?_ ?_
                 rotate_left
                 ·intro w'
                  go_simp
                  with_reducible rfl
                 rotate_left
                 ·simp only [Act.put,List.setIfInBounds_toArray,List.set_cons_zero,List.set_cons_succ,i64_w,i32_w]
                  rfl
                 refine one_ (i:=16) (N:=some 71) #[true,true,true,true,true,true,true,true,true,true,true,true,true,true,true,true,true,false,false,false,false,false,false,false,false,false,false,false,false,false,false,false,false,false,false,false,false,false,false,false,false,false,false,false,false,false,false,false,false,false,false,false,false,false,false,false,false,false,false,false,false,false,false,false,false,false,false,false] rfl rfl (one_of HT_.out (by kernel_rfl)) (by decide) (fun K hK=>?_)
                 refine goes_ Tryd.func23 (by kernel_rfl) rfl #[.slice (some ad129) t105.length co48] (by rfl) rfl rfl (by (try simp only [List.map_toArray,List.map_cons,List.map_nil]);first|done|rfl|(simp only [List.length_drop,List.length_take];rfl)) ?_
                 with_reducible refine (schedule_Format.calls _ _ t105 t131 _ ?side1 ?side2 A13.out (glob_at HG_ (by repeat (first|(with_reducible first|exact HB.out|apply below_alloc|apply pw_below_drewN|apply below_drew1|refine below_set ?_ (Aside0.out (by assumption)))|exact HB.out)))).mono ?_
                 (case side1=>repeat (first|exact (Kd.S_reads' HO109.out).2.2|(with_reducible refine Kd.C_alloc ?_ _)|(with_reducible refine Kd.C_drewN ?_ _)|(with_reducible refine Kd.C_drew ?_)))
                 (case side2=>exact (Kd.S_reads' HO109.out).2.1)
                 rintro e w50 ⟨rfl,hb⟩
                 have HS5_:=(hb.cell (World.block_lt_of_cell? _ _ (hHeld.2.2.2.2.2.1))).trans (hHeld.2.2.2.2.2.1)
                 have HS6_:=(hb.cell (World.block_lt_of_cell? _ _ (hHeld.2.2.2.2.2.2.1))).trans (hHeld.2.2.2.2.2.2.1)
                 have HS7_:=(hb.cell (World.block_lt_of_cell? _ _ (hHeld.2.2.2.2.2.2.2))).trans (hHeld.2.2.2.2.2.2.2)
                 refine ⟨_,rfl,?_⟩
                 have n0_:=Aside0.mk (Kd.R_below (by (with_reducible repeat (first|apply Kd.R_alloc|apply Kd.R_drewN|apply Kd.R_drew));exact HO103.out) hb)
                 have n1_:=Aside0.mk (Kd.S_below (by (with_reducible repeat (first|apply Kd.S_alloc|apply Kd.S_drewN|apply Kd.S_drew));exact HO109.out) hb)
                 have n2_:=Aside0.mk (Kd.S_below (by (with_reducible repeat (first|apply Kd.S_alloc|apply Kd.S_drewN|apply Kd.S_drew));exact HO114.out) hb)
                 have n3_:=Aside0.mk (Kd.S_below (by (with_reducible repeat (first|apply Kd.S_alloc|apply Kd.S_drewN|apply Kd.S_drew));exact HO119.out) hb)
                 have n4_:=Aside0.mk (Kd.R_below (by (with_reducible repeat (first|apply Kd.R_alloc|apply Kd.R_drewN|apply Kd.R_drew));exact HL129_2.out) hb)
                 have n5_:=Aside0.mk (blk_below (g:=gb104) (o:=.cells #[.string (⟨#[115,108,111,119]⟩:ByteArray),.int .i64 20,.slice Ao29 y101.length co29] 24 (0,0)) (by (with_reducible repeat (first|refine blk_drewN ?_ _|refine blk_drew ?_|refine blk_alloc ?_ _));exact BK104.out) hb)
                 have n6_:=Aside0.mk (blk_below (g:=gb128) (o:=.cells #[.int .i64 t126,.int .i64 t127] 41 (0,0)) (by (with_reducible repeat (first|refine blk_drewN ?_ _|refine blk_drew ?_|refine blk_alloc ?_ _));exact BK128.out) hb)
                 have n7_:=Aside0.mk (Kd.C_below (by repeat (first|(with_reducible exact HR129_2.out)|(with_reducible refine Kd.C_alloc ?_ _)|(with_reducible refine Kd.C_drewN ?_ _)|(with_reducible refine Kd.C_drew ?_)|exact HR129_2.out)) hb)
                 have n8_:=Aside0.mk (below_step (by repeat (first|(with_reducible first|exact HB.out|apply below_alloc|apply pw_below_drewN|apply below_drew1|refine below_set ?_ GE104.out|refine below_set ?_ GE128.out)|exact HB.out)) hb)
                 clear HO103
                 clear HO109
                 clear HO114
                 clear HO119
                 clear HL129_2
                 clear BK104
                 clear BK128
                 clear HR129_2
                 clear HB
                 have HO103:=n0_
                 have HO109:=n1_
                 have HO114:=n2_
                 have HO119:=n3_
                 have HL129_2:=n4_
                 have BK104:=n5_
                 have BK128:=n6_
                 have HR129_2:=n7_
                 have HB:=n8_
                 clear n0_ n1_ n2_ n3_ n4_ n5_ n6_ n7_ n8_
                 (try clear hb)
                 (try clear hb2)
                 (try clear hk)
                 (try clear hi)
                 refine hK.out _ _ ⟨(blk_cell BK104.out 0).trans rfl,(blk_cell BK104.out 1).trans rfl,(blk_cell BK104.out 2).trans rfl,(blk_cell BK128.out 0).trans rfl,(blk_cell BK128.out 1).trans rfl,HS5_,HS6_,HS7_⟩ (fun hHeld=>?_)
                 clear hK K
                 refine norm_ (a':=?_) ?_ ?_
                 rotate_left
                 ·show Act.put _ (some 71) _=_
                  simp only [Act.put,List.setIfInBounds_toArray,List.set_cons_zero,List.set_cons_succ,i64_w,i32_w]
                  rfl
                 refine pure_ (i:=17) (N:=some 72) (v:=?_) (a':=?_) #[true,true,true,true,true,true,true,true,true,true,true,true,true,true,true,true,true,true,false,false,false,false,false,false,false,false,false,false,false,false,false,false,false,false,false,false,false,false,false,false,false,false,false,false,false,false,false,false,false,false,false,false,false,false,false,false,false,false,false,false,false,false,false,false,false,false,false,false] rfl rfl (any_of HT_.out (by kernel_rfl)) (fun _ _ _ h=>h) (Or.inl ⟨by rfl,?_⟩) ?_ ?_
                 rotate_left
                 ·intro w'
                  go_simp
                  with_reducible rfl
                 rotate_left
                 ·simp only [Act.put,List.setIfInBounds_toArray,List.set_cons_zero,List.set_cons_succ,i64_w,i32_w]
                  rfl
                 refine pure_ (i:=18) (N:=some 73) (v:=?_) (a':=?_) #[true,true,true,true,true,true,true,true,true,true,true,true,true,true,true,true,true,true,true,false,false,false,false,false,false,false,false,false,false,false,false,false,false,false,false,false,false,false,false,false,false,false,false,false,false,false,false,false,false,false,false,false,false,false,false,false,false,false,false,false,false,false,false,false,false,false,false,false] rfl rfl (any_of HT_.out (by kernel_rfl)) (fun _ _ _ h=>h) (Or.inl ⟨by rfl,?_⟩) ?_ ?_
                 rotate_left
                 ·intro w'
                  go_simp
                  with_reducible rfl
                 rotate_left
                 ·simp only [Act.put,List.setIfInBounds_toArray,List.set_cons_zero,List.set_cons_succ,i64_w,i32_w]
                  rfl
                 refine pure_ (i:=19) (N:=some 74) (v:=?_) (a':=?_) #[true,true,true,true,true,true,true,true,true,true,true,true,true,true,true,true,true,true,true,true,false,false,false,false,false,false,false,false,false,false,false,false,false,false,false,false,false,false,false,false,false,false,false,false,false,false,false,false,false,false,false,false,false,false,false,false,false,false,false,false,false,false,false,false,false,false,false,false] rfl rfl (any_of HT_.out (by kernel_rfl)) (fun _ _ _ h=>h) (Or.inl ⟨by rfl,?_⟩) ?_ ?_
                 rotate_left
                 ·intro w'
                  go_simp
                  with_reducible rfl
                 rotate_left
                 ·simp only [Act.put,List.setIfInBounds_toArray,List.set_cons_zero,List.set_cons_succ,i64_w,i32_w]
                  rfl
                 refine pure_ (i:=20) (N:=some 75) (v:=?_) (a':=?_) #[true,true,true,true,true,true,true,true,true,true,true,true,true,true,true,true,true,true,true,true,true,false,false,false,false,false,false,false,false,false,false,false,false,false,false,false,false,false,false,false,false,false,false,false,false,false,false,false,false,false,false,false,false,false,false,false,false,false,false,false,false,false,false,false,false,false,false,false] rfl rfl (any_of HT_.out (by kernel_rfl)) (fun _ _ _ h=>h) (Or.inl ⟨by rfl,?_⟩) ?_ ?_
                 rotate_left
                 ·intro w'
                  go_simp
                  with_reducible rfl
                 rotate_left
                 ·simp only [Act.put,List.setIfInBounds_toArray,List.set_cons_zero,List.set_cons_succ,i64_w,i32_w]
                  rfl
                 refine pure_ (i:=21) (N:=some 76) (v:=?_) (a':=?_) #[true,true,true,true,true,true,true,true,true,true,true,true,true,true,true,true,true,true,true,true,true,true,false,false,false,false,false,false,false,false,false,false,false,false,false,false,false,false,false,false,false,false,false,false,false,false,false,false,false,false,false,false,false,false,false,false,false,false,false,false,false,false,false,false,false,false,false,false] rfl rfl (any_of HT_.out (by kernel_rfl)) (fun _ _ _ h=>h) (Or.inl ⟨by rfl,?_⟩) ?_ ?_
                 rotate_left
                 ·intro w'
                  go_simp
                  with_reducible rfl
                 rotate_left
                 ·simp only [Act.put,List.setIfInBounds_toArray,List.set_cons_zero,List.set_cons_succ,i64_w,i32_w]
                  rfl
                 refine pure_ (i:=22) (N:=some 77) (v:=?_) (a':=?_) #[true,true,true,true,true,true,true,true,true,true,true,true,true,true,true,true,true,true,true,true,true,true,true,false,false,false,false,false,false,false,false,false,false,false,false,false,false,false,false,false,false,false,false,false,false,false,false,false,false,false,false,false,false,false,false,false,false,false,false,false,false,false,false,false,false,false,false,false] rfl rfl (any_of HT_.out (by kernel_rfl)) (fun _ _ _ h=>h) (Or.inl ⟨by rfl,?_⟩) ?_ ?_
                 rotate_left
                 ·intro w'
                  go_simp
                  with_reducible rfl
                 rotate_left
                 ·simp only [Act.put,List.setIfInBounds_toArray,List.set_cons_zero,List.set_cons_succ,i64_w,i32_w]
                  rfl
                 refine pure_ (i:=23) (N:=some 78) (v:=?_) (a':=?_) #[true,true,true,true,true,true,true,true,true,true,true,true,true,true,true,true,true,true,true,true,true,true,true,true,false,false,false,false,false,false,false,false,false,false,false,false,false,false,false,false,false,false,false,false,false,false,false,false,false,false,false,false,false,false,false,false,false,false,false,false,false,false,false,false,false,false,false,false] rfl rfl (any_of HT_.out (by kernel_rfl)) (fun _ _ _ h=>h) (Or.inl ⟨by rfl,?_⟩) ?_ ?_
                 rotate_left
                 ·intro w'
                  go_simp
                  with_reducible rfl
                 rotate_left
                 ·simp only [Act.put,List.setIfInBounds_toArray,List.set_cons_zero,List.set_cons_succ,i64_w,i32_w]
                  rfl
                 refine pure_ (i:=24) (N:=some 79) (v:=?_) (a':=?_) #[true,true,true,true,true,true,true,true,true,true,true,true,true,true,true,true,true,true,true,true,true,true,true,true,true,false,false,false,false,false,false,false,false,false,false,false,false,false,false,false,false,false,false,false,false,false,false,false,false,false,false,false,false,false,false,false,false,false,false,false,false,false,false,false,false,false,false,false] rfl rfl (any_of HT_.out (by kernel_rfl)) (fun _ _ _ h=>h) (Or.inl ⟨by rfl,?_⟩) ?_ ?_
                 rotate_left
                 ·intro w'
                  go_simp
                  with_reducible rfl
                 rotate_left
                 ·simp only [Act.put,List.setIfInBounds_toArray,List.set_cons_zero,List.set_cons_succ,i64_w,i32_w]
                  rfl
                 refine pure_ (i:=25) (N:=some 80) (v:=?_) (a':=?_) #[true,true,true,true,true,true,true,true,true,true,true,true,true,true,true,true,true,true,true,true,true,true,true,true,true,true,false,false,false,false,false,false,false,false,false,false,false,false,false,false,false,false,false,false,false,false,false,false,false,false,false,false,false,false,false,false,false,false,false,false,false,false,false,false,false,false,false,false] rfl rfl (any_of HT_.out (by kernel_rfl)) (fun _ _ _ h=>h) (Or.inl ⟨by rfl,?_⟩) ?_ ?_
                 rotate_left
                 ·intro w'
                  go_simp
                  with_reducible rfl
                 rotate_left
                 ·simp only [Act.put,List.setIfInBounds_toArray,List.set_cons_zero,List.set_cons_succ,i64_w,i32_w]
                  rfl
                 refine pure_ (i:=26) (N:=some 81) (v:=?_) (a':=?_) #[true,true,true,true,true,true,true,true,true,true,true,true,true,true,true,true,true,true,true,true,true,true,true,true,true,true,true,false,false,false,false,false,false,false,false,false,false,false,false,false,false,false,false,false,false,false,false,false,false,false,false,false,false,false,false,false,false,false,false,false,false,false,false,false,false,false,false,false] rfl rfl (any_of HT_.out (by kernel_rfl)) (fun _ _ _ h=>h) (Or.inl ⟨by rfl,?_⟩) ?_ ?_
                 rotate_left
                 ·intro w'
                  go_simp
                  with_reducible rfl
                 rotate_left
                 ·simp only [Act.put,List.setIfInBounds_toArray,List.set_cons_zero,List.set_cons_succ,i64_w,i32_w]
                  rfl
                 refine pure_ (i:=27) (N:=some 82) (v:=?_) (a':=?_) #[true,true,true,true,true,true,true,true,true,true,true,true,true,true,true,true,true,true,true,true,true,true,true,true,true,true,true,true,false,false,false,false,false,false,false,false,false,false,false,false,false,false,false,false,false,false,false,false,false,false,false,false,false,false,false,false,false,false,false,false,false,false,false,false,false,false,false,false] rfl rfl (any_of HT_.out (by kernel_rfl)) (fun _ _ _ h=>h) (Or.inl ⟨by rfl,?_⟩) ?_ ?_
                 rotate_left
                 ·intro w'
                  go_simp
                  with_reducible rfl
                 rotate_left
                 ·simp only [Act.put,List.setIfInBounds_toArray,List.set_cons_zero,List.set_cons_succ,i64_w,i32_w]
                  rfl
                 refine pure_ (i:=28) (N:=some 83) (v:=?_) (a':=?_) #[true,true,true,true,true,true,true,true,true,true,true,true,true,true,true,true,true,true,true,true,true,true,true,true,true,true,true,true,true,false,false,false,false,false,false,false,false,false,false,false,false,false,false,false,false,false,false,false,false,false,false,false,false,false,false,false,false,false,false,false,false,false,false,false,false,false,false,false] rfl rfl (any_of HT_.out (by kernel_rfl)) (fun _ _ _ h=>h) (Or.inl ⟨by rfl,?_⟩) ?_ ?_
                 rotate_left
                 ·intro w'
                  go_simp
                  with_reducible rfl
                 rotate_left
                 ·simp only [Act.put,List.setIfInBounds_toArray,List.set_cons_zero,List.set_cons_succ,i64_w,i32_w]
                  rfl
                 refine pure_ (i:=29) (N:=some 84) (v:=?_) (a':=?_) #[true,true,true,true,true,true,true,true,true,true,true,true,true,true,true,true,true,true,true,true,true,true,true,true,true,true,true,true,true,true,false,false,false,false,false,false,false,false,false,false,false,false,false,false,false,false,false,false,false,false,false,false,false,false,false,false,false,false,false,false,false,false,false,false,false,false,false,false] rfl rfl (any_of HT_.out (by kernel_rfl)) (fun _ _ _ h=>h) (Or.inl ⟨by rfl,?_⟩) ?_ ?_
                 rotate_left
                 ·intro w'
                  go_simp
                  with_reducible rfl
                 rotate_left
                 ·simp only [Act.put,List.setIfInBounds_toArray,List.set_cons_zero,List.set_cons_succ,i64_w,i32_w]
                  rfl
                 refine pure_ (i:=30) (N:=some 85) (v:=?_) (a':=?_) #[true,true,true,true,true,true,true,true,true,true,true,true,true,true,true,true,true,true,true,true,true,true,true,true,true,true,true,true,true,true,true,false,false,false,false,false,false,false,false,false,false,false,false,false,false,false,false,false,false,false,false,false,false,false,false,false,false,false,false,false,false,false,false,false,false,false,false,false] rfl rfl (any_of HT_.out (by kernel_rfl)) (fun _ _ _ h=>h) (Or.inl ⟨by rfl,?_⟩) ?_ ?_
                 rotate_left
                 ·intro w'
                  go_simp
                  with_reducible rfl
                 rotate_left
                 ·simp only [Act.put,List.setIfInBounds_toArray,List.set_cons_zero,List.set_cons_succ,i64_w,i32_w]
                  rfl
                 refine pure_ (i:=31) (N:=some 86) (v:=?_) (a':=?_) #[true,true,true,true,true,true,true,true,true,true,true,true,true,true,true,true,true,true,true,true,true,true,true,true,true,true,true,true,true,true,true,true,false,false,false,false,false,false,false,false,false,false,false,false,false,false,false,false,false,false,false,false,false,false,false,false,false,false,false,false,false,false,false,false,false,false,false,false] rfl rfl (any_of HT_.out (by kernel_rfl)) (fun _ _ _ h=>h) (Or.inl ⟨by rfl,?_⟩) ?_ ?_
                 rotate_left
                 ·intro w'
                  go_simp
                  with_reducible rfl
                 rotate_left
                 ·simp only [Act.put,List.setIfInBounds_toArray,List.set_cons_zero,List.set_cons_succ,i64_w,i32_w]
                  rfl
                 refine pure_ (i:=32) (N:=some 87) (v:=?_) (a':=?_) #[true,true,true,true,true,true,true,true,true,true,true,true,true,true,true,true,true,true,true,true,true,true,true,true,true,true,true,true,true,true,true,true,true,false,false,false,false,false,false,false,false,false,false,false,false,false,false,false,false,false,false,false,false,false,false,false,false,false,false,false,false,false,false,false,false,false,false,false] rfl rfl (any_of HT_.out (by kernel_rfl)) (fun _ _ _ h=>h) (Or.inl ⟨by rfl,?_⟩) ?_ ?_
                 rotate_left
                 ·intro w'
                  go_simp
                  with_reducible rfl
                 rotate_left
                 ·simp only [Act.put,List.setIfInBounds_toArray,List.set_cons_zero,List.set_cons_succ,i64_w,i32_w]
                  rfl
                 refine pure_ (i:=33) (N:=some 88) (v:=?_) (a':=?_) #[true,true,true,true,true,true,true,true,true,true,true,true,true,true,true,true,true,true,true,true,true,true,true,true,true,true,true,true,true,true,true,true,true,true,false,false,false,false,false,false,false,false,false,false,false,false,false,false,false,false,false,false,false,false,false,false,false,false,false,false,false,false,false,false,false,false,false,false] rfl rfl (any_of HT_.out (by kernel_rfl)) (fun _ _ _ h=>h) (Or.inl ⟨by rfl,?_⟩) ?_ ?_
                 rotate_left
                 ·intro w'
                  go_simp
                  with_reducible rfl
                 rotate_left
                 ·simp only [Act.put,List.setIfInBounds_toArray,List.set_cons_zero,List.set_cons_succ,i64_w,i32_w]
                  rfl
                 refine pure_ (i:=34) (N:=some 89) (v:=?_) (a':=?_) #[true,true,true,true,true,true,true,true,true,true,true,true,true,true,true,true,true,true,true,true,true,true,true,true,true,true,true,true,true,true,true,true,true,true,true,false,false,false,false,false,false,false,false,false,false,false,false,false,false,false,false,false,false,false,false,false,false,false,false,false,false,false,false,false,false,false,false,false] rfl rfl (any_of HT_.out (by kernel_rfl)) (fun _ _ _ h=>h) (Or.inl ⟨by rfl,?_⟩) ?_ ?_
                 rotate_left
                 ·intro w'
                  go_simp
                  with_reducible rfl
                 rotate_left
                 ·simp only [Act.put,List.setIfInBounds_toArray,List.set_cons_zero,List.set_cons_succ,i64_w,i32_w]
                  rfl
                 refine pure_ (i:=35) (N:=some 90) (v:=?_) (a':=?_) #[true,true,true,true,true,true,true,true,true,true,true,true,true,true,true,true,true,true,true,true,true,true,true,true,true,true,true,true,true,true,true,true,true,true,true,true,false,false,false,false,false,false,false,false,false,false,false,false,false,false,false,false,false,false,false,false,false,false,false,false,false,false,false,false,false,false,false,false] rfl rfl (any_of HT_.out (by kernel_rfl)) (fun _ _ _ h=>h) (Or.inl ⟨by rfl,?_⟩) ?_ ?_
                 rotate_left
                 ·intro w'
                  go_simp
                  with_reducible rfl
                 rotate_left
                 ·simp only [Act.put,List.setIfInBounds_toArray,List.set_cons_zero,List.set_cons_succ,i64_w,i32_w]
                  rfl
                 refine pure_ (i:=36) (N:=some 91) (v:=?_) (a':=?_) #[true,true,true,true,true,true,true,true,true,true,true,true,true,true,true,true,true,true,true,true,true,true,true,true,true,true,true,true,true,true,true,true,true,true,true,true,true,false,false,false,false,false,false,false,false,false,false,false,false,false,false,false,false,false,false,false,false,false,false,false,false,false,false,false,false,false,false,false] rfl rfl (any_of HT_.out (by kernel_rfl)) (fun _ _ _ h=>h) (Or.inl ⟨by rfl,?_⟩) ?_ ?_
                 rotate_left
                 ·intro w'
                  go_simp
                  with_reducible rfl
                 rotate_left
                 ·simp only [Act.put,List.setIfInBounds_toArray,List.set_cons_zero,List.set_cons_succ,i64_w,i32_w]
                  rfl
                 refine pure_ (i:=37) (N:=some 92) (v:=?_) (a':=?_) #[true,true,true,true,true,true,true,true,true,true,true,true,true,true,true,true,true,true,true,true,true,true,true,true,true,true,true,true,true,true,true,true,true,true,true,true,true,true,false,false,false,false,false,false,false,false,false,false,false,false,false,false,false,false,false,false,false,false,false,false,false,false,false,false,false,false,false,false] rfl rfl (any_of HT_.out (by kernel_rfl)) (fun _ _ _ h=>h) (Or.inl ⟨by rfl,?_⟩) ?_ ?_
                 rotate_left
                 ·intro w'
                  go_simp
                  with_reducible rfl
                 rotate_left
                 ·simp only [Act.put,List.setIfInBounds_toArray,List.set_cons_zero,List.set_cons_succ,i64_w,i32_w]
                  rfl
                 refine pure_ (i:=38) (N:=some 93) (v:=?_) (a':=?_) #[true,true,true,true,true,true,true,true,true,true,true,true,true,true,true,true,true,true,true,true,true,true,true,true,true,true,true,true,true,true,true,true,true,true,true,true,true,true,true,false,false,false,false,false,false,false,false,false,false,false,false,false,false,false,false,false,false,false,false,false,false,false,false,false,false,false,false,false] rfl rfl (any_of HT_.out (by kernel_rfl)) (fun _ _ _ h=>h) (Or.inl ⟨by rfl,?_⟩) ?_ ?_
                 rotate_left
                 ·intro w'
                  go_simp
                  with_reducible rfl
                 rotate_left
                 ·simp only [Act.put,List.setIfInBounds_toArray,List.set_cons_zero,List.set_cons_succ,i64_w,i32_w]
                  rfl
                 refine pure_ (i:=39) (N:=some 94) (v:=?_) (a':=?_) #[true,true,true,true,true,true,true,true,true,true,true,true,true,true,true,true,true,true,true,true,true,true,true,true,true,true,true,true,true,true,true,true,true,true,true,true,true,true,true,true,false,false,false,false,false,false,false,false,false,false,false,false,false,false,false,false,false,false,false,false,false,false,false,false,false,false,false,false] rfl rfl (any_of HT_.out (by kernel_rfl)) (fun _ _ _ h=>h) (Or.inl ⟨by rfl,?_⟩) ?_ ?_
                 rotate_left
                 ·intro w'
                  go_simp
                  with_reducible rfl
                 rotate_left
                 ·simp only [Act.put,List.setIfInBounds_toArray,List.set_cons_zero,List.set_cons_succ,i64_w,i32_w]
                  rfl
                 refine pure_ (i:=40) (N:=some 95) (v:=?_) (a':=?_) #[true,true,true,true,true,true,true,true,true,true,true,true,true,true,true,true,true,true,true,true,true,true,true,true,true,true,true,true,true,true,true,true,true,true,true,true,true,true,true,true,true,false,false,false,false,false,false,false,false,false,false,false,false,false,false,false,false,false,false,false,false,false,false,false,false,false,false,false] rfl rfl (any_of HT_.out (by kernel_rfl)) (fun _ _ _ h=>h) (Or.inl ⟨by rfl,?_⟩) ?_ ?_
                 rotate_left
                 ·intro w'
                  go_simp
                  with_reducible rfl
                 rotate_left
                 ·simp only [Act.put,List.setIfInBounds_toArray,List.set_cons_zero,List.set_cons_succ,i64_w,i32_w]
                  rfl
                 refine pure_ (i:=41) (N:=some 96) (v:=?_) (a':=?_) #[true,true,true,true,true,true,true,true,true,true,true,true,true,true,true,true,true,true,true,true,true,true,true,true,true,true,true,true,true,true,true,true,true,true,true,true,true,true,true,true,true,true,false,false,false,false,false,false,false,false,false,false,false,false,false,false,false,false,false,false,false,false,false,false,false,false,false,false] rfl rfl (any_of HT_.out (by kernel_rfl)) (fun _ _ _ h=>h) (Or.inl ⟨by rfl,?_⟩) ?_ ?_
                 rotate_left
                 ·intro w'
                  go_simp
                  with_reducible rfl
                 rotate_left
                 ·simp only [Act.put,List.setIfInBounds_toArray,List.set_cons_zero,List.set_cons_succ,i64_w,i32_w]
                  rfl
                 refine pure_ (i:=42) (N:=some 97) (v:=?_) (a':=?_) #[true,true,true,true,true,true,true,true,true,true,true,true,true,true,true,true,true,true,true,true,true,true,true,true,true,true,true,true,true,true,true,true,true,true,true,true,true,true,true,true,true,true,true,false,false,false,false,false,false,false,false,false,false,false,false,false,false,false,false,false,false,false,false,false,false,false,false,false] rfl rfl (any_of HT_.out (by kernel_rfl)) (fun _ _ _ h=>h) (Or.inl ⟨by rfl,?_⟩) ?_ ?_
                 rotate_left
                 ·intro w'
                  go_simp
                  with_reducible rfl
                 rotate_left
                 ·simp only [Act.put,List.setIfInBounds_toArray,List.set_cons_zero,List.set_cons_succ,i64_w,i32_w]
                  rfl
                 refine pure_ (i:=43) (N:=some 98) (v:=?_) (a':=?_) #[true,true,true,true,true,true,true,true,true,true,true,true,true,true,true,true,true,true,true,true,true,true,true,true,true,true,true,true,true,true,true,true,true,true,true,true,true,true,true,true,true,true,true,true,false,false,false,false,false,false,false,false,false,false,false,false,false,false,false,false,false,false,false,false,false,false,false,false] rfl rfl (any_of HT_.out (by kernel_rfl)) (fun _ _ _ h=>h) (Or.inl ⟨by rfl,?_⟩) ?_ ?_
                 rotate_left
                 ·intro w'
                  go_simp
                  with_reducible rfl
                 rotate_left
                 ·simp only [Act.put,List.setIfInBounds_toArray,List.set_cons_zero,List.set_cons_succ,i64_w,i32_w]
                  rfl
                 refine pure_ (i:=44) (N:=some 99) (v:=?_) (a':=?_) #[true,true,true,true,true,true,true,true,true,true,true,true,true,true,true,true,true,true,true,true,true,true,true,true,true,true,true,true,true,true,true,true,true,true,true,true,true,true,true,true,true,true,true,true,true,false,false,false,false,false,false,false,false,false,false,false,false,false,false,false,false,false,false,false,false,false,false,false] rfl rfl (any_of HT_.out (by kernel_rfl)) (fun _ _ _ h=>h) (Or.inl ⟨by rfl,?_⟩) ?_ ?_
                 rotate_left
                 ·intro w'
                  go_simp
                  with_reducible rfl
                 rotate_left
                 ·simp only [Act.put,List.setIfInBounds_toArray,List.set_cons_zero,List.set_cons_succ,i64_w,i32_w]
                  rfl
                 refine pure_ (i:=45) (N:=some 100) (v:=?_) (a':=?_) #[true,true,true,true,true,true,true,true,true,true,true,true,true,true,true,true,true,true,true,true,true,true,true,true,true,true,true,true,true,true,true,true,true,true,true,true,true,true,true,true,true,true,true,true,true,true,false,false,false,false,false,false,false,false,false,false,false,false,false,false,false,false,false,false,false,false,false,false] rfl rfl (any_of HT_.out (by kernel_rfl)) (fun _ _ _ h=>h) (Or.inl ⟨by rfl,?_⟩) ?_ ?_
                 rotate_left
                 ·intro w'
                  go_simp
                  with_reducible rfl
                 rotate_left
                 ·simp only [Act.put,List.setIfInBounds_toArray,List.set_cons_zero,List.set_cons_succ,i64_w,i32_w]
                  rfl
                 refine pure_ (i:=46) (N:=some 101) (v:=?_) (a':=?_) #[true,true,true,true,true,true,true,true,true,true,true,true,true,true,true,true,true,true,true,true,true,true,true,true,true,true,true,true,true,true,true,true,true,true,true,true,true,true,true,true,true,true,true,true,true,true,true,false,false,false,false,false,false,false,false,false,false,false,false,false,false,false,false,false,false,false,false,false] rfl rfl (any_of HT_.out (by kernel_rfl)) (fun _ _ _ h=>h) (Or.inl ⟨by rfl,?_⟩) ?_ ?_
                 rotate_left
                 ·intro w'
                  go_simp
                  with_reducible rfl
                 rotate_left
                 ·simp only [Act.put,List.setIfInBounds_toArray,List.set_cons_zero,List.set_cons_succ,i64_w,i32_w]
                  rfl
                 refine pure_ (i:=47) (N:=some 102) (v:=?_) (a':=?_) #[true,true,true,true,true,true,true,true,true,true,true,true,true,true,true,true,true,true,true,true,true,true,true,true,true,true,true,true,true,true,true,true,true,true,true,true,true,true,true,true,true,true,true,true,true,true,true,true,false,false,false,false,false,false,false,false,false,false,false,false,false,false,false,false,false,false,false,false] rfl rfl (any_of HT_.out (by kernel_rfl)) (fun _ _ _ h=>h) (Or.inl ⟨by rfl,?_⟩) ?_ ?_
                 rotate_left
                 ·intro w'
                  go_simp
                  with_reducible rfl
                 rotate_left
                 ·simp only [Act.put,List.setIfInBounds_toArray,List.set_cons_zero,List.set_cons_succ,i64_w,i32_w]
                  rfl
                 refine pure_ (i:=48) (N:=some 103) (v:=?_) (a':=?_) #[true,true,true,true,true,true,true,true,true,true,true,true,true,true,true,true,true,true,true,true,true,true,true,true,true,true,true,true,true,true,true,true,true,true,true,true,true,true,true,true,true,true,true,true,true,true,true,true,true,false,false,false,false,false,false,false,false,false,false,false,false,false,false,false,false,false,false,false] rfl rfl (any_of HT_.out (by kernel_rfl)) (fun _ _ _ h=>h) (Or.inl ⟨by rfl,?_⟩) ?_ ?_
                 rotate_left
                 ·intro w'
                  go_simp
                  with_reducible rfl
                 rotate_left
                 ·simp only [Act.put,List.setIfInBounds_toArray,List.set_cons_zero,List.set_cons_succ,i64_w,i32_w]
                  rfl
                 refine pure_ (i:=49) (N:=some 104) (v:=?_) (a':=?_) #[true,true,true,true,true,true,true,true,true,true,true,true,true,true,true,true,true,true,true,true,true,true,true,true,true,true,true,true,true,true,true,true,true,true,true,true,true,true,true,true,true,true,true,true,true,true,true,true,true,true,false,false,false,false,false,false,false,false,false,false,false,false,false,false,false,false,false,false] rfl rfl (any_of HT_.out (by kernel_rfl)) (fun _ _ _ h=>h) (Or.inl ⟨by rfl,?_⟩) ?_ ?_
                 rotate_left
                 ·intro w'
                  go_simp
                  with_reducible rfl
                 rotate_left
                 ·simp only [Act.put,List.setIfInBounds_toArray,List.set_cons_zero,List.set_cons_succ,i64_w,i32_w]
                  rfl
                 refine pure_ (i:=50) (N:=some 105) (v:=?_) (a':=?_) #[true,true,true,true,true,true,true,true,true,true,true,true,true,true,true,true,true,true,true,true,true,true,true,true,true,true,true,true,true,true,true,true,true,true,true,true,true,true,true,true,true,true,true,true,true,true,true,true,true,true,true,false,false,false,false,false,false,false,false,false,false,false,false,false,false,false,false,false] rfl rfl (any_of HT_.out (by kernel_rfl)) (fun _ _ _ h=>h) (Or.inl ⟨by rfl,?_⟩) ?_ ?_
                 rotate_left
                 ·intro w'
                  go_simp
                  with_reducible rfl
                 rotate_left
                 ·simp only [Act.put,List.setIfInBounds_toArray,List.set_cons_zero,List.set_cons_succ,i64_w,i32_w]
                  rfl
                 refine pure_ (i:=51) (N:=some 106) (v:=?_) (a':=?_) #[true,true,true,true,true,true,true,true,true,true,true,true,true,true,true,true,true,true,true,true,true,true,true,true,true,true,true,true,true,true,true,true,true,true,true,true,true,true,true,true,true,true,true,true,true,true,true,true,true,true,true,true,false,false,false,false,false,false,false,false,false,false,false,false,false,false,false,false] rfl rfl (any_of HT_.out (by kernel_rfl)) (fun _ _ _ h=>h) (Or.inl ⟨by rfl,?_⟩) ?_ ?_
                 rotate_left
                 ·intro w'
                  go_simp
                  with_reducible rfl
                 rotate_left
                 ·simp only [Act.put,List.setIfInBounds_toArray,List.set_cons_zero,List.set_cons_succ,i64_w,i32_w]
                  rfl
                 refine pure_ (i:=52) (N:=some 107) (v:=?_) (a':=?_) #[true,true,true,true,true,true,true,true,true,true,true,true,true,true,true,true,true,true,true,true,true,true,true,true,true,true,true,true,true,true,true,true,true,true,true,true,true,true,true,true,true,true,true,true,true,true,true,true,true,true,true,true,true,false,false,false,false,false,false,false,false,false,false,false,false,false,false,false] rfl rfl (any_of HT_.out (by kernel_rfl)) (fun _ _ _ h=>h) (Or.inl ⟨by rfl,?_⟩) ?_ ?_
                 rotate_left
                 ·intro w'
                  go_simp
                  with_reducible rfl
                 rotate_left
                 ·simp only [Act.put,List.setIfInBounds_toArray,List.set_cons_zero,List.set_cons_succ,i64_w,i32_w]
                  rfl
                 refine pure_ (i:=53) (N:=some 108) (v:=?_) (a':=?_) #[true,true,true,true,true,true,true,true,true,true,true,true,true,true,true,true,true,true,true,true,true,true,true,true,true,true,true,true,true,true,true,true,true,true,true,true,true,true,true,true,true,true,true,true,true,true,true,true,true,true,true,true,true,true,false,false,false,false,false,false,false,false,false,false,false,false,false,false] rfl rfl (any_of HT_.out (by kernel_rfl)) (fun _ _ _ h=>h) (Or.inl ⟨by rfl,?_⟩) ?_ ?_
                 rotate_left
                 ·intro w'
                  go_simp
                  with_reducible rfl
                 rotate_left
                 ·simp only [Act.put,List.setIfInBounds_toArray,List.set_cons_zero,List.set_cons_succ,i64_w,i32_w]
                  rfl
                 refine pure_ (i:=54) (N:=some 109) (v:=?_) (a':=?_) #[true,true,true,true,true,true,true,true,true,true,true,true,true,true,true,true,true,true,true,true,true,true,true,true,true,true,true,true,true,true,true,true,true,true,true,true,true,true,true,true,true,true,true,true,true,true,true,true,true,true,true,true,true,true,true,false,false,false,false,false,false,false,false,false,false,false,false,false] rfl rfl (any_of HT_.out (by kernel_rfl)) (fun _ _ _ h=>h) (Or.inl ⟨by rfl,?_⟩) ?_ ?_
                 rotate_left
                 ·intro w'
                  go_simp
                  with_reducible rfl
                 rotate_left
                 ·simp only [Act.put,List.setIfInBounds_toArray,List.set_cons_zero,List.set_cons_succ,i64_w,i32_w]
                  rfl
                 refine pure_ (i:=55) (N:=some 110) (v:=?_) (a':=?_) #[true,true,true,true,true,true,true,true,true,true,true,true,true,true,true,true,true,true,true,true,true,true,true,true,true,true,true,true,true,true,true,true,true,true,true,true,true,true,true,true,true,true,true,true,true,true,true,true,true,true,true,true,true,true,true,true,false,false,false,false,false,false,false,false,false,false,false,false] rfl rfl (any_of HT_.out (by kernel_rfl)) (fun _ _ _ h=>h) (Or.inl ⟨by rfl,?_⟩) ?_ ?_
                 rotate_left
                 ·intro w'
                  go_simp
                  with_reducible rfl
                 rotate_left
                 ·simp only [Act.put,List.setIfInBounds_toArray,List.set_cons_zero,List.set_cons_succ,i64_w,i32_w]
                  rfl
                 refine pure_ (i:=56) (N:=some 111) (v:=?_) (a':=?_) #[true,true,true,true,true,true,true,true,true,true,true,true,true,true,true,true,true,true,true,true,true,true,true,true,true,true,true,true,true,true,true,true,true,true,true,true,true,true,true,true,true,true,true,true,true,true,true,true,true,true,true,true,true,true,true,true,true,false,false,false,false,false,false,false,false,false,false,false] rfl rfl (any_of HT_.out (by kernel_rfl)) (fun _ _ _ h=>h) (Or.inl ⟨by rfl,?_⟩) ?_ ?_
                 rotate_left
                 ·intro w'
                  go_simp
                  with_reducible rfl
                 rotate_left
                 ·simp only [Act.put,List.setIfInBounds_toArray,List.set_cons_zero,List.set_cons_succ,i64_w,i32_w]
                  rfl
                 refine pure_ (i:=57) (N:=some 112) (v:=?_) (a':=?_) #[true,true,true,true,true,true,true,true,true,true,true,true,true,true,true,true,true,true,true,true,true,true,true,true,true,true,true,true,true,true,true,true,true,true,true,true,true,true,true,true,true,true,true,true,true,true,true,true,true,true,true,true,true,true,true,true,true,true,false,false,false,false,false,false,false,false,false,false] rfl rfl (any_of HT_.out (by kernel_rfl)) (fun _ _ _ h=>h) (Or.inl ⟨by rfl,?_⟩) ?_ ?_
                 rotate_left
                 ·intro w'
                  go_simp
                  with_reducible rfl
                 rotate_left
                 ·simp only [Act.put,List.setIfInBounds_toArray,List.set_cons_zero,List.set_cons_succ,i64_w,i32_w]
                  rfl
                 refine pure_ (i:=59) (N:=some 114) (v:=?_) (a':=?_) #[true,true,true,true,true,true,true,true,true,true,true,true,true,true,true,true,true,true,true,true,true,true,true,true,true,true,true,true,true,true,true,true,true,true,true,true,true,true,true,true,true,true,true,true,true,true,true,true,true,true,true,true,true,true,true,true,true,true,false,true,false,false,false,false,false,false,false,false] rfl rfl (any_of HT_.out (by kernel_rfl)) (fun _ _ _ h=>h) (Or.inl ⟨by rfl,?_⟩) ?_ ?_
                 rotate_left
                 ·intro w'
                  go_simp
                  with_reducible rfl
                 rotate_left
                 ·simp only [Act.put,List.setIfInBounds_toArray,List.set_cons_zero,List.set_cons_succ,i64_w,i32_w]
                  rfl
                 refine take_ (i:=58) (N:=some 113) (v:=?_) (a':=?_) #[true,true,true,true,true,true,true,true,true,true,true,true,true,true,true,true,true,true,true,true,true,true,true,true,true,true,true,true,true,true,true,true,true,true,true,true,true,true,true,true,true,true,true,true,true,true,true,true,true,true,true,true,true,true,true,true,true,true,true,true,false,false,false,false,false,false,false,false] rfl rfl (take_ofW HT_.out HW_.out (by kernel_rfl)) (fun _ _ _ h=>h) (Or.inl ⟨by rfl,?_⟩) hHeld ?_ ?_
                 rotate_left
                 ·rintro w' ⟨s0,s1,s2,s3,s4,s5,s6,s7⟩
                  go_simp
                  with_reducible rfl
                 rotate_left
                 ·simp only [Act.put,List.setIfInBounds_toArray,List.set_cons_zero,List.set_cons_succ,i64_w,i32_w]
                  rfl
                 refine pure_ (i:=60) (N:=some 115) (v:=?_) (a':=?_) #[true,true,true,true,true,true,true,true,true,true,true,true,true,true,true,true,true,true,true,true,true,true,true,true,true,true,true,true,true,true,true,true,true,true,true,true,true,true,true,true,true,true,true,true,true,true,true,true,true,true,true,true,true,true,true,true,true,true,true,true,true,false,false,false,false,false,false,false] rfl rfl (any_of HT_.out (by kernel_rfl)) (fun _ _ _ h=>h) (Or.inl ⟨by rfl,?_⟩) ?_ ?_
                 rotate_left
                 ·intro w'
                  go_simp
                  with_reducible rfl
                 rotate_left
                 ·simp only [Act.put,List.setIfInBounds_toArray,List.set_cons_zero,List.set_cons_succ,i64_w,i32_w]
                  rfl
                 refine pure_ (i:=61) (N:=some 116) (v:=?_) (a':=?_) #[true,true,true,true,true,true,true,true,true,true,true,true,true,true,true,true,true,true,true,true,true,true,true,true,true,true,true,true,true,true,true,true,true,true,true,true,true,true,true,true,true,true,true,true,true,true,true,true,true,true,true,true,true,true,true,true,true,true,true,true,true,true,false,false,false,false,false,false] rfl rfl (any_of HT_.out (by kernel_rfl)) (fun _ _ _ h=>h) (Or.inl ⟨by rfl,?_⟩) ?_ ?_
                 rotate_left
                 ·intro w'
                  go_simp
                  with_reducible rfl
                 rotate_left
                 ·simp only [Act.put,List.setIfInBounds_toArray,List.set_cons_zero,List.set_cons_succ,i64_w,i32_w]
                  rfl
                 refine pure_ (i:=62) (N:=some 117) (v:=?_) (a':=?_) #[true,true,true,true,true,true,true,true,true,true,true,true,true,true,true,true,true,true,true,true,true,true,true,true,true,true,true,true,true,true,true,true,true,true,true,true,true,true,true,true,true,true,true,true,true,true,true,true,true,true,true,true,true,true,true,true,true,true,true,true,true,true,true,false,false,false,false,false] rfl rfl (any_of HT_.out (by kernel_rfl)) (fun _ _ _ h=>h) (Or.inl ⟨by rfl,?_⟩) ?_ ?_
                 rotate_left
                 ·intro w'
                  go_simp
                  with_reducible rfl
                 rotate_left
                 ·simp only [Act.put,List.setIfInBounds_toArray,List.set_cons_zero,List.set_cons_succ,i64_w,i32_w]
                  rfl
                 refine take_ (i:=63) (N:=some 118) (v:=?_) (a':=?_) #[true,true,true,true,true,true,true,true,true,true,true,true,true,true,true,true,true,true,true,true,true,true,true,true,true,true,true,true,true,true,true,true,true,true,true,true,true,true,true,true,true,true,true,true,true,true,true,true,true,true,true,true,true,true,true,true,true,true,true,true,true,true,true,true,false,false,false,false] rfl rfl (take_ofW HT_.out HW_.out (by kernel_rfl)) (fun _ _ _ h=>h) (Or.inl ⟨by rfl,?_⟩) hHeld ?_ ?_
                 rotate_left
                 ·rintro w' ⟨s0,s1,s2,s3,s4,s5,s6,s7⟩
                  go_simp
                  with_reducible rfl
                 rotate_left
                 ·simp only [Act.put,List.setIfInBounds_toArray,List.set_cons_zero,List.set_cons_succ,i64_w,i32_w]
                  rfl
                 refine one_ (i:=64) (N:=some 119) #[true,true,true,true,true,true,true,true,true,true,true,true,true,true,true,true,true,true,true,true,true,true,true,true,true,true,true,true,true,true,true,true,true,true,true,true,true,true,true,true,true,true,true,true,true,true,true,true,true,true,true,true,true,true,true,true,true,true,true,true,true,true,true,true,true,false,false,false] rfl rfl (one_of HT_.out (by kernel_rfl)) (by decide) (fun K hK=>?_)
                 refine goes_ Tryd.func16 (by kernel_rfl) rfl #[.agg #[.string (⟨#[115,108,111,119]⟩:ByteArray),.int .i64 20,.slice Ao29 y101.length co29]] (by rfl) rfl rfl (by (try simp only [List.map_toArray,List.map_cons,List.map_nil]);first|done|rfl|(simp only [List.length_drop,List.length_take];rfl)) ?_
                 with_reducible refine (schedule_Check.calls (⟨#[115,108,111,119]⟩:ByteArray) 20 _ _ y101 t132 _ ?side1 ?side2 A26.out (glob_at HG_ (by repeat (first|(with_reducible first|exact HB.out|apply below_alloc|apply pw_below_drewN|apply below_drew1|refine below_set ?_ (Aside0.out (by assumption)))|exact HB.out)))).mono ?_
                 (case side1=>repeat (first|exact (Kd.R_reads' HO103.out).2.2|(with_reducible refine Kd.C_alloc ?_ _)|(with_reducible refine Kd.C_drewN ?_ _)|(with_reducible refine Kd.C_drew ?_)))
                 (case side2=>exact (Kd.R_reads' HO103.out).2.1)
                 rintro e w51 ⟨rfl,hb⟩
                 have HS5_:=(hb.cell (World.block_lt_of_cell? _ _ (hHeld.2.2.2.2.2.1))).trans (hHeld.2.2.2.2.2.1)
                 have HS6_:=(hb.cell (World.block_lt_of_cell? _ _ (hHeld.2.2.2.2.2.2.1))).trans (hHeld.2.2.2.2.2.2.1)
                 have HS7_:=(hb.cell (World.block_lt_of_cell? _ _ (hHeld.2.2.2.2.2.2.2))).trans (hHeld.2.2.2.2.2.2.2)
                 refine ⟨_,rfl,?_⟩
                 have n0_:=Aside0.mk (Kd.R_below (by (with_reducible repeat (first|apply Kd.R_alloc|apply Kd.R_drewN|apply Kd.R_drew));exact HO103.out) hb)
                 have n1_:=Aside0.mk (Kd.S_below (by (with_reducible repeat (first|apply Kd.S_alloc|apply Kd.S_drewN|apply Kd.S_drew));exact HO109.out) hb)
                 have n2_:=Aside0.mk (Kd.S_below (by (with_reducible repeat (first|apply Kd.S_alloc|apply Kd.S_drewN|apply Kd.S_drew));exact HO114.out) hb)
                 have n3_:=Aside0.mk (Kd.S_below (by (with_reducible repeat (first|apply Kd.S_alloc|apply Kd.S_drewN|apply Kd.S_drew));exact HO119.out) hb)
                 have n4_:=Aside0.mk (Kd.R_below (by (with_reducible repeat (first|apply Kd.R_alloc|apply Kd.R_drewN|apply Kd.R_drew));exact HL129_2.out) hb)
                 have n5_:=Aside0.mk (blk_below (g:=gb104) (o:=.cells #[.string (⟨#[115,108,111,119]⟩:ByteArray),.int .i64 20,.slice Ao29 y101.length co29] 24 (0,0)) (by (with_reducible repeat (first|refine blk_drewN ?_ _|refine blk_drew ?_|refine blk_alloc ?_ _));exact BK104.out) hb)
                 have n6_:=Aside0.mk (blk_below (g:=gb128) (o:=.cells #[.int .i64 t126,.int .i64 t127] 41 (0,0)) (by (with_reducible repeat (first|refine blk_drewN ?_ _|refine blk_drew ?_|refine blk_alloc ?_ _));exact BK128.out) hb)
                 have n7_:=Aside0.mk (Kd.C_below (by repeat (first|(with_reducible exact HR129_2.out)|(with_reducible refine Kd.C_alloc ?_ _)|(with_reducible refine Kd.C_drewN ?_ _)|(with_reducible refine Kd.C_drew ?_)|exact HR129_2.out)) hb)
                 have n8_:=Aside0.mk (below_step (by repeat (first|(with_reducible first|exact HB.out|apply below_alloc|apply pw_below_drewN|apply below_drew1|refine below_set ?_ GE104.out|refine below_set ?_ GE128.out)|exact HB.out)) hb)
                 clear HO103
                 clear HO109
                 clear HO114
                 clear HO119
                 clear HL129_2
                 clear BK104
                 clear BK128
                 clear HR129_2
                 clear HB
                 have HO103:=n0_
                 have HO109:=n1_
                 have HO114:=n2_
                 have HO119:=n3_
                 have HL129_2:=n4_
                 have BK104:=n5_
                 have BK128:=n6_
                 have HR129_2:=n7_
                 have HB:=n8_
                 clear n0_ n1_ n2_ n3_ n4_ n5_ n6_ n7_ n8_
                 (try clear hb)
                 (try clear hb2)
                 (try clear hk)
                 (try clear hi)
                 refine hK.out _ _ ⟨(blk_cell BK104.out 0).trans rfl,(blk_cell BK104.out 1).trans rfl,(blk_cell BK104.out 2).trans rfl,(blk_cell BK128.out 0).trans rfl,(blk_cell BK128.out 1).trans rfl,HS5_,HS6_,HS7_⟩ (fun hHeld=>?_)
                 clear hK K
                 refine norm_ (a':=?_) ?_ ?_
                 rotate_left
                 ·show Act.put _ (some 119) _=_
                  simp only [Act.put,List.setIfInBounds_toArray,List.set_cons_zero,List.set_cons_succ,i64_w,i32_w]
                  rfl
                 refine pure_ (i:=65) (N:=some 120) (v:=?_) (a':=?_) #[true,true,true,true,true,true,true,true,true,true,true,true,true,true,true,true,true,true,true,true,true,true,true,true,true,true,true,true,true,true,true,true,true,true,true,true,true,true,true,true,true,true,true,true,true,true,true,true,true,true,true,true,true,true,true,true,true,true,true,true,true,true,true,true,true,true,false,false] rfl rfl (any_of HT_.out (by kernel_rfl)) (fun _ _ _ h=>h) (Or.inl ⟨by rfl,?_⟩) ?_ ?_
                 rotate_left
                 ·intro w'
                  go_simp
                  with_reducible rfl
                 rotate_left
                 ·simp only [Act.put,List.setIfInBounds_toArray,List.set_cons_zero,List.set_cons_succ,i64_w,i32_w]
                  rfl
                 refine pure_ (i:=66) (N:=some 121) (v:=?_) (a':=?_) #[true,true,true,true,true,true,true,true,true,true,true,true,true,true,true,true,true,true,true,true,true,true,true,true,true,true,true,true,true,true,true,true,true,true,true,true,true,true,true,true,true,true,true,true,true,true,true,true,true,true,true,true,true,true,true,true,true,true,true,true,true,true,true,true,true,true,true,false] rfl rfl (any_of HT_.out (by kernel_rfl)) (fun _ _ _ h=>h) (Or.inl ⟨by rfl,?_⟩) ?_ ?_
                 rotate_left
                 ·intro w'
                  go_simp
                  with_reducible rfl
                 rotate_left
                 ·simp only [Act.put,List.setIfInBounds_toArray,List.set_cons_zero,List.set_cons_succ,i64_w,i32_w]
                  rfl
                 refine pure_ (i:=67) (N:=some 0) (v:=?_) (a':=?_) #[true,true,true,true,true,true,true,true,true,true,true,true,true,true,true,true,true,true,true,true,true,true,true,true,true,true,true,true,true,true,true,true,true,true,true,true,true,true,true,true,true,true,true,true,true,true,true,true,true,true,true,true,true,true,true,true,true,true,true,true,true,true,true,true,true,true,true,true] rfl rfl (any_of HT_.out (by kernel_rfl)) (fun _ _ _ h=>h) (Or.inl ⟨by rfl,?_⟩) ?_ ?_
                 rotate_left
                 ·intro w'
                  go_simp
                  with_reducible rfl
                 rotate_left
                 ·simp only [Act.put,List.setIfInBounds_toArray,List.set_cons_zero,List.set_cons_succ,i64_w,i32_w]
                  rfl
                 refine done_ (done_of HT_.out (by kernel_rfl)) ?_
                 try go_wp2
                 go_ret
                 exact ⟨by first|rfl|(simp [errW_none,errW_some]<;>rfl)|(simp [*,errW_none,errW_some]<;>rfl),by repeat (first|(with_reducible first|exact HB.out|apply below_alloc|apply pw_below_drewN|apply below_drew1|refine below_set ?_ GE104.out|refine below_set ?_ GE128.out)|exact HB.out)⟩
                ·rw [if_neg c25] at H
                 exact absurd H (by simp)
               ·replace c24:=Bool.eq_false_iff.mpr c24
                subst c24
                have H1:(none)=some r:=by rw [if_neg (show ¬ (false=true) by decide)] at H;exact H
                clear H
                have H:=H1
                clear H1
                exact absurd H (by simp)
              ·rw [if_neg c23] at H
               exact absurd H (by simp)
            ·rw [if_neg c21] at H
             exact absurd H (by simp)
           ·replace c20:=Bool.eq_false_iff.mpr c20
            subst c20
            have H1:(none)=some r:=by rw [if_neg (show ¬ (false=true) by decide)] at H;exact H
            clear H
            have H:=H1
            clear H1
            exact absurd H (by simp)
          ·rw [if_neg c19] at H
           exact absurd H (by simp)
         ·rw [if_neg c18] at H
          exact absurd H (by simp)
        ·rw [if_neg c17] at H
         exact absurd H (by simp)
       ·rw [if_neg c16] at H
        exact absurd H (by simp)
      ·rw [if_neg c15] at H
       exact absurd H (by simp)
     ·rw [if_neg c14] at H
      exact absurd H (by simp)
    ·replace c12:=Bool.eq_false_iff.mpr c12
     subst c12
     have H1:(none)=some r:=by rw [if_neg (show ¬ (false=true) by decide)] at H;exact H
     clear H
     have H:=H1
     clear H1
     exact absurd H (by simp)
   ·rw [if_neg c10] at H
    exact absurd H (by simp)
  ·rw [if_neg c9] at H
   exact absurd H (by simp)
 ·rw [if_neg c8] at H
  exact absurd H (by simp)
end Go.Proofs.YtehdmplngmbnnaaDoor.P
namespace Go.Proofs.YtehdmplngmbnnaaDoor.P
open Go.RowKit Go.Proofs.YtehdmplngmbnnaaDoorW.PrintWords
set_option maxRecDepth 1000000
theorem awake_200:sawmilllaw37_awake.f 200=some true:=by kernel_rfl
theorem awake_ge (k:Nat):sawmilllaw37_awake.f (200+k)=some true:=by
 induction k with
 | zero=>exact awake_200
 | succ k ih=>exact sawmilllaw37_awake.mono _ _ ih
theorem awake_at (k:Nat) (h:200≤k):sawmilllaw37_awake.f k=some true:=by
 obtain ⟨m,rfl⟩:∃ m,k=200+m:=⟨k - 200,by omega⟩
 exact awake_ge m
end Go.Proofs.YtehdmplngmbnnaaDoor.P
namespace Go.Proofs.YtehdmplngmbnnaaDoor.P
open Go.ChangeShapes Go.WideShapes Go.ChangeAt Go.RowKit
set_option linter.unusedVariables false
theorem own:ownKnob Tryd.prog.godebug=none:=by kernel_rfl
theorem laidOut:laidOutB Tryd.prog=true:=by kernel_rfl
def laid5 : List (String × DataW Unit) := [("math/bits.deBruijn32tab", Rows.laid_math_bits_deBruijn32tab), ("math/bits.deBruijn64tab", Rows.laid_math_bits_deBruijn64tab), ("internal/strconv.uint64pow10", Rows.laid_internal_strconv_uint64pow10), ("sawmill/schedule.limits", Rows.laid_sawmill_schedule_limits), ("sawmill/schedule.words", Rows.laid_sawmill_schedule_words)]
set_option maxRecDepth 100000 in
theorem door_met (os:Os) (args:Array Value):laidMetH Tryd.prog laid5 ((World.doorLaid Tryd.prog 38 os).forCall (fun _ _=>0) ⟨#[],args,[]⟩).memory :=
 laidMetH_of_parts3 (fuel:=8) (laidMet_of_run' 8 (by kernel_rfl) (by kernel_rfl)) (by kernel_rfl) (by kernel_rfl)
theorem split2 {α:Type} {l:List α} {n:Nat} {a b:List α} (ha:l.take n=a) (hb:l.drop n=b):l=a++b:=by rw [← ha,← hb,List.take_append_drop]
set_option maxRecDepth 100000 in
theorem glob_of {W:World} (h:laidMetH Tryd.prog laid5 W):Glob W:=by
 rw [MakeChecks.laidMetH_plain _ _ _ (by kernel_rfl)] at h
 have h3:=(h.tail).tail
 have htab : Lib.TabIs Tryd.prog W "internal/strconv.uint64pow10" .u64 Lib.pow10Tab := Lib.tabIs_of_head (t := 107) (e := 100) (n := 20) gTab (by kernel_rfl) (by kernel_rfl) (by kernel_rfl) (by kernel_rfl) (by kernel_rfl) h3
 obtain ⟨ps,⟨g0,t0,cs0,f0,p0,q0,hg0,ht0,hv0,hd0,⟨g1,t1,cs1,f1,p1,q1,hg1,ht1,hv1,hd1,_,_⟩,_⟩,_,_⟩:=(h3.tail)
 have tL:(Tryd.prog.globals[0]?).map (·.type)=some 59:=by kernel_rfl
 have tW:(Tryd.prog.globals[1]?).map (·.type)=some 63:=by kernel_rfl
 obtain rfl:=Option.some.inj (gLim.symm.trans hg0)
 obtain rfl:=Option.some.inj (gWds.symm.trans hg1)
 obtain rfl:=Option.some.inj (tL.symm.trans ht0)
 obtain rfl:=Option.some.inj (tW.symm.trans ht1)
 have c2:Tryd.prog.cellsOf 49=2:=by kernel_rfl
 have c8:Tryd.prog.cellsOf 59=8:=by kernel_rfl
 have c1:Tryd.prog.cellsOf 9=1:=by kernel_rfl
 have c3:Tryd.prog.cellsOf 63=3:=by kernel_rfl
 refine ⟨htab,?_,?_⟩
 ·obtain ⟨xs,m,rfl,hx,hlen,hn,hel⟩:=DataW.trod_array (show Tryd.prog.underlying 59=some (.array 4 49) by kernel_rfl) hd0
  rw [c2] at hel
  rw [c8] at hlen
  simp only [Prod.mk.injEq,Rows.laid_sawmill_schedule_limits,DataW.agg.injEq] at hx
  match xs,hn,hx,hel with
  | [x0,x1,x2,x3],_,hx,hel =>
   simp only [List.map_cons,List.map_nil,List.cons.injEq,and_true] at hx
   obtain ⟨⟨e0,e1,e2,e3⟩,-⟩:=hx
   have arr:∀ (i:Nat) (a b:Int) (x:DataW Unit × List MemPlace),DataW.trod (fun _=>()) Tryd.prog W 0 (fun _=>true) false m 49 ((cs0.toList.drop (i * 2)).take 2)=some x→DataW.agg [.lit (.int .i64 a),.lit (.int .i64 b)]=x.1→(cs0.toList.drop (i * 2)).take 2=[.int .i64 a,.int .i64 b]:=by
    intro i a b x h e
    obtain ⟨d,p⟩:=x
    cases e
    exact Lib.cells_of_tab (zs:=[a,b]) (n:=2) (by kernel_rfl) (show Tryd.prog.underlying 3=some (.int .i64) by kernel_rfl) (by kernel_rfl) (by kernel_rfl) h
   have a0:=arr 0 _ _ _ (hel 0 (by decide)) e0
   have a1:=arr 1 _ _ _ (hel 1 (by decide)) e1
   have a2:=arr 2 _ _ _ (hel 2 (by decide)) e2
   have a3:=arr 3 _ _ _ (hel 3 (by decide)) e3
   have hl:cs0.toList=[.int .i64 0,.int .i64 20000,.int .i64 0,.int .i64 10000,.int .i64 200,.int .i64 1200,.int .i64 0,.int .i64 400]:=by
    match hc:cs0.toList,hlen with
    | [y0,y1,y2,y3,y4,y5,y6,y7],_ =>
     rw [hc] at a0 a1 a2 a3
     simp at a0 a1 a2 a3
     simp [a0,a1,a2,a3]
   rw [hv0]
   exact congrArg some (Array.toList_inj.mp (by rw [hl]))
 ·obtain ⟨xs,m,rfl,hx,hlen,hn,hel⟩:=DataW.trod_array (show Tryd.prog.underlying 63=some (.array 3 9) by kernel_rfl) hd1
  rw [c1] at hel
  rw [c3] at hlen
  simp only [Prod.mk.injEq,Rows.laid_sawmill_schedule_words,DataW.agg.injEq] at hx
  match xs,hn,hx,hel with
  | [x0,x1,x2],_,hx,hel =>
   simp only [List.map_cons,List.map_nil,List.cons.injEq,and_true] at hx
   obtain ⟨⟨e0,e1,e2⟩,-⟩:=hx
   have str:∀ (i:Nat) (a:List UInt8) (x:DataW Unit × List MemPlace),DataW.trod (fun _=>()) Tryd.prog W 0 (fun _=>true) false m 9 ((cs1.toList.drop (i * 1)).take 1)=some x→DataW.lit (.string a)=x.1→(cs1.toList.drop (i * 1)).take 1=[.string ⟨a.toArray⟩]:=by
    intro i a x h e
    obtain ⟨s,hs,hx,_⟩:=DataW.trod_string (show Tryd.prog.underlying 9=some .string by kernel_rfl) h
    rw [hx] at e
    simp only [DataW.lit.injEq,Lit.string.injEq] at e
    rw [hs,e]
   have a0:=str 0 _ _ (hel 0 (by decide)) e0
   have a1:=str 1 _ _ (hel 1 (by decide)) e1
   have a2:=str 2 _ _ (hel 2 (by decide)) e2
   have hl:cs1.toList=[.string ⟨#[98,101,108,111,119]⟩,.string ⟨#[102,111,114]⟩,.string ⟨#[97,116]⟩]:=by
    match hc:cs1.toList,hlen with
    | [y0,y1,y2],_ =>
     rw [hc] at a0 a1 a2
     simp at a0 a1 a2
     simp [a0,a1,a2]
   rw [hv1]
   exact congrArg some (Array.toList_inj.mp (by rw [hl]))
end Go.Proofs.YtehdmplngmbnnaaDoor.P
namespace Go.Proofs.YtehdmplngmbnnaaDoor.P
open Go.ChangeShapes Go.WideShapes Go.ChangeAt Go.RowKit Go.WideElems Go.Deep Go.Proofs.YtehdmplngmbnnaaDoorW.PrintWords
set_option linter.unusedVariables false
def Opens {α:Type} (d:Kd α) (t:TypeId):Prop:=∀ (H:Type) (enc:TypeId × Value→H) (w:World) (fuel:Nat) (cs:List Value) (x:DataW H × List MemPlace),DataW.trod enc Tryd.prog w 0 (fun _=>true) true fuel t cs=some x→∃ a:α,d.K w a cs
theorem opens_int {t:TypeId} (ht:Tryd.prog.underlying t=some (.int .i64)):Opens (Kd.int .i64) t:=by
 intro H enc w fuel cs x h
 obtain ⟨n,hc,_⟩:=DataW.trod_int ht h
 exact ⟨n,hc⟩
theorem opens_str {t:TypeId} (ht:Tryd.prog.underlying t=some .string):Opens Kd.string t:=by
 intro H enc w fuel cs x h
 obtain ⟨s,hc,_⟩:=DataW.trod_string ht h
 exact ⟨s,hc⟩
theorem opens_slice {α:Type} {d:Kd α} {t e:TypeId} (ht:Tryd.prog.underlying t=some (.slice e)) (hd:Opens d e) (hc:Tryd.prog.cellsOf e=d.sz):Opens (Kd.slice e d) t:=by
 intro H enc w fuel cs x h
 rcases open_slice ht h with ⟨rfl,_⟩|⟨a,len,cap,m,n,D,Pl,rfl,_,hl,hm,em,_,hel⟩
 ·exact ⟨[],none,0,rfl,Nat.le_refl _,rfl,Nat.zero_le _,fun h=>absurd h (by simp)⟩
 ·have hlm:len≤m:=by rw [em];simpa using hl
  have hex:∀ i:Fin len,∃ y:α,∃ cs',w.cells? 0 (a.add (i.val * d.sz)) d.sz=some cs'∧d.K w y cs':=by
   intro i
   obtain ⟨cs',h1,h2⟩:=hel i.val (Nat.lt_of_lt_of_le i.isLt hlm)
   obtain ⟨y,hy⟩:=hd H enc w n cs' _ h2
   rw [hc] at h1
   exact ⟨y,cs',h1,hy⟩
  let f:Fin len→α:=fun i=>Classical.choose (hex i)
  have hf:∀ i:Fin len,∃ cs',w.cells? 0 (a.add (i.val * d.sz)) d.sz=some cs'∧d.K w (f i) cs':=fun i=>Classical.choose_spec (hex i)
  have hlen:(List.ofFn f).length=len:=List.length_ofFn
  refine ⟨List.ofFn f,some a,cap,by rw [hlen],by rw [hlen];exact hl,by rfl,by rw [hlen];exact Nat.le_trans (Nat.le_trans hl hm) (by decide +kernel),?_⟩
  intro _
  refine ⟨a,rfl,?_⟩
  intro j p hp
  have hj:j < len:=by
   rcases Nat.lt_or_ge j len with h|h
   ·exact h
   ·rw [List.getElem?_eq_none (by rw [hlen];exact h)] at hp
    cases hp
  rw [List.getElem?_eq_getElem (by rw [hlen];exact hj)] at hp
  obtain rfl:=Option.some.inj hp
  obtain ⟨cs',h1,h2⟩:=hf ⟨j,hj⟩
  refine ⟨cs',d.K_len h2,by rw [List.getElem_ofFn];exact h2,?_⟩
  intro i u hu
  obtain ⟨_,h3,h4⟩:=World.cells?_some h1
  have hi:i < d.sz:=by
   rcases Nat.lt_or_ge i d.sz with h|h
   ·exact h
   ·rw [List.getElem?_eq_none (by omega)] at hu
    cases hu
  rw [← Go.Deep.add_add]
  exact (h4 i hi).trans hu
theorem opens_fields {H:Type} {enc:TypeId × Value→H} {w:World} {fuel:Nat} {t:TypeId} {fs:Array Field} {cs:List Value} {x:DataW H × List MemPlace} (ht:Tryd.prog.underlying t=some (.struct fs)) (h:DataW.trod enc Tryd.prog w 0 (fun _=>true) true fuel t cs=some x) :
  cs.length=Tryd.prog.cellsOf t∧∀ (i:Nat) (ty off n:Nat) {α:Type} (d:Kd α),(fs[i]?).map (fun f=>(f.type,f.offset))=some (ty,off)→Tryd.prog.cellsOf ty=n→Opens d ty→∃ a:α,d.K w a ((cs.drop off).take n):=by
 obtain ⟨xs,n,rfl,_,hl,hxl,hel⟩:=DataW.trod_struct ht h
 refine ⟨hl,fun i ty off n' α d hf hn hd=>?_⟩
 obtain ⟨f,hf',he⟩:=Option.map_eq_some_iff.mp hf
 clear hf
 have hf:=hf'
 obtain ⟨rfl,rfl⟩:=Prod.mk.inj he
 subst hn
 have hi:i < fs.size:=by
  rcases Nat.lt_or_ge i fs.size with h|h
  ·exact h
  ·rw [Array.getElem?_eq_none h] at hf
   cases hf
 have:=hel i f hf
 rw [List.getElem?_eq_getElem (by omega)] at this
 exact hd H enc w n _ _ this
theorem opens_elems {H:Type} {enc:TypeId × Value→H} {w:World} {fuel n:Nat} {t e:TypeId} {cs:List Value} {x:DataW H × List MemPlace} {α:Type} {d:Kd α} (ht:Tryd.prog.underlying t=some (.array n e)) (hd:Opens d e) (h:DataW.trod enc Tryd.prog w 0 (fun _=>true) true fuel t cs=some x) :
  cs.length=Tryd.prog.cellsOf t∧∀ i,i < n→∃ a:α,d.K w a ((cs.drop (i * Tryd.prog.cellsOf e)).take (Tryd.prog.cellsOf e)):=by
 obtain ⟨xs,m,rfl,_,hl,hxl,hel⟩:=DataW.trod_array ht h
 refine ⟨hl,fun i hi=>?_⟩
 have:=hel i hi
 rw [List.getElem?_eq_getElem (by omega)] at this
 exact hd H enc w m _ _ this
theorem uInt:Tryd.prog.underlying 3=some (.int .i64):=by kernel_rfl
theorem uStr:Tryd.prog.underlying 9=some .string:=by kernel_rfl
theorem cInt:Tryd.prog.cellsOf 3=1:=by kernel_rfl
theorem cStr:Tryd.prog.cellsOf 9=1:=by kernel_rfl
theorem opens_stage:Opens k52 52:=by
 intro H enc w fuel cs x h
 obtain ⟨hl,hf⟩:=opens_fields Tryd.underlying52 h
 rw [show Tryd.prog.cellsOf 52=4 by kernel_rfl] at hl
 obtain ⟨a0,h0⟩:=hf 0 3 0 1 (Kd.int .i64) (by kernel_rfl) cInt (opens_int uInt)
 obtain ⟨a1,h1⟩:=hf 1 3 1 1 (Kd.int .i64) (by kernel_rfl) cInt (opens_int uInt)
 obtain ⟨a2,h2⟩:=hf 2 3 2 1 (Kd.int .i64) (by kernel_rfl) cInt (opens_int uInt)
 obtain ⟨a3,h3⟩:=hf 3 3 3 1 (Kd.int .i64) (by kernel_rfl) cInt (opens_int uInt)
 match cs,hl with
 | [c0,c1,c2,c3],_ =>
  obtain rfl:c0=.int .i64 a0:=(List.cons.inj h0).1
  obtain rfl:c1=.int .i64 a1:=(List.cons.inj h1).1
  obtain rfl:c2=.int .i64 a2:=(List.cons.inj h2).1
  obtain rfl:c3=.int .i64 a3:=(List.cons.inj h3).1
  exact ⟨⟨a0,a1,a2,a3⟩,k52_mk w ⟨a0,a1,a2,a3⟩⟩
theorem opens_sched:Opens k24 24:=by
 intro H enc w fuel cs x h
 obtain ⟨hl,hf⟩:=opens_fields Tryd.underlying24 h
 rw [show Tryd.prog.cellsOf 24=3 by kernel_rfl] at hl
 obtain ⟨a0,h0⟩:=hf 0 9 0 1 Kd.string (by kernel_rfl) cStr (opens_str uStr)
 obtain ⟨a1,h1⟩:=hf 1 3 1 1 (Kd.int .i64) (by kernel_rfl) cInt (opens_int uInt)
 obtain ⟨a2,h2⟩:=hf 2 22 2 1 (Kd.slice 52 k52) (by kernel_rfl) (by kernel_rfl) (opens_slice Tryd.underlying22 opens_stage (by kernel_rfl))
 match cs,hl with
 | [c0,c1,c2],_ =>
  obtain rfl:c0=.string a0:=(List.cons.inj h0).1
  obtain rfl:c1=.int .i64 a1:=(List.cons.inj h1).1
  obtain ⟨A,c,e2,hlc,hC⟩:=h2
  obtain rfl:c2=.slice A a2.length c:=(List.cons.inj e2).1
  exact ⟨⟨a0,a1,a2⟩,k24_mk w ⟨a0,a1,a2⟩ hlc hC⟩
theorem opens_scheds:Opens (Kd.slice 24 k24) 25:=opens_slice Tryd.underlying25 opens_sched (by kernel_rfl)
end Go.Proofs.YtehdmplngmbnnaaDoor.P
namespace Go.Proofs.YtehdmplngmbnnaaDoor.P
open Go.ChangeShapes Go.WideShapes Go.ChangeAt Go.RowKit Go.Proofs.YtehdmplngmbnnaaDoorW.PrintWords
set_option linter.unusedVariables false
theorem okWide_array {P:Program} {w:World} {r:Reach} {base:Nat} {t e:TypeId} {n:Nat} {v:Value} (ht:P.underlying t=some (.array n e)) (h:Value.okWide P w r base t v):∃ cs,v=.agg cs∧cs.size=P.cellsOf t:=by
 simp only [Value.okWide,ht] at h
 obtain ⟨cs,h1,h2,_⟩:=h
 exact ⟨cs,h1,h2⟩
theorem ui3:Tryd.prog.underlying 35=some (.array 3 3):=by kernel_rfl
theorem ui2:Tryd.prog.underlying 49=some (.array 2 3):=by kernel_rfl
theorem opens_i3 (H:Type) (enc:TypeId × Value→H) (w:World) (fuel:Nat) (cs:List Value) (x:DataW H × List MemPlace) (h:DataW.trod enc Tryd.prog w 0 (fun _=>true) true fuel 35 cs=some x):∃ a b c:Int,cs=[.int .i64 a,.int .i64 b,.int .i64 c]:=by
 obtain ⟨hl,hf⟩:=opens_elems ui3 (opens_int uInt) h
 rw [show Tryd.prog.cellsOf 35=3 by kernel_rfl] at hl
 rw [cInt] at hf
 obtain ⟨a0,h0⟩:=hf 0 (by decide)
 obtain ⟨a1,h1⟩:=hf 1 (by decide)
 obtain ⟨a2,h2⟩:=hf 2 (by decide)
 match cs,hl with
 | [c0,c1,c2],_ =>
  obtain rfl:c0=.int .i64 a0:=(List.cons.inj h0).1
  obtain rfl:c1=.int .i64 a1:=(List.cons.inj h1).1
  obtain rfl:c2=.int .i64 a2:=(List.cons.inj h2).1
  exact ⟨a0,a1,a2,rfl⟩
theorem opens_i2 (H:Type) (enc:TypeId × Value→H) (w:World) (fuel:Nat) (cs:List Value) (x:DataW H × List MemPlace) (h:DataW.trod enc Tryd.prog w 0 (fun _=>true) true fuel 49 cs=some x):∃ a b:Int,cs=[.int .i64 a,.int .i64 b]:=by
 obtain ⟨hl,hf⟩:=opens_elems ui2 (opens_int uInt) h
 rw [show Tryd.prog.cellsOf 49=2 by kernel_rfl] at hl
 rw [cInt] at hf
 obtain ⟨a0,h0⟩:=hf 0 (by decide)
 obtain ⟨a1,h1⟩:=hf 1 (by decide)
 match cs,hl with
 | [c0,c1],_ =>
  obtain rfl:c0=.int .i64 a0:=(List.cons.inj h0).1
  obtain rfl:c1=.int .i64 a1:=(List.cons.inj h1).1
  exact ⟨a0,a1,rfl⟩
theorem opens_spec (H:Type) (enc:TypeId × Value→H) (w:World) (fuel:Nat) (cs:List Value) (x:DataW H × List MemPlace) (h:DataW.trod enc Tryd.prog w 0 (fun _=>true) true fuel 37 cs=some x):∃ (a0:ByteArray) (a1 a2 a3 a4 a5 a6 a7 a8 a9 a10 a11 a12:Int),cs=[.string a0,.int .i64 a1,.int .i64 a2,.int .i64 a3,.int .i64 a4,.int .i64 a5,.int .i64 a6,.int .i64 a7,.int .i64 a8,.int .i64 a9,.int .i64 a10,.int .i64 a11,.int .i64 a12]:=by
 obtain ⟨hl,hf⟩:=opens_fields Tryd.underlying37 h
 rw [show Tryd.prog.cellsOf 37=13 by kernel_rfl] at hl
 obtain ⟨a0,h0⟩:=hf 0 9 0 1 Kd.string (by kernel_rfl) cStr (opens_str uStr)
 obtain ⟨a1,h1⟩:=hf 1 3 1 1 (Kd.int .i64) (by kernel_rfl) cInt (opens_int uInt)
 obtain ⟨a2,h2⟩:=hf 2 3 2 1 (Kd.int .i64) (by kernel_rfl) cInt (opens_int uInt)
 obtain ⟨a3,h3⟩:=hf 3 3 3 1 (Kd.int .i64) (by kernel_rfl) cInt (opens_int uInt)
 obtain ⟨a4,h4⟩:=hf 4 3 4 1 (Kd.int .i64) (by kernel_rfl) cInt (opens_int uInt)
 obtain ⟨a5,h5⟩:=hf 5 3 5 1 (Kd.int .i64) (by kernel_rfl) cInt (opens_int uInt)
 obtain ⟨a6,h6⟩:=hf 6 3 6 1 (Kd.int .i64) (by kernel_rfl) cInt (opens_int uInt)
 obtain ⟨a7,h7⟩:=hf 7 3 7 1 (Kd.int .i64) (by kernel_rfl) cInt (opens_int uInt)
 obtain ⟨a8,h8⟩:=hf 8 3 8 1 (Kd.int .i64) (by kernel_rfl) cInt (opens_int uInt)
 obtain ⟨a9,h9⟩:=hf 9 3 9 1 (Kd.int .i64) (by kernel_rfl) cInt (opens_int uInt)
 obtain ⟨a10,h10⟩:=hf 10 3 10 1 (Kd.int .i64) (by kernel_rfl) cInt (opens_int uInt)
 obtain ⟨a11,h11⟩:=hf 11 3 11 1 (Kd.int .i64) (by kernel_rfl) cInt (opens_int uInt)
 obtain ⟨a12,h12⟩:=hf 12 3 12 1 (Kd.int .i64) (by kernel_rfl) cInt (opens_int uInt)
 match cs,hl with
 | [c0,c1,c2,c3,c4,c5,c6,c7,c8,c9,c10,c11,c12],_ =>
  obtain rfl:c0=.string a0:=(List.cons.inj h0).1
  obtain rfl:c1=.int .i64 a1:=(List.cons.inj h1).1
  obtain rfl:c2=.int .i64 a2:=(List.cons.inj h2).1
  obtain rfl:c3=.int .i64 a3:=(List.cons.inj h3).1
  obtain rfl:c4=.int .i64 a4:=(List.cons.inj h4).1
  obtain rfl:c5=.int .i64 a5:=(List.cons.inj h5).1
  obtain rfl:c6=.int .i64 a6:=(List.cons.inj h6).1
  obtain rfl:c7=.int .i64 a7:=(List.cons.inj h7).1
  obtain rfl:c8=.int .i64 a8:=(List.cons.inj h8).1
  obtain rfl:c9=.int .i64 a9:=(List.cons.inj h9).1
  obtain rfl:c10=.int .i64 a10:=(List.cons.inj h10).1
  obtain rfl:c11=.int .i64 a11:=(List.cons.inj h11).1
  obtain rfl:c12=.int .i64 a12:=(List.cons.inj h12).1
  exact ⟨a0,a1,a2,a3,a4,a5,a6,a7,a8,a9,a10,a11,a12,rfl⟩
end Go.Proofs.YtehdmplngmbnnaaDoor.P
