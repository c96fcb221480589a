/-
  The walks of the functions that the statements of this chapter reach, each told as a plain function; no conditions.
-/
import Derived.Test.YtojkjhaobjidlaaDoorMb2
import Derived.Lib.ItoaLen
import Derived.Lib.Builder
import Derived.Lib.AppendStr
import Derived.Lib.Slices
import Derived.Laws.Externs
import Derived.Test.YtojkjhaobjidlaaDoorRows
import Derived.ProofKit
import Derived.LaidMore
import Derived.OpenShut
import Derived.MakeChecks
import Derived.Stop.LaidErr
import Derived.Lib.LaidTab
import Derived.ChangeArms
import Derived.DataReads
import Derived.Deep.Slices
namespace Go.Proofs.YtojkjhaobjidlaaDoor.P
open Go.RowKit Go.Proofs.YtojkjhaobjidlaaDoorW.PrintWords Go.Proofs.YtojkjhaobjidlaaDoorW.PrintLast Go.Proofs.YtojkjhaobjidlaaDoorW.PrintMore
attribute [local go_sem] max2_int min2_int max_two min_two max_three min_three max_four min_four
attribute [local go_sem] cell_twice
set_option linter.unusedVariables false
set_option linter.unusedSimpArgs false
def product_Price.l0:Nat→Int→List Int→Int→Int→ByteArray→Int→Int→Int→Int→List Int→List Int→Option (Int × Bool)
 | 0,_,_,_,_,_,_,_,_,_,_,_=>none
 | k+1,x1,x9,x10,x11,x102000,x102001,x102002,x102003,x102004,x102005,x102006=>if x11 < x10 then (if 0≤x11 then (if x11 < (x9.length:Int) then (if (rd x9 x11)=x1 then (if x11 ≥ (x102006.length:Int) then (some (0,false)) else (if x11 < (x102006.length:Int) then (some (rd x102006 x11,true)) else (none))) else (product_Price.l0 k x1 x9 x10 (wrap64 (x11+1)) x102000 x102001 x102002 x102003 x102004 x102005 x102006)) else (none)) else (none)) else (some (0,false))
def product_Price.f (k:Nat) (a0_0:ByteArray) (a0_1:Int) (a0_2:Int) (a0_3:Int) (a0_4:Int) (l0_5:List Int) (l0_6:List Int) (a1:Int):Option (Int × Bool):=product_Price.l0 k a1 l0_5 (l0_5.length:Int) 0 a0_0 a0_1 a0_2 a0_3 a0_4 l0_5 l0_6
theorem product_Price.mono_l:∀ k,(∀ y0 y1 y2 y3 y4 y5 y6 y7 y8 y9 y10,LeO (product_Price.l0 k y0 y1 y2 y3 y4 y5 y6 y7 y8 y9 y10) (product_Price.l0 (k+1) y0 y1 y2 y3 y4 y5 y6 y7 y8 y9 y10))
 | 0=>fun _ _ _ _ _ _ _ _ _ _ _ r h=>by simp [product_Price.l0] at h
 | k+1=>by
  have ih0:=product_Price.mono_l k
  ·intro y0 y1 y2 y3 y4 y5 y6 y7 y8 y9 y10
   unfold product_Price.l0
   repeat' first
   | (with_reducible exact ih0 _ _ _ _ _ _ _ _ _ _ _)
   | (with_reducible exact LeO.refl _)
   | (with_reducible exact LeO.none _)
   | (with_reducible refine LeO.ite ?_ ?_)
   | (with_reducible refine LeO.bind ?_ (fun _=>?_))
   | exact ih0 _ _ _ _ _ _ _ _ _ _ _
   | exact LeO.none _
   | refine LeO.ite ?_ ?_
   | refine LeO.bind ?_ (fun _=>?_)
theorem product_Price.mono:∀ a0 a1 a2 a3 a4 a5 a6 a7 k,LeO (product_Price.f k a0 a1 a2 a3 a4 a5 a6 a7) (product_Price.f (k+1) a0 a1 a2 a3 a4 a5 a6 a7):=by
 intro a0 a1 a2 a3 a4 a5 a6 a7 k
 have ih0:=product_Price.mono_l k
 unfold product_Price.f
 repeat' first
   | (with_reducible exact ih0 _ _ _ _ _ _ _ _ _ _ _)
   | (with_reducible exact LeO.refl _)
   | (with_reducible exact LeO.none _)
   | (with_reducible refine LeO.ite ?_ ?_)
   | (with_reducible refine LeO.bind ?_ (fun _=>?_))
   | exact ih0 _ _ _ _ _ _ _ _ _ _ _
   | exact LeO.none _
   | refine LeO.ite ?_ ?_
   | refine LeO.bind ?_ (fun _=>?_)
set_option maxHeartbeats 8000000 in
set_option maxRecDepth 100000 in
theorem product_Price.calls (k:Nat) (a0_0:ByteArray) (a0_1:Int) (a0_2:Int) (a0_3:Int) (a0_4:Int) (A0_5:Option Addr) (c0_5:Nat) (l0_5:List Int) (A0_6:Option Addr) (c0_6:Nat) (l0_6:List Int) (a1:Int) (r1:Int) (r2:Bool) (w:World) (hr0_5:Kd.C (Kd.int .i64) w A0_5 l0_5.length l0_5) (hc0_5:l0_5.length≤c0_5) (hr0_6:Kd.C (Kd.int .i64) w A0_6 l0_6.length l0_6) (hc0_6:l0_6.length≤c0_6) (h:product_Price.f k a0_0 a0_1 a0_2 a0_3 a0_4 l0_5 l0_6 a1=some (r1,r2)) :
  Calls Tryd.prog 29 #[.agg #[.string a0_0,.int .i64 a0_1,.int .i64 a0_2,.int .i64 a0_3,.int .i64 a0_4,.slice A0_5 l0_5.length c0_5,.slice A0_6 l0_6.length c0_6],.int .i64 a1] w fun e w'=>e=.returned (.tuple #[.int .i64 r1,.bool r2])∧Below w.heap.size w w':=by
 have hu53:=Tryd.underlying53
 have HR0_5:=Aside0.mk hr0_5
 have HC0_5:=Aside0.mk hc0_5
 clear hr0_5 hc0_5
 have HR0_6:=Aside0.mk hr0_6
 have HC0_6:=Aside0.mk hc0_6
 clear hr0_6 hc0_6
 have HB:=Aside0.mk (Below.refl w.heap.size w)
 have H:(product_Price.l0 k a1 l0_5 (l0_5.length:Int) 0 a0_0 a0_1 a0_2 a0_3 a0_4 l0_5 l0_6)=some (r1,r2):=h
 clear h
 have H':=Aside0.mk H
 clear H
 go_enter Tryd.func29,Tryd.ntmps29
 go_wp2_with (first|((with_reducible refine gate_dst (N:=2) rfl ?_);refine box_event ?hg (N:=2) ?hd (cs:=#[.string a0_0,.int .i64 a0_1,.int .i64 a0_2,.int .i64 a0_3,.int .i64 a0_4,.slice A0_5 l0_5.length c0_5,.slice A0_6 l0_6.length c0_6]) (t:=53) ?hr ?_;(case hd=>rfl);(case hg=>rfl);(case hr=>first|(go_simp;done)|(go_simp;rfl));intro gb101 hg w3 hbox hb;have n0_:=Aside0.mk (below_step (by repeat (first|(with_reducible first|exact HB.out|apply below_alloc|apply pw_below_drewN|apply below_drew1)|exact HB.out)) hb);have n1_:=Aside0.mk (hbox);have n2_:=Aside0.mk ((by rw [hg];exact (below_size (by repeat (first|(with_reducible first|exact HB.out|apply below_alloc|apply pw_below_drewN|apply below_drew1)|exact HB.out))):w.heap.size≤gb101));have n3_:=Aside0.mk ((by rw [hg];exact (below_size (by repeat (first|(with_reducible first|exact HB.out|apply below_alloc|apply pw_below_drewN|apply below_drew1)|exact HB.out))):w.heap.size≤gb101));clear HB;have HB:=n0_;have BK101:=n1_;have GW101:=n2_;have GE101:=n3_;clear n0_ n1_ n2_ n3_;clear hb hbox hg;have hcz4_0:w3.cell? ⟨gb101,0,none⟩=some (.string a0_0):=(blk_cell BK101.out 0).trans rfl;have hcz4_1:w3.cell? ⟨gb101,1,none⟩=some (.int .i64 a0_1):=(blk_cell BK101.out 1).trans rfl;have hcz4_2:w3.cell? ⟨gb101,2,none⟩=some (.int .i64 a0_2):=(blk_cell BK101.out 2).trans rfl;have hcz4_3:w3.cell? ⟨gb101,3,none⟩=some (.int .i64 a0_3):=(blk_cell BK101.out 3).trans rfl;have hcz4_4:w3.cell? ⟨gb101,4,none⟩=some (.int .i64 a0_4):=(blk_cell BK101.out 4).trans rfl;have hcz4_5:w3.cell? ⟨gb101,5,none⟩=some (.slice A0_5 l0_5.length c0_5):=(blk_cell BK101.out 5).trans rfl;have hcz4_6:w3.cell? ⟨gb101,6,none⟩=some (.slice A0_6 l0_6.length c0_6):=(blk_cell BK101.out 6).trans rfl;have hfz4_0:=blk_frozen BK101.out 0;have hfz4_1:=blk_frozen BK101.out 1;have hfz4_2:=blk_frozen BK101.out 2;have hfz4_3:=blk_frozen BK101.out 3;have hfz4_4:=blk_frozen BK101.out 4;have hfz4_5:=blk_frozen BK101.out 5;have hfz4_6:=blk_frozen BK101.out 6))
 go_loopg [11] k (fun kq v11 w'=>∃ (x11_1:Int),v11=.int .i64 x11_1∧Aside0 (product_Price.l0 kq a1 l0_5 (l0_5.length:Int) x11_1 a0_0 a0_1 a0_2 a0_3 a0_4 l0_5 l0_6=some (r1,r2))∧Aside0 (kq≤k)∧Aside0 (w'.heap[gb101]?=some (.cells #[.string a0_0,.int .i64 a0_1,.int .i64 a0_2,.int .i64 a0_3,.int .i64 a0_4,(.slice A0_5 l0_5.length c0_5),(.slice A0_6 l0_6.length c0_6)] 53 (0,0)))∧Aside0 (Below w.heap.size w w'))
 case atStart=>exact ⟨(0),(by first|rfl|(simp;done)|(simp [*];done)),H',⟨Nat.le_refl _⟩,⟨by (with_reducible repeat (first|refine blk_drewN ?_ _|refine blk_drew ?_|refine blk_alloc ?_ _));exact BK101.out⟩,⟨by repeat (first|(with_reducible first|exact HB.out|apply below_alloc|apply pw_below_drewN|apply below_drew1|refine below_set ?_ GE101.out)|exact HB.out)⟩⟩
 case round =>
  clear H'
  try clear c2
  try clear p2
  try clear hcz4_0
  try clear hcz4_1
  try clear hcz4_2
  try clear hcz4_3
  try clear hcz4_4
  try clear hcz4_5
  try clear hcz4_6
  try clear hfz4_0
  try clear hfz4_1
  try clear hfz4_2
  try clear hfz4_3
  try clear hfz4_4
  try clear hfz4_5
  try clear hfz4_6
  obtain ⟨x11_1,rfl,HA,HK1,BK101,HB⟩:=hrel
  cases gk with
  | zero=>exact absurd HA.out (by simp [product_Price.l0])
  | succ k1 =>
   have H:=HA.out
   clear HA
   simp only [product_Price.l0] at H
   by_cases c5:x11_1 < (l0_5.length:Int)
   ·rw [if_pos c5] at H
    have c5b0:decide (x11_1 < (l0_5.length:Int))=true:=decide_eq_true c5
    clear c5
    by_cases c6:0≤x11_1
    ·rw [if_pos c6] at H
     have c6b0:decide (0≤x11_1)=true:=decide_eq_true c6
     clear c6
     by_cases c7:x11_1 < (l0_5.length:Int)
     ·rw [if_pos c7] at H
      have c7b0:decide (x11_1 < (l0_5.length:Int))=true:=decide_eq_true c7
      clear c7
      by_cases c8:(rd l0_5 x11_1)=a1
      ·rw [if_pos c8] at H
       have c8b0:((rd l0_5 x11_1) == a1)=true:=beq_iff_eq.mpr c8
       have c8b1:((rd l0_5 x11_1) != a1)=false:=bne_eq_false_iff_eq.mpr c8
       clear c8
       by_cases c9:x11_1 ≥ (l0_6.length:Int)
       ·rw [if_pos c9] at H
        have c9b0:decide ((l0_6.length:Int)≤x11_1)=true:=decide_eq_true c9
        clear c9
        simp only [Option.some.injEq,Prod.mk.injEq] at H
        obtain ⟨rfl,rfl⟩:=H
        have p102:0≤(x11_1:Int):=of_decide_eq_true (by first|(with_reducible assumption)|assumption)
        have q102:x11_1 < (l0_5.length:Int):=of_decide_eq_true (by first|(with_reducible assumption)|assumption)
        obtain ⟨ad102,e102,hx102_0⟩:=Kd.at_int HR0_5.out x11_1 p102 q102
        cases e102
        replace hx102_0:=(HB.out.cell (World.block_lt_of_cell? w _ hx102_0)).trans hx102_0
        replace p102:=eq_true p102
        replace q102:=eq_true q102
        have hcz10_0:wr.cell? ⟨gb101,0,none⟩=some (.string a0_0):=(blk_cell BK101.out 0).trans rfl
        have hcz10_1:wr.cell? ⟨gb101,1,none⟩=some (.int .i64 a0_1):=(blk_cell BK101.out 1).trans rfl
        have hcz10_2:wr.cell? ⟨gb101,2,none⟩=some (.int .i64 a0_2):=(blk_cell BK101.out 2).trans rfl
        have hcz10_3:wr.cell? ⟨gb101,3,none⟩=some (.int .i64 a0_3):=(blk_cell BK101.out 3).trans rfl
        have hcz10_4:wr.cell? ⟨gb101,4,none⟩=some (.int .i64 a0_4):=(blk_cell BK101.out 4).trans rfl
        have hcz10_5:wr.cell? ⟨gb101,5,none⟩=some (.slice (some ad102) l0_5.length c0_5):=(blk_cell BK101.out 5).trans rfl
        have hcz10_6:wr.cell? ⟨gb101,6,none⟩=some (.slice A0_6 l0_6.length c0_6):=(blk_cell BK101.out 6).trans rfl
        have hfz10_0:=blk_frozen BK101.out 0
        have hfz10_1:=blk_frozen BK101.out 1
        have hfz10_2:=blk_frozen BK101.out 2
        have hfz10_3:=blk_frozen BK101.out 3
        have hfz10_4:=blk_frozen BK101.out 4
        have hfz10_5:=blk_frozen BK101.out 5
        have hfz10_6:=blk_frozen BK101.out 6
        go_wp2
        go_ret2
        exact ⟨by first|rfl|(simp [errW_none,errW_some]<;>rfl)|(simp [*,errW_none,errW_some]<;>rfl),by repeat (first|(with_reducible first|exact HB.out|apply below_alloc|apply pw_below_drewN|apply below_drew1|refine below_set ?_ GE101.out)|exact HB.out)⟩
       ·rw [if_neg c9] at H
        have c9b0:decide ((l0_6.length:Int)≤x11_1)=false:=decide_eq_false c9
        clear c9
        by_cases c11:x11_1 < (l0_6.length:Int)
        ·rw [if_pos c11] at H
         have c11b0:decide (x11_1 < (l0_6.length:Int))=true:=decide_eq_true c11
         clear c11
         simp only [Option.some.injEq,Prod.mk.injEq] at H
         obtain ⟨rfl,rfl⟩:=H
         have p102:0≤(x11_1:Int):=of_decide_eq_true (by first|(with_reducible assumption)|assumption)
         have q102:x11_1 < (l0_5.length:Int):=of_decide_eq_true (by first|(with_reducible assumption)|assumption)
         obtain ⟨ad102,e102,hx102_0⟩:=Kd.at_int HR0_5.out x11_1 p102 q102
         cases e102
         replace hx102_0:=(HB.out.cell (World.block_lt_of_cell? w _ hx102_0)).trans hx102_0
         replace p102:=eq_true p102
         replace q102:=eq_true q102
         have hcz12_0:wr.cell? ⟨gb101,0,none⟩=some (.string a0_0):=(blk_cell BK101.out 0).trans rfl
         have hcz12_1:wr.cell? ⟨gb101,1,none⟩=some (.int .i64 a0_1):=(blk_cell BK101.out 1).trans rfl
         have hcz12_2:wr.cell? ⟨gb101,2,none⟩=some (.int .i64 a0_2):=(blk_cell BK101.out 2).trans rfl
         have hcz12_3:wr.cell? ⟨gb101,3,none⟩=some (.int .i64 a0_3):=(blk_cell BK101.out 3).trans rfl
         have hcz12_4:wr.cell? ⟨gb101,4,none⟩=some (.int .i64 a0_4):=(blk_cell BK101.out 4).trans rfl
         have hcz12_5:wr.cell? ⟨gb101,5,none⟩=some (.slice (some ad102) l0_5.length c0_5):=(blk_cell BK101.out 5).trans rfl
         have hcz12_6:wr.cell? ⟨gb101,6,none⟩=some (.slice A0_6 l0_6.length c0_6):=(blk_cell BK101.out 6).trans rfl
         have hfz12_0:=blk_frozen BK101.out 0
         have hfz12_1:=blk_frozen BK101.out 1
         have hfz12_2:=blk_frozen BK101.out 2
         have hfz12_3:=blk_frozen BK101.out 3
         have hfz12_4:=blk_frozen BK101.out 4
         have hfz12_5:=blk_frozen BK101.out 5
         have hfz12_6:=blk_frozen BK101.out 6
         have p103:0≤(x11_1:Int):=of_decide_eq_true (by first|(with_reducible assumption)|assumption)
         have q103:x11_1 < (l0_6.length:Int):=of_decide_eq_true (by first|(with_reducible assumption)|assumption)
         obtain ⟨ad103,e103,hx103_0⟩:=Kd.at_int HR0_6.out x11_1 p103 q103
         cases e103
         replace hx103_0:=(HB.out.cell (World.block_lt_of_cell? w _ hx103_0)).trans hx103_0
         replace p103:=eq_true p103
         replace q103:=eq_true q103
         go_wp2
         go_ret2
         exact ⟨by first|rfl|(simp [errW_none,errW_some]<;>rfl)|(simp [*,errW_none,errW_some]<;>rfl),by repeat (first|(with_reducible first|exact HB.out|apply below_alloc|apply pw_below_drewN|apply below_drew1|refine below_set ?_ GE101.out)|exact HB.out)⟩
        ·rw [if_neg c11] at H
         exact absurd H (by simp)
      ·rw [if_neg c8] at H
       have c8b0:((rd l0_5 x11_1) == a1)=false:=beq_eq_false_iff_ne.mpr c8
       have c8b1:((rd l0_5 x11_1) != a1)=true:=bne_iff_ne.mpr c8
       have H':=Aside0.mk H
       clear H
       have p102:0≤(x11_1:Int):=of_decide_eq_true (by first|(with_reducible assumption)|assumption)
       have q102:x11_1 < (l0_5.length:Int):=of_decide_eq_true (by first|(with_reducible assumption)|assumption)
       obtain ⟨ad102,e102,hx102_0⟩:=Kd.at_int HR0_5.out x11_1 p102 q102
       cases e102
       replace hx102_0:=(HB.out.cell (World.block_lt_of_cell? w _ hx102_0)).trans hx102_0
       replace p102:=eq_true p102
       replace q102:=eq_true q102
       go_wp2
       go_roundg k1
       case measure=>have:=HK1.out;omega
       case rel=>exact ⟨(wrap64 (x11_1+1)),(by first|rfl|(simp;done)|(simp [*];done)),H',⟨by have:=HK1.out;omega⟩,⟨by (with_reducible repeat (first|refine blk_drewN ?_ _|refine blk_drew ?_|refine blk_alloc ?_ _));exact BK101.out⟩,⟨by repeat (first|(with_reducible first|exact HB.out|apply below_alloc|apply pw_below_drewN|apply below_drew1|refine below_set ?_ GE101.out)|exact HB.out)⟩⟩
     ·rw [if_neg c7] at H
      exact absurd H (by simp)
    ·rw [if_neg c6] at H
     exact absurd H (by simp)
   ·rw [if_neg c5] at H
    have c5b0:decide (x11_1 < (l0_5.length:Int))=false:=decide_eq_false c5
    clear c5
    simp only [Option.some.injEq,Prod.mk.injEq] at H
    obtain ⟨rfl,rfl⟩:=H
    go_wp2
    go_ret2
    exact ⟨by first|rfl|(simp [errW_none,errW_some]<;>rfl)|(simp [*,errW_none,errW_some]<;>rfl),by repeat (first|(with_reducible first|exact HB.out|apply below_alloc|apply pw_below_drewN|apply below_drew1|refine below_set ?_ GE101.out)|exact HB.out)⟩
end Go.Proofs.YtojkjhaobjidlaaDoor.P
namespace Go.Proofs.YtojkjhaobjidlaaDoor.P
open Go.RowKit Go.Proofs.YtojkjhaobjidlaaDoorW.PrintWords Go.Proofs.YtojkjhaobjidlaaDoorW.PrintLast Go.Proofs.YtojkjhaobjidlaaDoorW.PrintMore
attribute [local go_sem] max2_int min2_int max_two min_two max_three min_three max_four min_four
attribute [local go_sem] cell_twice
set_option linter.unusedVariables false
set_option linter.unusedSimpArgs false
def product_Volume.f (a0_0:ByteArray) (a0_1:Int) (a0_2:Int) (a0_3:Int) (a0_4:Int) (l0_5:List Int) (l0_6:List Int) (a1:Int):Option (Int):=if (mn (mn a0_1 a0_2) a1) < 1 then (some 0) else (if (mx a0_1 a0_2) > 600 then (some 0) else (if a1 > 20000 then (some 0) else (some (wrap64 ((wrap64 (a0_1 * a0_2)) * a1)))))
set_option maxHeartbeats 8000000 in
set_option maxRecDepth 100000 in
theorem product_Volume.calls (a0_0:ByteArray) (a0_1:Int) (a0_2:Int) (a0_3:Int) (a0_4:Int) (A0_5:Option Addr) (c0_5:Nat) (l0_5:List Int) (A0_6:Option Addr) (c0_6:Nat) (l0_6:List Int) (a1:Int) (r:Int) (w:World) (hr0_5:Kd.C (Kd.int .i64) w A0_5 l0_5.length l0_5) (hc0_5:l0_5.length≤c0_5) (hr0_6:Kd.C (Kd.int .i64) w A0_6 l0_6.length l0_6) (hc0_6:l0_6.length≤c0_6) (h:product_Volume.f a0_0 a0_1 a0_2 a0_3 a0_4 l0_5 l0_6 a1=some r) :
  Calls Tryd.prog 22 #[.agg #[.string a0_0,.int .i64 a0_1,.int .i64 a0_2,.int .i64 a0_3,.int .i64 a0_4,.slice A0_5 l0_5.length c0_5,.slice A0_6 l0_6.length c0_6],.int .i64 a1] w fun e w'=>e=.returned (.int .i64 r)∧Below w.heap.size w w':=by
 have hu53:=Tryd.underlying53
 have HR0_5:=Aside0.mk hr0_5
 have HC0_5:=Aside0.mk hc0_5
 clear hr0_5 hc0_5
 have HR0_6:=Aside0.mk hr0_6
 have HC0_6:=Aside0.mk hc0_6
 clear hr0_6 hc0_6
 have HB:=Aside0.mk (Below.refl w.heap.size w)
 have H:(if (mn (mn a0_1 a0_2) a1) < 1 then (some 0) else (if (mx a0_1 a0_2) > 600 then (some 0) else (if a1 > 20000 then (some 0) else (some (wrap64 ((wrap64 (a0_1 * a0_2)) * a1))))))=some r:=h
 clear h
 obtain ⟨ji3,hji3⟩:∃ j_:Int,(mn a0_1 a0_2)=j_:=⟨_,rfl⟩
 replace H:(if (mn (ji3) a1) < 1 then (some 0) else (if (mx a0_1 a0_2) > 600 then (some 0) else (if a1 > 20000 then (some 0) else (some (wrap64 ((wrap64 (a0_1 * a0_2)) * a1))))))=some r:=by first|(rw [hji3] at H;exact H)|(simp only [hji3] at H ⊢;exact H)
 have hji3_:(if a0_2 < a0_1 then a0_2 else a0_1)=ji3:=hji3
 obtain ⟨ji4,hji4⟩:∃ j_:Int,(mn (ji3) a1)=j_:=⟨_,rfl⟩
 replace H:(if (ji4) < 1 then (some 0) else (if (mx a0_1 a0_2) > 600 then (some 0) else (if a1 > 20000 then (some 0) else (some (wrap64 ((wrap64 (a0_1 * a0_2)) * a1))))))=some r:=by first|(rw [hji4] at H;exact H)|(simp only [hji4] at H ⊢;exact H)
 have hji4_:(if a1 < (ji3) then a1 else (ji3))=ji4:=hji4
 by_cases c5:(ji4) < 1
 ·rw [if_pos c5] at H
  have c5b0:decide ((ji4) < 1)=true:=decide_eq_true c5
  clear c5
  obtain rfl:=Option.some.inj H
  go_enter Tryd.func22,Tryd.ntmps22
  go_wp2_with (first|((with_reducible refine gate_dst (N:=2) rfl ?_);(try (refine gate_guard (by rfl) ?_;dsimp only));refine box_event ?hg (N:=2) ?hd (cs:=#[.string a0_0,.int .i64 a0_1,.int .i64 a0_2,.int .i64 a0_3,.int .i64 a0_4,.slice A0_5 l0_5.length c0_5,.slice A0_6 l0_6.length c0_6]) (t:=53) ?hr ?_;(case hd=>rfl);(case hg=>rfl);(case hr=>first|(go_simp;done)|(go_simp;rfl));intro gb101 hg w6 hbox hb;have n0_:=Aside0.mk (below_step (by repeat (first|(with_reducible first|exact HB.out|apply below_alloc|apply pw_below_drewN|apply below_drew1)|exact HB.out)) hb);have n1_:=Aside0.mk (hbox);have n2_:=Aside0.mk ((by rw [hg];exact (below_size (by repeat (first|(with_reducible first|exact HB.out|apply below_alloc|apply pw_below_drewN|apply below_drew1)|exact HB.out))):w.heap.size≤gb101));have n3_:=Aside0.mk ((by rw [hg];exact (below_size (by repeat (first|(with_reducible first|exact HB.out|apply below_alloc|apply pw_below_drewN|apply below_drew1)|exact HB.out))):w.heap.size≤gb101));clear HB;have HB:=n0_;have BK101:=n1_;have GW101:=n2_;have GE101:=n3_;clear n0_ n1_ n2_ n3_;clear hb hbox hg;have hcz7_0:w6.cell? ⟨gb101,0,none⟩=some (.string a0_0):=(blk_cell BK101.out 0).trans rfl;have hcz7_1:w6.cell? ⟨gb101,1,none⟩=some (.int .i64 a0_1):=(blk_cell BK101.out 1).trans rfl;have hcz7_2:w6.cell? ⟨gb101,2,none⟩=some (.int .i64 a0_2):=(blk_cell BK101.out 2).trans rfl;have hcz7_3:w6.cell? ⟨gb101,3,none⟩=some (.int .i64 a0_3):=(blk_cell BK101.out 3).trans rfl;have hcz7_4:w6.cell? ⟨gb101,4,none⟩=some (.int .i64 a0_4):=(blk_cell BK101.out 4).trans rfl;have hcz7_5:w6.cell? ⟨gb101,5,none⟩=some (.slice A0_5 l0_5.length c0_5):=(blk_cell BK101.out 5).trans rfl;have hcz7_6:w6.cell? ⟨gb101,6,none⟩=some (.slice A0_6 l0_6.length c0_6):=(blk_cell BK101.out 6).trans rfl;have hfz7_0:=blk_frozen BK101.out 0;have hfz7_1:=blk_frozen BK101.out 1;have hfz7_2:=blk_frozen BK101.out 2;have hfz7_3:=blk_frozen BK101.out 3;have hfz7_4:=blk_frozen BK101.out 4;have hfz7_5:=blk_frozen BK101.out 5;have hfz7_6:=blk_frozen BK101.out 6))
  go_ret
  exact ⟨by first|rfl|(simp [errW_none,errW_some]<;>rfl)|(simp only [← hji3,← hji4];first|rfl|(simp [errW_none,errW_some]<;>rfl))|(simp [*,errW_none,errW_some]<;>rfl),by repeat (first|(with_reducible first|exact HB.out|apply below_alloc|apply pw_below_drewN|apply below_drew1|refine below_set ?_ GE101.out)|exact HB.out)⟩
 ·rw [if_neg c5] at H
  have c5b0:decide ((ji4) < 1)=false:=decide_eq_false c5
  clear c5
  obtain ⟨ji8,hji8⟩:∃ j_:Int,(mx a0_1 a0_2)=j_:=⟨_,rfl⟩
  replace H:(if (ji8) > 600 then (some 0) else (if a1 > 20000 then (some 0) else (some (wrap64 ((wrap64 (a0_1 * a0_2)) * a1)))))=some r:=by first|(rw [hji8] at H;exact H)|(simp only [hji8] at H ⊢;exact H)
  have hji8_:(if a0_1 < a0_2 then a0_2 else a0_1)=ji8:=hji8
  by_cases c9:(ji8) > 600
  ·rw [if_pos c9] at H
   have c9b0:decide (600 < (ji8))=true:=decide_eq_true c9
   clear c9
   obtain rfl:=Option.some.inj H
   go_enter Tryd.func22,Tryd.ntmps22
   go_wp2_with (first|((with_reducible refine gate_dst (N:=2) rfl ?_);(try (refine gate_guard (by rfl) ?_;dsimp only));refine box_event ?hg (N:=2) ?hd (cs:=#[.string a0_0,.int .i64 a0_1,.int .i64 a0_2,.int .i64 a0_3,.int .i64 a0_4,.slice A0_5 l0_5.length c0_5,.slice A0_6 l0_6.length c0_6]) (t:=53) ?hr ?_;(case hd=>rfl);(case hg=>rfl);(case hr=>first|(go_simp;done)|(go_simp;rfl));intro gb101 hg w10 hbox hb;have n0_:=Aside0.mk (below_step (by repeat (first|(with_reducible first|exact HB.out|apply below_alloc|apply pw_below_drewN|apply below_drew1)|exact HB.out)) hb);have n1_:=Aside0.mk (hbox);have n2_:=Aside0.mk ((by rw [hg];exact (below_size (by repeat (first|(with_reducible first|exact HB.out|apply below_alloc|apply pw_below_drewN|apply below_drew1)|exact HB.out))):w.heap.size≤gb101));have n3_:=Aside0.mk ((by rw [hg];exact (below_size (by repeat (first|(with_reducible first|exact HB.out|apply below_alloc|apply pw_below_drewN|apply below_drew1)|exact HB.out))):w.heap.size≤gb101));clear HB;have HB:=n0_;have BK101:=n1_;have GW101:=n2_;have GE101:=n3_;clear n0_ n1_ n2_ n3_;clear hb hbox hg;have hcz11_0:w10.cell? ⟨gb101,0,none⟩=some (.string a0_0):=(blk_cell BK101.out 0).trans rfl;have hcz11_1:w10.cell? ⟨gb101,1,none⟩=some (.int .i64 a0_1):=(blk_cell BK101.out 1).trans rfl;have hcz11_2:w10.cell? ⟨gb101,2,none⟩=some (.int .i64 a0_2):=(blk_cell BK101.out 2).trans rfl;have hcz11_3:w10.cell? ⟨gb101,3,none⟩=some (.int .i64 a0_3):=(blk_cell BK101.out 3).trans rfl;have hcz11_4:w10.cell? ⟨gb101,4,none⟩=some (.int .i64 a0_4):=(blk_cell BK101.out 4).trans rfl;have hcz11_5:w10.cell? ⟨gb101,5,none⟩=some (.slice A0_5 l0_5.length c0_5):=(blk_cell BK101.out 5).trans rfl;have hcz11_6:w10.cell? ⟨gb101,6,none⟩=some (.slice A0_6 l0_6.length c0_6):=(blk_cell BK101.out 6).trans rfl;have hfz11_0:=blk_frozen BK101.out 0;have hfz11_1:=blk_frozen BK101.out 1;have hfz11_2:=blk_frozen BK101.out 2;have hfz11_3:=blk_frozen BK101.out 3;have hfz11_4:=blk_frozen BK101.out 4;have hfz11_5:=blk_frozen BK101.out 5;have hfz11_6:=blk_frozen BK101.out 6))
   go_ret
   exact ⟨by first|rfl|(simp [errW_none,errW_some]<;>rfl)|(simp only [← hji3,← hji4,← hji8];first|rfl|(simp [errW_none,errW_some]<;>rfl))|(simp [*,errW_none,errW_some]<;>rfl),by repeat (first|(with_reducible first|exact HB.out|apply below_alloc|apply pw_below_drewN|apply below_drew1|refine below_set ?_ GE101.out)|exact HB.out)⟩
  ·rw [if_neg c9] at H
   have c9b0:decide (600 < (ji8))=false:=decide_eq_false c9
   clear c9
   by_cases c12:a1 > 20000
   ·rw [if_pos c12] at H
    have c12b0:decide (20000 < a1)=true:=decide_eq_true c12
    clear c12
    obtain rfl:=Option.some.inj H
    go_enter Tryd.func22,Tryd.ntmps22
    go_wp2_with (first|((with_reducible refine gate_dst (N:=2) rfl ?_);(try (refine gate_guard (by rfl) ?_;dsimp only));refine box_event ?hg (N:=2) ?hd (cs:=#[.string a0_0,.int .i64 a0_1,.int .i64 a0_2,.int .i64 a0_3,.int .i64 a0_4,.slice A0_5 l0_5.length c0_5,.slice A0_6 l0_6.length c0_6]) (t:=53) ?hr ?_;(case hd=>rfl);(case hg=>rfl);(case hr=>first|(go_simp;done)|(go_simp;rfl));intro gb101 hg w13 hbox hb;have n0_:=Aside0.mk (below_step (by repeat (first|(with_reducible first|exact HB.out|apply below_alloc|apply pw_below_drewN|apply below_drew1)|exact HB.out)) hb);have n1_:=Aside0.mk (hbox);have n2_:=Aside0.mk ((by rw [hg];exact (below_size (by repeat (first|(with_reducible first|exact HB.out|apply below_alloc|apply pw_below_drewN|apply below_drew1)|exact HB.out))):w.heap.size≤gb101));have n3_:=Aside0.mk ((by rw [hg];exact (below_size (by repeat (first|(with_reducible first|exact HB.out|apply below_alloc|apply pw_below_drewN|apply below_drew1)|exact HB.out))):w.heap.size≤gb101));clear HB;have HB:=n0_;have BK101:=n1_;have GW101:=n2_;have GE101:=n3_;clear n0_ n1_ n2_ n3_;clear hb hbox hg;have hcz14_0:w13.cell? ⟨gb101,0,none⟩=some (.string a0_0):=(blk_cell BK101.out 0).trans rfl;have hcz14_1:w13.cell? ⟨gb101,1,none⟩=some (.int .i64 a0_1):=(blk_cell BK101.out 1).trans rfl;have hcz14_2:w13.cell? ⟨gb101,2,none⟩=some (.int .i64 a0_2):=(blk_cell BK101.out 2).trans rfl;have hcz14_3:w13.cell? ⟨gb101,3,none⟩=some (.int .i64 a0_3):=(blk_cell BK101.out 3).trans rfl;have hcz14_4:w13.cell? ⟨gb101,4,none⟩=some (.int .i64 a0_4):=(blk_cell BK101.out 4).trans rfl;have hcz14_5:w13.cell? ⟨gb101,5,none⟩=some (.slice A0_5 l0_5.length c0_5):=(blk_cell BK101.out 5).trans rfl;have hcz14_6:w13.cell? ⟨gb101,6,none⟩=some (.slice A0_6 l0_6.length c0_6):=(blk_cell BK101.out 6).trans rfl;have hfz14_0:=blk_frozen BK101.out 0;have hfz14_1:=blk_frozen BK101.out 1;have hfz14_2:=blk_frozen BK101.out 2;have hfz14_3:=blk_frozen BK101.out 3;have hfz14_4:=blk_frozen BK101.out 4;have hfz14_5:=blk_frozen BK101.out 5;have hfz14_6:=blk_frozen BK101.out 6))
    go_ret
    exact ⟨by first|rfl|(simp [errW_none,errW_some]<;>rfl)|(simp only [← hji3,← hji4,← hji8];first|rfl|(simp [errW_none,errW_some]<;>rfl))|(simp [*,errW_none,errW_some]<;>rfl),by repeat (first|(with_reducible first|exact HB.out|apply below_alloc|apply pw_below_drewN|apply below_drew1|refine below_set ?_ GE101.out)|exact HB.out)⟩
   ·rw [if_neg c12] at H
    have c12b0:decide (20000 < a1)=false:=decide_eq_false c12
    clear c12
    obtain rfl:=Option.some.inj H
    go_enter Tryd.func22,Tryd.ntmps22
    go_wp2_with (first|((with_reducible refine gate_dst (N:=2) rfl ?_);(try (refine gate_guard (by rfl) ?_;dsimp only));refine box_event ?hg (N:=2) ?hd (cs:=#[.string a0_0,.int .i64 a0_1,.int .i64 a0_2,.int .i64 a0_3,.int .i64 a0_4,.slice A0_5 l0_5.length c0_5,.slice A0_6 l0_6.length c0_6]) (t:=53) ?hr ?_;(case hd=>rfl);(case hg=>rfl);(case hr=>first|(go_simp;done)|(go_simp;rfl));intro gb101 hg w15 hbox hb;have n0_:=Aside0.mk (below_step (by repeat (first|(with_reducible first|exact HB.out|apply below_alloc|apply pw_below_drewN|apply below_drew1)|exact HB.out)) hb);have n1_:=Aside0.mk (hbox);have n2_:=Aside0.mk ((by rw [hg];exact (below_size (by repeat (first|(with_reducible first|exact HB.out|apply below_alloc|apply pw_below_drewN|apply below_drew1)|exact HB.out))):w.heap.size≤gb101));have n3_:=Aside0.mk ((by rw [hg];exact (below_size (by repeat (first|(with_reducible first|exact HB.out|apply below_alloc|apply pw_below_drewN|apply below_drew1)|exact HB.out))):w.heap.size≤gb101));clear HB;have HB:=n0_;have BK101:=n1_;have GW101:=n2_;have GE101:=n3_;clear n0_ n1_ n2_ n3_;clear hb hbox hg;have hcz16_0:w15.cell? ⟨gb101,0,none⟩=some (.string a0_0):=(blk_cell BK101.out 0).trans rfl;have hcz16_1:w15.cell? ⟨gb101,1,none⟩=some (.int .i64 a0_1):=(blk_cell BK101.out 1).trans rfl;have hcz16_2:w15.cell? ⟨gb101,2,none⟩=some (.int .i64 a0_2):=(blk_cell BK101.out 2).trans rfl;have hcz16_3:w15.cell? ⟨gb101,3,none⟩=some (.int .i64 a0_3):=(blk_cell BK101.out 3).trans rfl;have hcz16_4:w15.cell? ⟨gb101,4,none⟩=some (.int .i64 a0_4):=(blk_cell BK101.out 4).trans rfl;have hcz16_5:w15.cell? ⟨gb101,5,none⟩=some (.slice A0_5 l0_5.length c0_5):=(blk_cell BK101.out 5).trans rfl;have hcz16_6:w15.cell? ⟨gb101,6,none⟩=some (.slice A0_6 l0_6.length c0_6):=(blk_cell BK101.out 6).trans rfl;have hfz16_0:=blk_frozen BK101.out 0;have hfz16_1:=blk_frozen BK101.out 1;have hfz16_2:=blk_frozen BK101.out 2;have hfz16_3:=blk_frozen BK101.out 3;have hfz16_4:=blk_frozen BK101.out 4;have hfz16_5:=blk_frozen BK101.out 5;have hfz16_6:=blk_frozen BK101.out 6))
    go_ret
    exact ⟨by first|rfl|(simp [errW_none,errW_some]<;>rfl)|(simp only [← hji3,← hji4,← hji8];first|rfl|(simp [errW_none,errW_some]<;>rfl))|(simp [*,errW_none,errW_some]<;>rfl),by repeat (first|(with_reducible first|exact HB.out|apply below_alloc|apply pw_below_drewN|apply below_drew1|refine below_set ?_ GE101.out)|exact HB.out)⟩
end Go.Proofs.YtojkjhaobjidlaaDoor.P
namespace Go.Proofs.YtojkjhaobjidlaaDoor.P
open Go.RowKit Go.Proofs.YtojkjhaobjidlaaDoorW.PrintWords Go.Proofs.YtojkjhaobjidlaaDoorW.PrintLast Go.Proofs.YtojkjhaobjidlaaDoorW.PrintMore
attribute [local go_sem] max2_int min2_int max_two min_two max_three min_three max_four min_four
attribute [local go_sem] cell_twice
set_option linter.unusedVariables false
set_option linter.unusedSimpArgs false
mutual
def bill_Amount.j0:Nat→List (S53)→Bool→Int→Int→Int→Int→Option (Int × Int)
 | 0,_,_,_,_,_,_=>none
 | k+1,x0,x24,x102000,x102001,x102002,x102003=>if x24=true then (some (0,8)) else (if 0≤x102000 then (if x102000 < (x0.length:Int) then ((product_Price.f k ((rd_T53 x0 x102000).f0) ((rd_T53 x0 x102000).f1) ((rd_T53 x0 x102000).f2) ((rd_T53 x0 x102000).f3) ((rd_T53 x0 x102000).f4) ((rd_T53 x0 x102000).f5) ((rd_T53 x0 x102000).f6) x102001).bind fun bt105=>(if bt105.2=true then (if x102002 < 0 then (bill_Amount.j1 k true x102000 x102001 x102002 x102003 ((rd_T53 x0 x102000).f0) ((rd_T53 x0 x102000).f1) ((rd_T53 x0 x102000).f2) ((rd_T53 x0 x102000).f3) ((rd_T53 x0 x102000).f4) ((rd_T53 x0 x102000).f5) ((rd_T53 x0 x102000).f6)) else (if x102002 > 200 then (bill_Amount.j1 k true x102000 x102001 x102002 x102003 ((rd_T53 x0 x102000).f0) ((rd_T53 x0 x102000).f1) ((rd_T53 x0 x102000).f2) ((rd_T53 x0 x102000).f3) ((rd_T53 x0 x102000).f4) ((rd_T53 x0 x102000).f5) ((rd_T53 x0 x102000).f6)) else (if x102003 < 0 then (bill_Amount.j1 k true x102000 x102001 x102002 x102003 ((rd_T53 x0 x102000).f0) ((rd_T53 x0 x102000).f1) ((rd_T53 x0 x102000).f2) ((rd_T53 x0 x102000).f3) ((rd_T53 x0 x102000).f4) ((rd_T53 x0 x102000).f5) ((rd_T53 x0 x102000).f6)) else (bill_Amount.j1 k (decide (x102003 > 1000000000)) x102000 x102001 x102002 x102003 ((rd_T53 x0 x102000).f0) ((rd_T53 x0 x102000).f1) ((rd_T53 x0 x102000).f2) ((rd_T53 x0 x102000).f3) ((rd_T53 x0 x102000).f4) ((rd_T53 x0 x102000).f5) ((rd_T53 x0 x102000).f6))))) else (some (0,20)))) else (none)) else (none))
def bill_Amount.j1:Nat→Bool→Int→Int→Int→Int→ByteArray→Int→Int→Int→Int→List Int→List Int→Option (Int × Int)
 | 0,_,_,_,_,_,_,_,_,_,_,_,_=>none
 | k+1,x56,x102000,x102001,x102002,x102003,x105000,x105001,x105002,x105003,x105004,x105005,x105006=>if x56=true then (some (0,9)) else ((product_Volume.f x105000 x105001 x105002 x105003 x105004 x105005 x105006 x102001).bind fun t107=>((bill_nearest.f (IntKind.u64.wrap (x102003)) (IntKind.u64.wrap (wrap64 (t107 * x102002))) 1000000000).bind fun t108=>(some (t108,0))))
end
def bill_Amount.f (k:Nat) (l0:List (S53)) (a1_0:Int) (a1_1:Int) (a1_2:Int) (a1_3:Int):Option (Int × Int):=(product_Check.f k l0).bind fun t102=>(if t102=0 then (if a1_0 < 0 then (bill_Amount.j0 k l0 true a1_0 a1_1 a1_2 a1_3) else (bill_Amount.j0 k l0 (decide (a1_0 ≥ (l0.length:Int))) a1_0 a1_1 a1_2 a1_3)) else (some (0,t102)))
theorem bill_Amount.mono_l:∀ k,(∀ y0 y1 y2 y3 y4 y5,LeO (bill_Amount.j0 k y0 y1 y2 y3 y4 y5) (bill_Amount.j0 (k+1) y0 y1 y2 y3 y4 y5))∧(∀ y0 y1 y2 y3 y4 y5 y6 y7 y8 y9 y10 y11,LeO (bill_Amount.j1 k y0 y1 y2 y3 y4 y5 y6 y7 y8 y9 y10 y11) (bill_Amount.j1 (k+1) y0 y1 y2 y3 y4 y5 y6 y7 y8 y9 y10 y11))
 | 0=>⟨fun _ _ _ _ _ _ r h=>by simp [bill_Amount.j0] at h,fun _ _ _ _ _ _ _ _ _ _ _ _ r h=>by simp [bill_Amount.j1] at h⟩
 | k+1=>by
  obtain ⟨ih0,ih1⟩:=bill_Amount.mono_l k
  refine ⟨?_,?_⟩
  ·intro y0 y1 y2 y3 y4 y5
   unfold bill_Amount.j0
   repeat' first
   | (with_reducible exact ih0 _ _ _ _ _ _)
   | (with_reducible exact ih1 _ _ _ _ _ _ _ _ _ _ _ _)
   | (with_reducible exact product_Check.mono _ _)
   | (with_reducible exact product_Price.mono _ _ _ _ _ _ _ _ _)
   | (with_reducible exact LeO.refl _)
   | (with_reducible exact LeO.none _)
   | (with_reducible refine LeO.ite ?_ ?_)
   | (with_reducible refine LeO.bind ?_ (fun _=>?_))
   | exact ih0 _ _ _ _ _ _
   | exact ih1 _ _ _ _ _ _ _ _ _ _ _ _
   | exact product_Check.mono _ _
   | exact product_Price.mono _ _ _ _ _ _ _ _ _
   | exact LeO.none _
   | refine LeO.ite ?_ ?_
   | refine LeO.bind ?_ (fun _=>?_)
  ·intro y0 y1 y2 y3 y4 y5 y6 y7 y8 y9 y10 y11
   unfold bill_Amount.j1
   repeat' first
   | (with_reducible exact ih0 _ _ _ _ _ _)
   | (with_reducible exact ih1 _ _ _ _ _ _ _ _ _ _ _ _)
   | (with_reducible exact product_Check.mono _ _)
   | (with_reducible exact product_Price.mono _ _ _ _ _ _ _ _ _)
   | (with_reducible exact LeO.refl _)
   | (with_reducible exact LeO.none _)
   | (with_reducible refine LeO.ite ?_ ?_)
   | (with_reducible refine LeO.bind ?_ (fun _=>?_))
   | exact ih0 _ _ _ _ _ _
   | exact ih1 _ _ _ _ _ _ _ _ _ _ _ _
   | exact product_Check.mono _ _
   | exact product_Price.mono _ _ _ _ _ _ _ _ _
   | exact LeO.none _
   | refine LeO.ite ?_ ?_
   | refine LeO.bind ?_ (fun _=>?_)
theorem bill_Amount.mono:∀ a0 a1 a2 a3 a4 k,LeO (bill_Amount.f k a0 a1 a2 a3 a4) (bill_Amount.f (k+1) a0 a1 a2 a3 a4):=by
 intro a0 a1 a2 a3 a4 k
 obtain ⟨ih0,ih1⟩:=bill_Amount.mono_l k
 unfold bill_Amount.f
 repeat' first
   | (with_reducible exact ih0 _ _ _ _ _ _)
   | (with_reducible exact ih1 _ _ _ _ _ _ _ _ _ _ _ _)
   | (with_reducible exact product_Check.mono _ _)
   | (with_reducible exact product_Price.mono _ _ _ _ _ _ _ _ _)
   | (with_reducible exact LeO.refl _)
   | (with_reducible exact LeO.none _)
   | (with_reducible refine LeO.ite ?_ ?_)
   | (with_reducible refine LeO.bind ?_ (fun _=>?_))
   | exact ih0 _ _ _ _ _ _
   | exact ih1 _ _ _ _ _ _ _ _ _ _ _ _
   | exact product_Check.mono _ _
   | exact product_Price.mono _ _ _ _ _ _ _ _ _
   | exact LeO.none _
   | refine LeO.ite ?_ ?_
   | refine LeO.bind ?_ (fun _=>?_)
def bill_Amount.T12:Bool × List (List Nat × List Nat):=(true,[([],[]),([0],[0]),([1],[1]),([],[]),([],[]),([4],[4]),([3,5],[3,5]),([],[]),([7],[7]),([6,8],[6,8]),([9],[9]),([2,10,6],[2,10]),([11,11,0,1,2,3,4,5,6,7,8,9,10,11],[11]),([12,0,1,2,3,4,5,6,7,8,9,10,11,12],[])])
def bill_Amount.B12:List Nat:=[0,1,3,0,0,16,56,0,128,504,1016,2047,4095,8191]
theorem bill_Amount.tab12:rtab .any (opsOf Tryd.f14 12)=bill_Amount.T12:=by kernel_rfl
theorem bill_Amount.bits12:waitsOk bill_Amount.T12.2 bill_Amount.B12=true:=by kernel_rfl
set_option maxHeartbeats 8000000 in
set_option maxRecDepth 100000 in
theorem bill_Amount.calls (k:Nat) (A0:Option Addr) (c0:Nat) (l0:List (S53)) (a1_0:Int) (a1_1:Int) (a1_2:Int) (a1_3:Int) (r1:Int) (r2:Int) (w:World) (hr0:Kd.C k53 w A0 l0.length l0) (hc0:l0.length≤c0) (h:bill_Amount.f k l0 a1_0 a1_1 a1_2 a1_3=some (r1,r2)) :
  Calls Tryd.prog 14 #[.slice A0 l0.length c0,.agg #[.int .i64 a1_0,.int .i64 a1_1,.int .i64 a1_2,.int .i64 a1_3]] w fun e w'=>e=.returned (.tuple #[.int .i64 r1,.int .i64 r2])∧Below w.heap.size w w':=by
 have hu35:=Tryd.underlying35
 have hu53:=Tryd.underlying53
 have HR0:=Aside0.mk hr0
 have HC0:=Aside0.mk hc0
 clear hr0 hc0
 have HB:=Aside0.mk (Below.refl w.heap.size w)
 have H:((product_Check.f k l0).bind fun t102=>(if t102=0 then (if a1_0 < 0 then (bill_Amount.j0 k l0 true a1_0 a1_1 a1_2 a1_3) else (bill_Amount.j0 k l0 (decide (a1_0 ≥ (l0.length:Int))) a1_0 a1_1 a1_2 a1_3)) else (some (0,t102))))=some (r1,r2):=h
 clear h
 replace H:=Option.bind_eq_some_iff.mp H
 obtain ⟨t102,A30,H⟩:=H
 replace H:(if t102=0 then (if a1_0 < 0 then (bill_Amount.j0 k l0 true a1_0 a1_1 a1_2 a1_3) else (bill_Amount.j0 k l0 (decide (a1_0 ≥ (l0.length:Int))) a1_0 a1_1 a1_2 a1_3)) else (some (0,t102)))=some (r1,r2):=H
 have A3:=Aside0.mk A30
 clear A30
 by_cases c4:t102=0
 ·rw [if_pos c4] at H
  have c4b0:(t102 == 0)=true:=beq_iff_eq.mpr c4
  have c4b1:(t102 != 0)=false:=bne_eq_false_iff_eq.mpr c4
  clear c4
  have HC5:=Aside0.mk H
  clear H
  go_enter Tryd.func14,Tryd.ntmps14
  go_upto_region 4 with (first|((with_reducible refine gate_dst (N:=3) rfl ?_);(try (refine gate_guard (by rfl) ?_;dsimp only));refine box_event ?hg (N:=3) ?hd (cs:=#[.int .i64 a1_0,.int .i64 a1_1,.int .i64 a1_2,.int .i64 a1_3]) (t:=35) ?hr ?_;(case hd=>rfl);(case hg=>rfl);(case hr=>first|(go_simp;done)|(go_simp;rfl));intro gb101 hg w6 hbox hb;have n0_:=Aside0.mk (below_step (by repeat (first|(with_reducible first|exact HB.out|apply below_alloc|apply pw_below_drewN|apply below_drew1)|exact HB.out)) hb);have n1_:=Aside0.mk (hbox);have n2_:=Aside0.mk ((by rw [hg];exact (below_size (by repeat (first|(with_reducible first|exact HB.out|apply below_alloc|apply pw_below_drewN|apply below_drew1)|exact HB.out))):w.heap.size≤gb101));have n3_:=Aside0.mk ((by rw [hg];exact (below_size (by repeat (first|(with_reducible first|exact HB.out|apply below_alloc|apply pw_below_drewN|apply below_drew1)|exact HB.out))):w.heap.size≤gb101));clear HB;have HB:=n0_;have BK101:=n1_;have GW101:=n2_;have GE101:=n3_;clear n0_ n1_ n2_ n3_;clear hb hbox hg)|((with_reducible refine gate_callee (f:=28) rfl ?_);refine goesL_ (some 11) rfl rfl Tryd.func28 (by kernel_rfl) rfl #[.slice A0 l0.length c0] rfl (by (try simp only [List.map_toArray,List.map_cons,List.map_nil]);first|done|rfl|(simp only [List.length_drop,List.length_take];rfl)) ?_;(with_reducible refine (product_Check.calls k _ _ l0 t102 _ ?side1 ?side2 A3.out).mono ?_);(case side1=>repeat (first|exact (Kd.C_below HR0.out HB.out)|(with_reducible refine Kd.C_alloc ?_ _)|(with_reducible refine Kd.C_drewN ?_ _)|(with_reducible refine Kd.C_drew ?_)));(case side2=>exact HC0.out);rintro e w7 ⟨rfl,hb⟩;refine ⟨_,rfl,?_⟩;have n0_:=Aside0.mk (blk_below (g:=gb101) (o:=.cells #[.int .i64 a1_0,.int .i64 a1_1,.int .i64 a1_2,.int .i64 a1_3] 35 (0,0)) (by (with_reducible repeat (first|refine blk_drewN ?_ _|refine blk_drew ?_|refine blk_alloc ?_ _));exact BK101.out) hb);have n1_:=Aside0.mk (below_step (by repeat (first|(with_reducible first|exact HB.out|apply below_alloc|apply pw_below_drewN|apply below_drew1|refine below_set ?_ GE101.out)|exact HB.out)) hb);clear BK101;clear HB;have BK101:=n0_;have HB:=n1_;clear n0_ n1_;(try clear hb);(try clear hb2);(try clear hk);(try clear hi)))
  (try simp only [Act.put,List.setIfInBounds_toArray,List.set_cons_zero,List.set_cons_succ])
  go_cut [24] (fun v24 wc=>∃ (kq:Nat) (x24_4:Bool),v24=.bool x24_4∧Aside0 (bill_Amount.j0 kq l0 x24_4 a1_0 a1_1 a1_2 a1_3=some (r1,r2))∧Aside0 (kq≤k)∧Aside0 (wc.heap[gb101]?=some (.cells #[.int .i64 a1_0,.int .i64 a1_1,.int .i64 a1_2,.int .i64 a1_3] 35 (0,0)))∧Aside0 (Below w.heap.size w wc))
  case first =>
   have H:=HC5.out
   clear HC5
   by_cases c8:a1_0 < 0
   ·rw [if_pos c8] at H
    have c8b0:decide (a1_0 < 0)=true:=decide_eq_true c8
    clear c8
    (first|rw [c8b0]|(simp only [i64_w,i32_w];rw [c8b0])|skip)
    have H':=Aside0.mk H
    clear H
    have hcz9_0:w7.cell? ⟨gb101,0,none⟩=some (.int .i64 a1_0):=(blk_cell BK101.out 0).trans rfl
    have hcz9_1:w7.cell? ⟨gb101,1,none⟩=some (.int .i64 a1_1):=(blk_cell BK101.out 1).trans rfl
    have hcz9_2:w7.cell? ⟨gb101,2,none⟩=some (.int .i64 a1_2):=(blk_cell BK101.out 2).trans rfl
    have hcz9_3:w7.cell? ⟨gb101,3,none⟩=some (.int .i64 a1_3):=(blk_cell BK101.out 3).trans rfl
    have hfz9_0:=blk_frozen BK101.out 0
    have hfz9_1:=blk_frozen BK101.out 1
    have hfz9_2:=blk_frozen BK101.out 2
    have hfz9_3:=blk_frozen BK101.out 3
    go_wp2
    go_meet
    case rel=>exact ⟨_,(true),(by first|rfl|(simp;done)|(simp [*];done)),H',⟨by first|omega|exact Nat.le_refl _⟩,⟨by (with_reducible repeat (first|refine blk_drewN ?_ _|refine blk_drew ?_|refine blk_alloc ?_ _));exact BK101.out⟩,⟨by repeat (first|(with_reducible first|exact HB.out|apply below_alloc|apply pw_below_drewN|apply below_drew1|refine below_set ?_ GE101.out)|exact HB.out)⟩⟩
   ·rw [if_neg c8] at H
    have c8b0:decide (a1_0 < 0)=false:=decide_eq_false c8
    clear c8
    (first|rw [c8b0]|(simp only [i64_w,i32_w];rw [c8b0])|skip)
    have H':=Aside0.mk H
    clear H
    have hcz10_0:w7.cell? ⟨gb101,0,none⟩=some (.int .i64 a1_0):=(blk_cell BK101.out 0).trans rfl
    have hcz10_1:w7.cell? ⟨gb101,1,none⟩=some (.int .i64 a1_1):=(blk_cell BK101.out 1).trans rfl
    have hcz10_2:w7.cell? ⟨gb101,2,none⟩=some (.int .i64 a1_2):=(blk_cell BK101.out 2).trans rfl
    have hcz10_3:w7.cell? ⟨gb101,3,none⟩=some (.int .i64 a1_3):=(blk_cell BK101.out 3).trans rfl
    have hfz10_0:=blk_frozen BK101.out 0
    have hfz10_1:=blk_frozen BK101.out 1
    have hfz10_2:=blk_frozen BK101.out 2
    have hfz10_3:=blk_frozen BK101.out 3
    go_wp2
    go_meet
    case rel=>exact ⟨_,(decide (a1_0 ≥ (l0.length:Int))),(by first|rfl|(simp;done)|(simp [*];done)),H',⟨by first|omega|exact Nat.le_refl _⟩,⟨by (with_reducible repeat (first|refine blk_drewN ?_ _|refine blk_drew ?_|refine blk_alloc ?_ _));exact BK101.out⟩,⟨by repeat (first|(with_reducible first|exact HB.out|apply below_alloc|apply pw_below_drewN|apply below_drew1|refine below_set ?_ GE101.out)|exact HB.out)⟩⟩
  case rest =>
   clear HC5
   try clear c1
   try clear c2
   try clear p2
   try clear c4
   try clear c4b0
   try clear c4b1
   try clear c8
   try clear c8b0
   try clear hcz10_0
   try clear hcz10_1
   try clear hcz10_2
   try clear hcz10_3
   try clear hcz9_0
   try clear hcz9_1
   try clear hcz9_2
   try clear hcz9_3
   try clear hfz10_0
   try clear hfz10_1
   try clear hfz10_2
   try clear hfz10_3
   try clear hfz9_0
   try clear hfz9_1
   try clear hfz9_2
   try clear hfz9_3
   obtain ⟨kq,x24_4,rfl,HA,HJ4,BK101,HB⟩:=hcut
   cases kq with
   | zero=>exact absurd HA.out (by simp [bill_Amount.j0])
   | succ kj4 =>
    have H:=HA.out
    clear HA
    simp only [bill_Amount.j0] at H
    by_cases c11:x24_4=true
    ·subst c11
     have H1:(some (0,8))=some (r1,r2):=by rw [if_pos rfl] at H;exact H
     clear H
     have H:=H1
     clear H1
     simp only [Option.some.injEq,Prod.mk.injEq] at H
     obtain ⟨rfl,rfl⟩:=H
     go_wp2
     go_ret2
     exact ⟨by first|rfl|(simp [errW_none,errW_some]<;>rfl)|(simp [*,errW_none,errW_some]<;>rfl),by repeat (first|(with_reducible first|exact HB.out|apply below_alloc|apply pw_below_drewN|apply below_drew1|refine below_set ?_ GE101.out)|exact HB.out)⟩
    ·replace c11:=Bool.eq_false_iff.mpr c11
     subst c11
     have H1:(if 0≤a1_0 then (if a1_0 < (l0.length:Int) then ((product_Price.f kj4 ((rd_T53 l0 a1_0).f0) ((rd_T53 l0 a1_0).f1) ((rd_T53 l0 a1_0).f2) ((rd_T53 l0 a1_0).f3) ((rd_T53 l0 a1_0).f4) ((rd_T53 l0 a1_0).f5) ((rd_T53 l0 a1_0).f6) a1_1).bind fun bt105=>(if bt105.2=true then (if a1_2 < 0 then (bill_Amount.j1 kj4 true a1_0 a1_1 a1_2 a1_3 ((rd_T53 l0 a1_0).f0) ((rd_T53 l0 a1_0).f1) ((rd_T53 l0 a1_0).f2) ((rd_T53 l0 a1_0).f3) ((rd_T53 l0 a1_0).f4) ((rd_T53 l0 a1_0).f5) ((rd_T53 l0 a1_0).f6)) else (if a1_2 > 200 then (bill_Amount.j1 kj4 true a1_0 a1_1 a1_2 a1_3 ((rd_T53 l0 a1_0).f0) ((rd_T53 l0 a1_0).f1) ((rd_T53 l0 a1_0).f2) ((rd_T53 l0 a1_0).f3) ((rd_T53 l0 a1_0).f4) ((rd_T53 l0 a1_0).f5) ((rd_T53 l0 a1_0).f6)) else (if a1_3 < 0 then (bill_Amount.j1 kj4 true a1_0 a1_1 a1_2 a1_3 ((rd_T53 l0 a1_0).f0) ((rd_T53 l0 a1_0).f1) ((rd_T53 l0 a1_0).f2) ((rd_T53 l0 a1_0).f3) ((rd_T53 l0 a1_0).f4) ((rd_T53 l0 a1_0).f5) ((rd_T53 l0 a1_0).f6)) else (bill_Amount.j1 kj4 (decide (a1_3 > 1000000000)) a1_0 a1_1 a1_2 a1_3 ((rd_T53 l0 a1_0).f0) ((rd_T53 l0 a1_0).f1) ((rd_T53 l0 a1_0).f2) ((rd_T53 l0 a1_0).f3) ((rd_T53 l0 a1_0).f4) ((rd_T53 l0 a1_0).f5) ((rd_T53 l0 a1_0).f6))))) else (some (0,20)))) else (none)) else (none))=some (r1,r2):=by rw [if_neg (show ¬ (false=true) by decide)] at H;exact H
     clear H
     have H:=H1
     clear H1
     by_cases c12:0≤a1_0
     ·rw [if_pos c12] at H
      have c12b0:decide (0≤a1_0)=true:=decide_eq_true c12
      clear c12
      by_cases c13:a1_0 < (l0.length:Int)
      ·rw [if_pos c13] at H
       have c13b0:decide (a1_0 < (l0.length:Int))=true:=decide_eq_true c13
       clear c13
       replace H:=Option.bind_eq_some_iff.mp H
       obtain ⟨⟨t105,t106⟩,A140,H⟩:=H
       replace H:(if t106=true then (if a1_2 < 0 then (bill_Amount.j1 kj4 true a1_0 a1_1 a1_2 a1_3 ((rd_T53 l0 a1_0).f0) ((rd_T53 l0 a1_0).f1) ((rd_T53 l0 a1_0).f2) ((rd_T53 l0 a1_0).f3) ((rd_T53 l0 a1_0).f4) ((rd_T53 l0 a1_0).f5) ((rd_T53 l0 a1_0).f6)) else (if a1_2 > 200 then (bill_Amount.j1 kj4 true a1_0 a1_1 a1_2 a1_3 ((rd_T53 l0 a1_0).f0) ((rd_T53 l0 a1_0).f1) ((rd_T53 l0 a1_0).f2) ((rd_T53 l0 a1_0).f3) ((rd_T53 l0 a1_0).f4) ((rd_T53 l0 a1_0).f5) ((rd_T53 l0 a1_0).f6)) else (if a1_3 < 0 then (bill_Amount.j1 kj4 true a1_0 a1_1 a1_2 a1_3 ((rd_T53 l0 a1_0).f0) ((rd_T53 l0 a1_0).f1) ((rd_T53 l0 a1_0).f2) ((rd_T53 l0 a1_0).f3) ((rd_T53 l0 a1_0).f4) ((rd_T53 l0 a1_0).f5) ((rd_T53 l0 a1_0).f6)) else (bill_Amount.j1 kj4 (decide (a1_3 > 1000000000)) a1_0 a1_1 a1_2 a1_3 ((rd_T53 l0 a1_0).f0) ((rd_T53 l0 a1_0).f1) ((rd_T53 l0 a1_0).f2) ((rd_T53 l0 a1_0).f3) ((rd_T53 l0 a1_0).f4) ((rd_T53 l0 a1_0).f5) ((rd_T53 l0 a1_0).f6))))) else (some (0,20)))=some (r1,r2):=H
       have A14:=Aside0.mk A140
       clear A140
       by_cases c15:t106=true
       ·subst c15
        have H1:(if a1_2 < 0 then (bill_Amount.j1 kj4 true a1_0 a1_1 a1_2 a1_3 ((rd_T53 l0 a1_0).f0) ((rd_T53 l0 a1_0).f1) ((rd_T53 l0 a1_0).f2) ((rd_T53 l0 a1_0).f3) ((rd_T53 l0 a1_0).f4) ((rd_T53 l0 a1_0).f5) ((rd_T53 l0 a1_0).f6)) else (if a1_2 > 200 then (bill_Amount.j1 kj4 true a1_0 a1_1 a1_2 a1_3 ((rd_T53 l0 a1_0).f0) ((rd_T53 l0 a1_0).f1) ((rd_T53 l0 a1_0).f2) ((rd_T53 l0 a1_0).f3) ((rd_T53 l0 a1_0).f4) ((rd_T53 l0 a1_0).f5) ((rd_T53 l0 a1_0).f6)) else (if a1_3 < 0 then (bill_Amount.j1 kj4 true a1_0 a1_1 a1_2 a1_3 ((rd_T53 l0 a1_0).f0) ((rd_T53 l0 a1_0).f1) ((rd_T53 l0 a1_0).f2) ((rd_T53 l0 a1_0).f3) ((rd_T53 l0 a1_0).f4) ((rd_T53 l0 a1_0).f5) ((rd_T53 l0 a1_0).f6)) else (bill_Amount.j1 kj4 (decide (a1_3 > 1000000000)) a1_0 a1_1 a1_2 a1_3 ((rd_T53 l0 a1_0).f0) ((rd_T53 l0 a1_0).f1) ((rd_T53 l0 a1_0).f2) ((rd_T53 l0 a1_0).f3) ((rd_T53 l0 a1_0).f4) ((rd_T53 l0 a1_0).f5) ((rd_T53 l0 a1_0).f6)))))=some (r1,r2):=by rw [if_pos rfl] at H;exact H
        clear H
        have H:=H1
        clear H1
        have HC16:=Aside0.mk H
        clear H
        have hcz17_0:wc.cell? ⟨gb101,0,none⟩=some (.int .i64 a1_0):=(blk_cell BK101.out 0).trans rfl
        have hcz17_1:wc.cell? ⟨gb101,1,none⟩=some (.int .i64 a1_1):=(blk_cell BK101.out 1).trans rfl
        have hcz17_2:wc.cell? ⟨gb101,2,none⟩=some (.int .i64 a1_2):=(blk_cell BK101.out 2).trans rfl
        have hcz17_3:wc.cell? ⟨gb101,3,none⟩=some (.int .i64 a1_3):=(blk_cell BK101.out 3).trans rfl
        have hfz17_0:=blk_frozen BK101.out 0
        have hfz17_1:=blk_frozen BK101.out 1
        have hfz17_2:=blk_frozen BK101.out 2
        have hfz17_3:=blk_frozen BK101.out 3
        have p103:0≤(a1_0:Int):=of_decide_eq_true (by first|(with_reducible assumption)|assumption)
        have q103:a1_0 < (l0.length:Int):=of_decide_eq_true (by first|(with_reducible assumption)|assumption)
        obtain ⟨ad103,A103_5,c103_5,A103_6,c103_6,e103,hx103_0,hx103_1,hx103_2,hx103_3,hx103_4,hx103_5,hx103_6,hl103_5,hi103_5,hl103_6,hi103_6⟩:=at_T53 HR0.out a1_0 p103 q103
        cases e103
        replace hx103_0:=(HB.out.cell (World.block_lt_of_cell? w _ hx103_0)).trans hx103_0
        replace hx103_1:=(HB.out.cell (World.block_lt_of_cell? w _ hx103_1)).trans hx103_1
        replace hx103_2:=(HB.out.cell (World.block_lt_of_cell? w _ hx103_2)).trans hx103_2
        replace hx103_3:=(HB.out.cell (World.block_lt_of_cell? w _ hx103_3)).trans hx103_3
        replace hx103_4:=(HB.out.cell (World.block_lt_of_cell? w _ hx103_4)).trans hx103_4
        replace hx103_5:=(HB.out.cell (World.block_lt_of_cell? w _ hx103_5)).trans hx103_5
        replace hx103_6:=(HB.out.cell (World.block_lt_of_cell? w _ hx103_6)).trans hx103_6
        have HR103_5:=Aside0.mk hi103_5
        have HC103_5:=Aside0.mk hl103_5
        clear hi103_5 hl103_5
        have HR103_6:=Aside0.mk hi103_6
        have HC103_6:=Aside0.mk hl103_6
        clear hi103_6 hl103_6
        replace p103:=eq_true p103
        replace q103:=eq_true q103
        go_upto_region 10 with (first|((with_reducible refine gate_dst (N:=7) rfl ?_);(try (refine gate_guard (by rfl) ?_;dsimp only));refine box_event ?hg (N:=7) ?hd (cs:=#[.string (⟨#[]⟩:ByteArray),.int .i64 0,.int .i64 0,.int .i64 0,.int .i64 0,.slice none 0 0,.slice none 0 0]) (t:=53) ?hr ?_;(case hd=>rfl);(case hg=>rfl);(case hr=>first|(go_simp;done)|(go_simp;rfl));intro gb104 hg w18 hbox hb;have n0_:=Aside0.mk (blk_below (g:=gb101) (o:=.cells #[.int .i64 a1_0,.int .i64 a1_1,.int .i64 a1_2,.int .i64 a1_3] 35 (0,0)) (by (with_reducible repeat (first|refine blk_drewN ?_ _|refine blk_drew ?_|refine blk_alloc ?_ _));exact BK101.out) hb);have n1_:=Aside0.mk (below_step (by repeat (first|(with_reducible first|exact HB.out|apply below_alloc|apply pw_below_drewN|apply below_drew1|refine below_set ?_ GE101.out)|exact HB.out)) hb);have n2_:=Aside0.mk (hbox);have n3_:=Aside0.mk ((by rw [hg];exact (below_size (by repeat (first|(with_reducible first|exact HB.out|apply below_alloc|apply pw_below_drewN|apply below_drew1|refine below_set ?_ GE101.out)|exact HB.out))):w.heap.size≤gb104));have n4_:=Aside0.mk ((by rw [hg];exact (below_size (by repeat (first|(with_reducible first|exact HB.out|apply below_alloc|apply pw_below_drewN|apply below_drew1|refine below_set ?_ GE101.out)|exact HB.out))):w.heap.size≤gb104));have n5_:=Aside0.mk ((by rw [hg];exact Nat.ne_of_lt (blk_lt (g:=gb101) (o:=.cells #[.int .i64 a1_0,.int .i64 a1_1,.int .i64 a1_2,.int .i64 a1_3] 35 (0,0)) (by (with_reducible repeat (first|refine blk_drewN ?_ _|refine blk_drew ?_|refine blk_alloc ?_ _));exact BK101.out)):gb101 ≠ gb104));have n6_:=Aside0.mk ((by rw [hg];exact Nat.ne_of_gt (blk_lt (g:=gb101) (o:=.cells #[.int .i64 a1_0,.int .i64 a1_1,.int .i64 a1_2,.int .i64 a1_3] 35 (0,0)) (by (with_reducible repeat (first|refine blk_drewN ?_ _|refine blk_drew ?_|refine blk_alloc ?_ _));exact BK101.out)):gb104 ≠ gb101));clear BK101;clear HB;have BK101:=n0_;have HB:=n1_;have BK104:=n2_;have GW104:=n3_;have GE104:=n4_;have NB101_104:=n5_;have NB104_101:=n6_;clear n0_ n1_ n2_ n3_ n4_ n5_ n6_;clear hb hbox hg;have hnb19:=NB104_101.out;have hnc19:=NB101_104.out;have hcz20_0:w18.cell? ⟨gb104,0,none⟩=some (.string (⟨#[]⟩:ByteArray)):=(blk_cell BK104.out 0).trans rfl;have hcz20_1:w18.cell? ⟨gb104,1,none⟩=some (.int .i64 0):=(blk_cell BK104.out 1).trans rfl;have hcz20_2:w18.cell? ⟨gb104,2,none⟩=some (.int .i64 0):=(blk_cell BK104.out 2).trans rfl;have hcz20_3:w18.cell? ⟨gb104,3,none⟩=some (.int .i64 0):=(blk_cell BK104.out 3).trans rfl;have hcz20_4:w18.cell? ⟨gb104,4,none⟩=some (.int .i64 0):=(blk_cell BK104.out 4).trans rfl;have hcz20_5:w18.cell? ⟨gb104,5,none⟩=some (.slice none 0 0):=(blk_cell BK104.out 5).trans rfl;have hcz20_6:w18.cell? ⟨gb104,6,none⟩=some (.slice none 0 0):=(blk_cell BK104.out 6).trans rfl;have hfz20_0:=blk_frozen BK104.out 0;have hfz20_1:=blk_frozen BK104.out 1;have hfz20_2:=blk_frozen BK104.out 2;have hfz20_3:=blk_frozen BK104.out 3;have hfz20_4:=blk_frozen BK104.out 4;have hfz20_5:=blk_frozen BK104.out 5;have hfz20_6:=blk_frozen BK104.out 6;have hcz21_0:w18.cell? ⟨gb101,0,none⟩=some (.int .i64 a1_0):=(blk_cell BK101.out 0).trans rfl;have hcz21_1:w18.cell? ⟨gb101,1,none⟩=some (.int .i64 a1_1):=(blk_cell BK101.out 1).trans rfl;have hcz21_2:w18.cell? ⟨gb101,2,none⟩=some (.int .i64 a1_2):=(blk_cell BK101.out 2).trans rfl;have hcz21_3:w18.cell? ⟨gb101,3,none⟩=some (.int .i64 a1_3):=(blk_cell BK101.out 3).trans rfl;have hfz21_0:=blk_frozen BK101.out 0;have hfz21_1:=blk_frozen BK101.out 1;have hfz21_2:=blk_frozen BK101.out 2;have hfz21_3:=blk_frozen BK101.out 3)|((with_reducible refine gate_callee (f:=29) rfl ?_);refine goesL_ (some 34) rfl rfl Tryd.func29 (by kernel_rfl) rfl #[.agg #[.string ((rd_T53 l0 a1_0).f0),.int .i64 ((rd_T53 l0 a1_0).f1),.int .i64 ((rd_T53 l0 a1_0).f2),.int .i64 ((rd_T53 l0 a1_0).f3),.int .i64 ((rd_T53 l0 a1_0).f4),.slice A103_5 ((rd_T53 l0 a1_0).f5).length c103_5,.slice A103_6 ((rd_T53 l0 a1_0).f6).length c103_6],.int .i64 a1_1] rfl (by (try simp only [List.map_toArray,List.map_cons,List.map_nil]);first|done|rfl|(simp only [List.length_drop,List.length_take];rfl)) ?_;(with_reducible refine (product_Price.calls kj4 ((rd_T53 l0 a1_0).f0) ((rd_T53 l0 a1_0).f1) ((rd_T53 l0 a1_0).f2) ((rd_T53 l0 a1_0).f3) ((rd_T53 l0 a1_0).f4) _ _ ((rd_T53 l0 a1_0).f5) _ _ ((rd_T53 l0 a1_0).f6) a1_1 t105 true _ ?side1 ?side2 ?side3 ?side4 A14.out).mono ?_);(case side1=>exact Kd.C_below HR103_5.out (by repeat (first|(with_reducible first|exact HB.out|apply below_alloc|apply pw_below_drewN|apply below_drew1|refine below_set ?_ GE101.out|refine below_set ?_ GE104.out)|exact HB.out)));(case side2=>exact HC103_5.out);(case side3=>exact Kd.C_below HR103_6.out (by repeat (first|(with_reducible first|exact HB.out|apply below_alloc|apply pw_below_drewN|apply below_drew1|refine below_set ?_ GE101.out|refine below_set ?_ GE104.out)|exact HB.out)));(case side4=>exact HC103_6.out);rintro e w22 ⟨rfl,hb⟩;refine ⟨_,rfl,?_⟩;have n0_:=Aside0.mk (blk_below (g:=gb101) (o:=.cells #[.int .i64 a1_0,.int .i64 a1_1,.int .i64 a1_2,.int .i64 a1_3] 35 (0,0)) (by (with_reducible repeat (first|refine blk_drewN ?_ _|refine blk_drew ?_|refine blk_alloc ?_ _));refine blk_far ?_ NB101_104.out _;(with_reducible repeat (first|refine blk_drewN ?_ _|refine blk_drew ?_|refine blk_alloc ?_ _));refine blk_far ?_ NB101_104.out _;(with_reducible repeat (first|refine blk_drewN ?_ _|refine blk_drew ?_|refine blk_alloc ?_ _));refine blk_far ?_ NB101_104.out _;(with_reducible repeat (first|refine blk_drewN ?_ _|refine blk_drew ?_|refine blk_alloc ?_ _));refine blk_far ?_ NB101_104.out _;(with_reducible repeat (first|refine blk_drewN ?_ _|refine blk_drew ?_|refine blk_alloc ?_ _));refine blk_far ?_ NB101_104.out _;(with_reducible repeat (first|refine blk_drewN ?_ _|refine blk_drew ?_|refine blk_alloc ?_ _));refine blk_far ?_ NB101_104.out _;(with_reducible repeat (first|refine blk_drewN ?_ _|refine blk_drew ?_|refine blk_alloc ?_ _));refine blk_far ?_ NB101_104.out _;(with_reducible repeat (first|refine blk_drewN ?_ _|refine blk_drew ?_|refine blk_alloc ?_ _));exact BK101.out) hb);have n1_:=Aside0.mk (blk_below (g:=gb104) (o:=.cells #[.string ((rd_T53 l0 a1_0).f0),.int .i64 ((rd_T53 l0 a1_0).f1),.int .i64 ((rd_T53 l0 a1_0).f2),.int .i64 ((rd_T53 l0 a1_0).f3),.int .i64 ((rd_T53 l0 a1_0).f4),.slice A103_5 ((rd_T53 l0 a1_0).f5).length c103_5,.slice A103_6 ((rd_T53 l0 a1_0).f6).length c103_6] 53 (0,0)) (by (with_reducible repeat (first|refine blk_drewN ?_ _|refine blk_drew ?_|refine blk_alloc ?_ _));refine blk_put (cs:=#[.string ((rd_T53 l0 a1_0).f0),.int .i64 ((rd_T53 l0 a1_0).f1),.int .i64 ((rd_T53 l0 a1_0).f2),.int .i64 ((rd_T53 l0 a1_0).f3),.int .i64 ((rd_T53 l0 a1_0).f4),.slice A103_5 ((rd_T53 l0 a1_0).f5).length c103_5,.slice none 0 0]) ?_ 6 _ rfl;(with_reducible repeat (first|refine blk_drewN ?_ _|refine blk_drew ?_|refine blk_alloc ?_ _));refine blk_put (cs:=#[.string ((rd_T53 l0 a1_0).f0),.int .i64 ((rd_T53 l0 a1_0).f1),.int .i64 ((rd_T53 l0 a1_0).f2),.int .i64 ((rd_T53 l0 a1_0).f3),.int .i64 ((rd_T53 l0 a1_0).f4),.slice none 0 0,.slice none 0 0]) ?_ 5 _ rfl;(with_reducible repeat (first|refine blk_drewN ?_ _|refine blk_drew ?_|refine blk_alloc ?_ _));refine blk_put (cs:=#[.string ((rd_T53 l0 a1_0).f0),.int .i64 ((rd_T53 l0 a1_0).f1),.int .i64 ((rd_T53 l0 a1_0).f2),.int .i64 ((rd_T53 l0 a1_0).f3),.int .i64 0,.slice none 0 0,.slice none 0 0]) ?_ 4 _ rfl;(with_reducible repeat (first|refine blk_drewN ?_ _|refine blk_drew ?_|refine blk_alloc ?_ _));refine blk_put (cs:=#[.string ((rd_T53 l0 a1_0).f0),.int .i64 ((rd_T53 l0 a1_0).f1),.int .i64 ((rd_T53 l0 a1_0).f2),.int .i64 0,.int .i64 0,.slice none 0 0,.slice none 0 0]) ?_ 3 _ rfl;(with_reducible repeat (first|refine blk_drewN ?_ _|refine blk_drew ?_|refine blk_alloc ?_ _));refine blk_put (cs:=#[.string ((rd_T53 l0 a1_0).f0),.int .i64 ((rd_T53 l0 a1_0).f1),.int .i64 0,.int .i64 0,.int .i64 0,.slice none 0 0,.slice none 0 0]) ?_ 2 _ rfl;(with_reducible repeat (first|refine blk_drewN ?_ _|refine blk_drew ?_|refine blk_alloc ?_ _));refine blk_put (cs:=#[.string ((rd_T53 l0 a1_0).f0),.int .i64 0,.int .i64 0,.int .i64 0,.int .i64 0,.slice none 0 0,.slice none 0 0]) ?_ 1 _ rfl;(with_reducible repeat (first|refine blk_drewN ?_ _|refine blk_drew ?_|refine blk_alloc ?_ _));refine blk_put (cs:=#[.string (⟨#[]⟩:ByteArray),.int .i64 0,.int .i64 0,.int .i64 0,.int .i64 0,.slice none 0 0,.slice none 0 0]) ?_ 0 _ rfl;(with_reducible repeat (first|refine blk_drewN ?_ _|refine blk_drew ?_|refine blk_alloc ?_ _));exact BK104.out) hb);have n2_:=Aside0.mk (below_step (by repeat (first|(with_reducible first|exact HB.out|apply below_alloc|apply pw_below_drewN|apply below_drew1|refine below_set ?_ GE101.out|refine below_set ?_ GE104.out)|exact HB.out)) hb);clear BK101;clear BK104;clear HB;have BK101:=n0_;have BK104:=n1_;have HB:=n2_;clear n0_ n1_ n2_;(try clear hb);(try clear hb2);(try clear hk);(try clear hi)))
        (try simp only [Act.put,List.setIfInBounds_toArray,List.set_cons_zero,List.set_cons_succ])
        go_cut [56] (fun v56 wc=>∃ (kq:Nat) (x56_15:Bool),v56=.bool x56_15∧Aside0 (bill_Amount.j1 kq x56_15 a1_0 a1_1 a1_2 a1_3 ((rd_T53 l0 a1_0).f0) ((rd_T53 l0 a1_0).f1) ((rd_T53 l0 a1_0).f2) ((rd_T53 l0 a1_0).f3) ((rd_T53 l0 a1_0).f4) ((rd_T53 l0 a1_0).f5) ((rd_T53 l0 a1_0).f6)=some (r1,r2))∧Aside0 (kq≤kj4)∧Aside0 (wc.heap[gb101]?=some (.cells #[.int .i64 a1_0,.int .i64 a1_1,.int .i64 a1_2,.int .i64 a1_3] 35 (0,0)))∧Aside0 (wc.heap[gb104]?=some (.cells #[.string ((rd_T53 l0 a1_0).f0),.int .i64 ((rd_T53 l0 a1_0).f1),.int .i64 ((rd_T53 l0 a1_0).f2),.int .i64 ((rd_T53 l0 a1_0).f3),.int .i64 ((rd_T53 l0 a1_0).f4),(.slice A103_5 ((rd_T53 l0 a1_0).f5).length c103_5),(.slice A103_6 ((rd_T53 l0 a1_0).f6).length c103_6)] 53 (0,0)))∧Aside0 (Below w.heap.size w wc))
        case first =>
         have H:=HC16.out
         clear HC16
         by_cases c23:a1_2 < 0
         ·rw [if_pos c23] at H
          have c23b0:decide (a1_2 < 0)=true:=decide_eq_true c23
          clear c23
          (first|rw [c23b0]|(simp only [i64_w,i32_w];rw [c23b0])|skip)
          have H':=Aside0.mk H
          clear H
          have hnb24:=NB101_104.out
          have hnc24:=NB104_101.out
          have hcz25_0:w22.cell? ⟨gb101,0,none⟩=some (.int .i64 a1_0):=(blk_cell BK101.out 0).trans rfl
          have hcz25_1:w22.cell? ⟨gb101,1,none⟩=some (.int .i64 a1_1):=(blk_cell BK101.out 1).trans rfl
          have hcz25_2:w22.cell? ⟨gb101,2,none⟩=some (.int .i64 a1_2):=(blk_cell BK101.out 2).trans rfl
          have hcz25_3:w22.cell? ⟨gb101,3,none⟩=some (.int .i64 a1_3):=(blk_cell BK101.out 3).trans rfl
          have hfz25_0:=blk_frozen BK101.out 0
          have hfz25_1:=blk_frozen BK101.out 1
          have hfz25_2:=blk_frozen BK101.out 2
          have hfz25_3:=blk_frozen BK101.out 3
          go_wp2
          go_meet
          case rel=>exact ⟨_,(true),(by first|rfl|(simp;done)|(simp [*];done)),H',⟨by have:=HJ4.out;first|omega|exact Nat.le_refl _⟩,⟨by (with_reducible repeat (first|refine blk_drewN ?_ _|refine blk_drew ?_|refine blk_alloc ?_ _));exact BK101.out⟩,⟨by (with_reducible repeat (first|refine blk_drewN ?_ _|refine blk_drew ?_|refine blk_alloc ?_ _));exact BK104.out⟩,⟨by repeat (first|(with_reducible first|exact HB.out|apply below_alloc|apply pw_below_drewN|apply below_drew1|refine below_set ?_ GE101.out|refine below_set ?_ GE104.out)|exact HB.out)⟩⟩
         ·rw [if_neg c23] at H
          have c23b0:decide (a1_2 < 0)=false:=decide_eq_false c23
          clear c23
          (first|rw [c23b0]|(simp only [i64_w,i32_w];rw [c23b0])|skip)
          by_cases c26:a1_2 > 200
          ·rw [if_pos c26] at H
           have c26b0:decide (200 < a1_2)=true:=decide_eq_true c26
           clear c26
           have H':=Aside0.mk H
           clear H
           have hnb27:=NB101_104.out
           have hnc27:=NB104_101.out
           have hcz28_0:w22.cell? ⟨gb101,0,none⟩=some (.int .i64 a1_0):=(blk_cell BK101.out 0).trans rfl
           have hcz28_1:w22.cell? ⟨gb101,1,none⟩=some (.int .i64 a1_1):=(blk_cell BK101.out 1).trans rfl
           have hcz28_2:w22.cell? ⟨gb101,2,none⟩=some (.int .i64 a1_2):=(blk_cell BK101.out 2).trans rfl
           have hcz28_3:w22.cell? ⟨gb101,3,none⟩=some (.int .i64 a1_3):=(blk_cell BK101.out 3).trans rfl
           have hfz28_0:=blk_frozen BK101.out 0
           have hfz28_1:=blk_frozen BK101.out 1
           have hfz28_2:=blk_frozen BK101.out 2
           have hfz28_3:=blk_frozen BK101.out 3
           go_wp2
           go_meet
           case rel=>exact ⟨_,(true),(by first|rfl|(simp;done)|(simp [*];done)),H',⟨by have:=HJ4.out;first|omega|exact Nat.le_refl _⟩,⟨by (with_reducible repeat (first|refine blk_drewN ?_ _|refine blk_drew ?_|refine blk_alloc ?_ _));exact BK101.out⟩,⟨by (with_reducible repeat (first|refine blk_drewN ?_ _|refine blk_drew ?_|refine blk_alloc ?_ _));exact BK104.out⟩,⟨by repeat (first|(with_reducible first|exact HB.out|apply below_alloc|apply pw_below_drewN|apply below_drew1|refine below_set ?_ GE101.out|refine below_set ?_ GE104.out)|exact HB.out)⟩⟩
          ·rw [if_neg c26] at H
           have c26b0:decide (200 < a1_2)=false:=decide_eq_false c26
           clear c26
           by_cases c29:a1_3 < 0
           ·rw [if_pos c29] at H
            have c29b0:decide (a1_3 < 0)=true:=decide_eq_true c29
            clear c29
            have H':=Aside0.mk H
            clear H
            have hnb30:=NB101_104.out
            have hnc30:=NB104_101.out
            have hcz31_0:w22.cell? ⟨gb101,0,none⟩=some (.int .i64 a1_0):=(blk_cell BK101.out 0).trans rfl
            have hcz31_1:w22.cell? ⟨gb101,1,none⟩=some (.int .i64 a1_1):=(blk_cell BK101.out 1).trans rfl
            have hcz31_2:w22.cell? ⟨gb101,2,none⟩=some (.int .i64 a1_2):=(blk_cell BK101.out 2).trans rfl
            have hcz31_3:w22.cell? ⟨gb101,3,none⟩=some (.int .i64 a1_3):=(blk_cell BK101.out 3).trans rfl
            have hfz31_0:=blk_frozen BK101.out 0
            have hfz31_1:=blk_frozen BK101.out 1
            have hfz31_2:=blk_frozen BK101.out 2
            have hfz31_3:=blk_frozen BK101.out 3
            go_wp2
            go_meet
            case rel=>exact ⟨_,(true),(by first|rfl|(simp;done)|(simp [*];done)),H',⟨by have:=HJ4.out;first|omega|exact Nat.le_refl _⟩,⟨by (with_reducible repeat (first|refine blk_drewN ?_ _|refine blk_drew ?_|refine blk_alloc ?_ _));exact BK101.out⟩,⟨by (with_reducible repeat (first|refine blk_drewN ?_ _|refine blk_drew ?_|refine blk_alloc ?_ _));exact BK104.out⟩,⟨by repeat (first|(with_reducible first|exact HB.out|apply below_alloc|apply pw_below_drewN|apply below_drew1|refine below_set ?_ GE101.out|refine below_set ?_ GE104.out)|exact HB.out)⟩⟩
           ·rw [if_neg c29] at H
            have c29b0:decide (a1_3 < 0)=false:=decide_eq_false c29
            clear c29
            have H':=Aside0.mk H
            clear H
            have hnb32:=NB101_104.out
            have hnc32:=NB104_101.out
            have hcz33_0:w22.cell? ⟨gb101,0,none⟩=some (.int .i64 a1_0):=(blk_cell BK101.out 0).trans rfl
            have hcz33_1:w22.cell? ⟨gb101,1,none⟩=some (.int .i64 a1_1):=(blk_cell BK101.out 1).trans rfl
            have hcz33_2:w22.cell? ⟨gb101,2,none⟩=some (.int .i64 a1_2):=(blk_cell BK101.out 2).trans rfl
            have hcz33_3:w22.cell? ⟨gb101,3,none⟩=some (.int .i64 a1_3):=(blk_cell BK101.out 3).trans rfl
            have hfz33_0:=blk_frozen BK101.out 0
            have hfz33_1:=blk_frozen BK101.out 1
            have hfz33_2:=blk_frozen BK101.out 2
            have hfz33_3:=blk_frozen BK101.out 3
            go_wp2
            go_meet
            case rel=>exact ⟨_,(decide (a1_3 > 1000000000)),(by first|rfl|(simp;done)|(simp [*];done)),H',⟨by have:=HJ4.out;first|omega|exact Nat.le_refl _⟩,⟨by (with_reducible repeat (first|refine blk_drewN ?_ _|refine blk_drew ?_|refine blk_alloc ?_ _));exact BK101.out⟩,⟨by (with_reducible repeat (first|refine blk_drewN ?_ _|refine blk_drew ?_|refine blk_alloc ?_ _));exact BK104.out⟩,⟨by repeat (first|(with_reducible first|exact HB.out|apply below_alloc|apply pw_below_drewN|apply below_drew1|refine below_set ?_ GE101.out|refine below_set ?_ GE104.out)|exact HB.out)⟩⟩
        case rest =>
         clear HC16
         try clear c1
         try clear p1
         try clear q1
         try clear hx1
         try clear c2
         try clear p2
         try clear c3
         try clear c4
         try clear c4b0
         try clear c4b1
         try clear c8
         try clear c8b0
         try clear c10
         try clear p10
         try clear q10
         try clear hx10
         try clear c11
         try clear c12
         try clear c12b0
         try clear c13
         try clear c13b0
         try clear c14
         try clear c15
         try clear c19
         try clear c23
         try clear c23b0
         try clear c24
         try clear c26
         try clear c26b0
         try clear c27
         try clear c28
         try clear c29
         try clear c29b0
         try clear c30
         try clear c32
         try clear hcz10_0
         try clear hcz10_1
         try clear hcz10_2
         try clear hcz10_3
         try clear hcz17_0
         try clear hcz17_1
         try clear hcz17_2
         try clear hcz17_3
         try clear hcz20_0
         try clear hcz20_1
         try clear hcz20_2
         try clear hcz20_3
         try clear hcz20_4
         try clear hcz20_5
         try clear hcz20_6
         try clear hcz21_0
         try clear hcz21_1
         try clear hcz21_2
         try clear hcz21_3
         try clear hcz25_0
         try clear hcz25_1
         try clear hcz25_2
         try clear hcz25_3
         try clear hcz28_0
         try clear hcz28_1
         try clear hcz28_2
         try clear hcz28_3
         try clear hcz31_0
         try clear hcz31_1
         try clear hcz31_2
         try clear hcz31_3
         try clear hcz33_0
         try clear hcz33_1
         try clear hcz33_2
         try clear hcz33_3
         try clear hcz9_0
         try clear hcz9_1
         try clear hcz9_2
         try clear hcz9_3
         try clear hfz10_0
         try clear hfz10_1
         try clear hfz10_2
         try clear hfz10_3
         try clear hfz17_0
         try clear hfz17_1
         try clear hfz17_2
         try clear hfz17_3
         try clear hfz20_0
         try clear hfz20_1
         try clear hfz20_2
         try clear hfz20_3
         try clear hfz20_4
         try clear hfz20_5
         try clear hfz20_6
         try clear hfz21_0
         try clear hfz21_1
         try clear hfz21_2
         try clear hfz21_3
         try clear hfz25_0
         try clear hfz25_1
         try clear hfz25_2
         try clear hfz25_3
         try clear hfz28_0
         try clear hfz28_1
         try clear hfz28_2
         try clear hfz28_3
         try clear hfz31_0
         try clear hfz31_1
         try clear hfz31_2
         try clear hfz31_3
         try clear hfz33_0
         try clear hfz33_1
         try clear hfz33_2
         try clear hfz33_3
         try clear hfz9_0
         try clear hfz9_1
         try clear hfz9_2
         try clear hfz9_3
         try clear hx103_0
         try clear hx103_1
         try clear hx103_2
         try clear hx103_3
         try clear hx103_4
         try clear hx103_5
         try clear hx103_6
         try clear p103
         try clear p2
         try clear q103
         obtain ⟨kq,x56_15,rfl,HA,HJ15,BK101,BK104,HB⟩:=hcut
         cases kq with
         | zero=>exact absurd HA.out (by simp [bill_Amount.j1])
         | succ kj15 =>
          have H:=HA.out
          clear HA
          simp only [bill_Amount.j1] at H
          by_cases c34:x56_15=true
          ·subst c34
           have H1:(some (0,9))=some (r1,r2):=by rw [if_pos rfl] at H;exact H
           clear H
           have H:=H1
           clear H1
           simp only [Option.some.injEq,Prod.mk.injEq] at H
           obtain ⟨rfl,rfl⟩:=H
           go_wp2
           go_ret2
           exact ⟨by first|rfl|(simp [errW_none,errW_some]<;>rfl)|(simp [*,errW_none,errW_some]<;>rfl),by repeat (first|(with_reducible first|exact HB.out|apply below_alloc|apply pw_below_drewN|apply below_drew1|refine below_set ?_ GE101.out|refine below_set ?_ GE104.out)|exact HB.out)⟩
          ·replace c34:=Bool.eq_false_iff.mpr c34
           subst c34
           have H1:((product_Volume.f ((rd_T53 l0 a1_0).f0) ((rd_T53 l0 a1_0).f1) ((rd_T53 l0 a1_0).f2) ((rd_T53 l0 a1_0).f3) ((rd_T53 l0 a1_0).f4) ((rd_T53 l0 a1_0).f5) ((rd_T53 l0 a1_0).f6) a1_1).bind fun t107=>((bill_nearest.f (IntKind.u64.wrap (a1_3)) (IntKind.u64.wrap (wrap64 (t107 * a1_2))) 1000000000).bind fun t108=>(some (t108,0))))=some (r1,r2):=by rw [if_neg (show ¬ (false=true) by decide)] at H;exact H
           clear H
           have H:=H1
           clear H1
           replace H:=Option.bind_eq_some_iff.mp H
           obtain ⟨t107,A350,H⟩:=H
           replace H:((bill_nearest.f (IntKind.u64.wrap (a1_3)) (IntKind.u64.wrap (wrap64 (t107 * a1_2))) 1000000000).bind fun t108=>(some (t108,0)))=some (r1,r2):=H
           have A35:=Aside0.mk A350
           clear A350
           replace H:=Option.bind_eq_some_iff.mp H
           obtain ⟨t108,A360,H⟩:=H
           replace H:(some (t108,0))=some (r1,r2):=H
           have A36:=Aside0.mk A360
           clear A360
           simp only [Option.some.injEq,Prod.mk.injEq] at H
           obtain ⟨rfl,rfl⟩:=H
           try go_wp2
           have n0_:=Aside0.mk (blk_drew BK101.out)
           have n1_:=Aside0.mk (blk_drew BK104.out)
           have n2_:=Aside0.mk (below_drew1 HB.out)
           clear BK101
           clear BK104
           clear HB
           have BK101:=n0_
           have BK104:=n1_
           have HB:=n2_
           clear n0_ n1_ n2_
           refine start_ (n:=14) (S:=fun w'=>w'.cell? ⟨gb101,0,none⟩=some (.int .i64 a1_0)∧w'.cell? ⟨gb101,1,none⟩=some (.int .i64 a1_1)∧w'.cell? ⟨gb101,2,none⟩=some (.int .i64 a1_2)∧w'.cell? ⟨gb101,3,none⟩=some (.int .i64 a1_3)∧w'.cell? ⟨gb104,0,none⟩=some (.string ((rd_T53 l0 a1_0).f0))∧w'.cell? ⟨gb104,1,none⟩=some (.int .i64 ((rd_T53 l0 a1_0).f1))∧w'.cell? ⟨gb104,2,none⟩=some (.int .i64 ((rd_T53 l0 a1_0).f2))∧w'.cell? ⟨gb104,3,none⟩=some (.int .i64 ((rd_T53 l0 a1_0).f3))∧w'.cell? ⟨gb104,4,none⟩=some (.int .i64 ((rd_T53 l0 a1_0).f4))∧w'.cell? ⟨gb104,5,none⟩=some (.slice A103_5 ((rd_T53 l0 a1_0).f5).length c103_5)∧w'.cell? ⟨gb104,6,none⟩=some (.slice A103_6 ((rd_T53 l0 a1_0).f6).length c103_6)) (ds:=[]) (bitsA 14 0) (by kernel_rfl) rfl rfl ⟨(blk_cell BK101.out 0).trans rfl,(blk_cell BK101.out 1).trans rfl,(blk_cell BK101.out 2).trans rfl,(blk_cell BK101.out 3).trans rfl,(blk_cell BK104.out 0).trans rfl,(blk_cell BK104.out 1).trans rfl,(blk_cell BK104.out 2).trans rfl,(blk_cell BK104.out 3).trans rfl,(blk_cell BK104.out 4).trans rfl,(blk_cell BK104.out 5).trans rfl,(blk_cell BK104.out 6).trans rfl⟩ (fun hHeld=>?_);refine with_tabW bill_Amount.tab12 bill_Amount.bits12 (fun HT_ HW_=>?_)
           generalize wc.drew=w37 at BK101 BK104 HB hHeld ⊢
           refine pure_ (i:=0) (N:=some 57) (v:=?_) (a':=?_) (bitsA 14 1) rfl rfl (any_of HT_.out (by kernel_rfl)) (fun _ _ _ h=>h) (Or.inl ⟨by rfl,?_⟩) ?_ ?_
           rotate_left;(intro w';go_simp;with_reducible rfl);rotate_left;(simp only [Act.put,List.setIfInBounds_toArray,List.set_cons_zero,List.set_cons_succ,i64_w,i32_w];rfl)
           refine pure_ (i:=4) (N:=some 61) (v:=?_) (a':=?_) (bitsA 14 17) rfl rfl (any_of HT_.out (by kernel_rfl)) (fun _ _ _ h=>h) (Or.inl ⟨by rfl,?_⟩) ?_ ?_
           rotate_left;(intro w';go_simp;with_reducible rfl);rotate_left;(simp only [Act.put,List.setIfInBounds_toArray,List.set_cons_zero,List.set_cons_succ,i64_w,i32_w];rfl)
           refine pure_ (i:=7) (N:=some 64) (v:=?_) (a':=?_) (bitsA 14 145) rfl rfl (any_of HT_.out (by kernel_rfl)) (fun _ _ _ h=>h) (Or.inl ⟨by rfl,?_⟩) ?_ ?_
           rotate_left;(intro w';go_simp;with_reducible rfl);rotate_left;(simp only [Act.put,List.setIfInBounds_toArray,List.set_cons_zero,List.set_cons_succ,i64_w,i32_w];rfl)
           refine take_ (i:=1) (N:=some 58) (v:=?_) (a':=?_) (bitsA 14 147) rfl rfl (take_ofW HT_.out HW_.out (by kernel_rfl)) (fun _ _ _ h=>h) (Or.inl ⟨by rfl,?_⟩) hHeld ?_ ?_
           rotate_left;(rintro w' ⟨s0,s1,s2,s3,s4,s5,s6,s7,s8,s9,s10⟩;go_simp;with_reducible rfl);rotate_left;(simp only [Act.put,List.setIfInBounds_toArray,List.set_cons_zero,List.set_cons_succ,i64_w,i32_w];rfl)
           refine pure_ (i:=2) (N:=some 59) (v:=?_) (a':=?_) (bitsA 14 151) rfl rfl (any_of HT_.out (by kernel_rfl)) (fun _ _ _ h=>h) (Or.inl ⟨by rfl,?_⟩) ?_ ?_
           rotate_left;(intro w';go_simp;with_reducible rfl);rotate_left;(simp only [Act.put,List.setIfInBounds_toArray,List.set_cons_zero,List.set_cons_succ,i64_w,i32_w];rfl)
           refine take_ (i:=3) (N:=some 60) (v:=?_) (a':=?_) (bitsA 14 159) rfl rfl (take_ofW HT_.out HW_.out (by kernel_rfl)) (fun _ _ _ h=>h) (Or.inl ⟨by rfl,?_⟩) hHeld ?_ ?_
           rotate_left;(rintro w' ⟨s0,s1,s2,s3,s4,s5,s6,s7,s8,s9,s10⟩;go_simp;with_reducible rfl);rotate_left;(simp only [Act.put,List.setIfInBounds_toArray,List.set_cons_zero,List.set_cons_succ,i64_w,i32_w];rfl)
           refine take_ (i:=5) (N:=some 62) (v:=?_) (a':=?_) (bitsA 14 191) rfl rfl (take_ofW HT_.out HW_.out (by kernel_rfl)) (fun _ _ _ h=>h) (Or.inl ⟨by rfl,?_⟩) hHeld ?_ ?_
           rotate_left;(rintro w' ⟨s0,s1,s2,s3,s4,s5,s6,s7,s8,s9,s10⟩;go_simp;with_reducible rfl);rotate_left;(simp only [Act.put,List.setIfInBounds_toArray,List.set_cons_zero,List.set_cons_succ,i64_w,i32_w];rfl)
           refine take_ (i:=8) (N:=some 65) (v:=?_) (a':=?_) (bitsA 14 447) rfl rfl (take_ofW HT_.out HW_.out (by kernel_rfl)) (fun _ _ _ h=>h) (Or.inl ⟨by rfl,?_⟩) hHeld ?_ ?_
           rotate_left;(rintro w' ⟨s0,s1,s2,s3,s4,s5,s6,s7,s8,s9,s10⟩;go_simp;with_reducible rfl);rotate_left;(simp only [Act.put,List.setIfInBounds_toArray,List.set_cons_zero,List.set_cons_succ,i64_w,i32_w];rfl)
           refine one_ (i:=6) (N:=some 63) (bitsA 14 511) rfl rfl (one_of HT_.out (by kernel_rfl)) (by decide) (fun K hK=>?_)
           refine goes_ Tryd.func22 (by kernel_rfl) rfl #[.agg #[.string ((rd_T53 l0 a1_0).f0),.int .i64 ((rd_T53 l0 a1_0).f1),.int .i64 ((rd_T53 l0 a1_0).f2),.int .i64 ((rd_T53 l0 a1_0).f3),.int .i64 ((rd_T53 l0 a1_0).f4),.slice A103_5 ((rd_T53 l0 a1_0).f5).length c103_5,.slice A103_6 ((rd_T53 l0 a1_0).f6).length c103_6],.int .i64 a1_1] (by rfl) rfl rfl (by (try simp only [List.map_toArray,List.map_cons,List.map_nil]);first|done|rfl|(simp only [List.length_drop,List.length_take];rfl)) ?_
           with_reducible refine (product_Volume.calls ((rd_T53 l0 a1_0).f0) ((rd_T53 l0 a1_0).f1) ((rd_T53 l0 a1_0).f2) ((rd_T53 l0 a1_0).f3) ((rd_T53 l0 a1_0).f4) _ _ ((rd_T53 l0 a1_0).f5) _ _ ((rd_T53 l0 a1_0).f6) a1_1 t107 _ ?side1 ?side2 ?side3 ?side4 A35.out).mono ?_
           (case side1=>repeat (first|exact (Kd.C_below HR103_5.out HB.out)|(with_reducible refine Kd.C_alloc ?_ _)|(with_reducible refine Kd.C_drewN ?_ _)|(with_reducible refine Kd.C_drew ?_)))
           (case side2=>exact HC103_5.out)
           (case side3=>repeat (first|exact (Kd.C_below HR103_6.out HB.out)|(with_reducible refine Kd.C_alloc ?_ _)|(with_reducible refine Kd.C_drewN ?_ _)|(with_reducible refine Kd.C_drew ?_)))
           (case side4=>exact HC103_6.out)
           rintro e w38 ⟨rfl,hb⟩
           refine ⟨_,rfl,?_⟩
           have n0_:=Aside0.mk (blk_below (g:=gb101) (o:=.cells #[.int .i64 a1_0,.int .i64 a1_1,.int .i64 a1_2,.int .i64 a1_3] 35 (0,0)) (by (with_reducible repeat (first|refine blk_drewN ?_ _|refine blk_drew ?_|refine blk_alloc ?_ _));exact BK101.out) hb)
           have n1_:=Aside0.mk (blk_below (g:=gb104) (o:=.cells #[.string ((rd_T53 l0 a1_0).f0),.int .i64 ((rd_T53 l0 a1_0).f1),.int .i64 ((rd_T53 l0 a1_0).f2),.int .i64 ((rd_T53 l0 a1_0).f3),.int .i64 ((rd_T53 l0 a1_0).f4),.slice A103_5 ((rd_T53 l0 a1_0).f5).length c103_5,.slice A103_6 ((rd_T53 l0 a1_0).f6).length c103_6] 53 (0,0)) (by (with_reducible repeat (first|refine blk_drewN ?_ _|refine blk_drew ?_|refine blk_alloc ?_ _));exact BK104.out) hb)
           have n2_:=Aside0.mk (below_step (by repeat (first|(with_reducible first|exact HB.out|apply below_alloc|apply pw_below_drewN|apply below_drew1|refine below_set ?_ GE101.out|refine below_set ?_ GE104.out)|exact HB.out)) hb)
           clear BK101
           clear BK104
           clear HB
           have BK101:=n0_
           have BK104:=n1_
           have HB:=n2_
           clear n0_ n1_ n2_
           (try clear hb)
           (try clear hb2)
           (try clear hk)
           (try clear hi)
           refine hK.out _ _ ⟨(blk_cell BK101.out 0).trans rfl,(blk_cell BK101.out 1).trans rfl,(blk_cell BK101.out 2).trans rfl,(blk_cell BK101.out 3).trans rfl,(blk_cell BK104.out 0).trans rfl,(blk_cell BK104.out 1).trans rfl,(blk_cell BK104.out 2).trans rfl,(blk_cell BK104.out 3).trans rfl,(blk_cell BK104.out 4).trans rfl,(blk_cell BK104.out 5).trans rfl,(blk_cell BK104.out 6).trans rfl⟩ (fun hHeld=>?_)
           clear hK K
           refine norm_ (a':=?_) ?_ ?_
           rotate_left
           ·show Act.put _ (some 63) _=_
            simp only [Act.put,List.setIfInBounds_toArray,List.set_cons_zero,List.set_cons_succ,i64_w,i32_w]
            rfl
           refine pure_ (i:=9) (N:=some 66) (v:=?_) (a':=?_) (bitsA 14 1023) rfl rfl (any_of HT_.out (by kernel_rfl)) (fun _ _ _ h=>h) (Or.inl ⟨by rfl,?_⟩) ?_ ?_
           rotate_left;(intro w';go_simp;with_reducible rfl);rotate_left;(simp only [Act.put,List.setIfInBounds_toArray,List.set_cons_zero,List.set_cons_succ,i64_w,i32_w];rfl)
           refine pure_ (i:=10) (N:=some 67) (v:=?_) (a':=?_) (bitsA 14 2047) rfl rfl (any_of HT_.out (by kernel_rfl)) (fun _ _ _ h=>h) (Or.inl ⟨by rfl,?_⟩) ?_ ?_
           rotate_left;(intro w';go_simp;with_reducible rfl);rotate_left;(simp only [Act.put,List.setIfInBounds_toArray,List.set_cons_zero,List.set_cons_succ,i64_w,i32_w];rfl)
           refine one_ (i:=11) (N:=some 68) (bitsA 14 4095) rfl rfl (one_of HT_.out (by kernel_rfl)) (by decide) (fun K hK=>?_)
           refine goes_ Tryd.func30 (by kernel_rfl) rfl #[.int .u64 (IntKind.u64.wrap (a1_3)),.int .u64 (IntKind.u64.wrap (wrap64 (t107 * a1_2))),.int .u64 1000000000] (by rfl) rfl rfl (by (try simp only [List.map_toArray,List.map_cons,List.map_nil]);first|done|rfl|(simp only [List.length_drop,List.length_take];rfl)) ?_
           with_reducible refine (bill_nearest.calls (IntKind.u64.wrap (a1_3)) (IntKind.u64.wrap (wrap64 (t107 * a1_2))) 1000000000 t108 _ A36.out).mono ?_
           rintro e w' ⟨rfl,⟨nd,rfl⟩⟩
           refine ⟨_,rfl,?_⟩
           refine hK.out _ _ ⟨(blk_cell BK101.out 0).trans rfl,(blk_cell BK101.out 1).trans rfl,(blk_cell BK101.out 2).trans rfl,(blk_cell BK101.out 3).trans rfl,(blk_cell BK104.out 0).trans rfl,(blk_cell BK104.out 1).trans rfl,(blk_cell BK104.out 2).trans rfl,(blk_cell BK104.out 3).trans rfl,(blk_cell BK104.out 4).trans rfl,(blk_cell BK104.out 5).trans rfl,(blk_cell BK104.out 6).trans rfl⟩ (fun hHeld=>?_)
           clear hK K
           refine norm_ (a':=?_) ?_ ?_
           rotate_left
           ·show Act.put _ (some 68) _=_
            simp only [Act.put,List.setIfInBounds_toArray,List.set_cons_zero,List.set_cons_succ,i64_w,i32_w]
            rfl
           refine pure_ (i:=12) (N:=some 4) (v:=?_) (a':=?_) (bitsA 14 8191) rfl rfl (any_of HT_.out (by kernel_rfl)) (fun _ _ _ h=>h) (Or.inl ⟨by rfl,?_⟩) ?_ ?_
           rotate_left;(intro w';go_simp;with_reducible rfl);rotate_left;(simp only [Act.put,List.setIfInBounds_toArray,List.set_cons_zero,List.set_cons_succ,i64_w,i32_w];rfl)
           refine pure_ (i:=13) (N:=some 5) (v:=?_) (a':=?_) (bitsA 14 16383) rfl rfl (any_of HT_.out (by kernel_rfl)) (fun _ _ _ h=>h) (Or.inl ⟨by rfl,?_⟩) ?_ ?_
           rotate_left;(intro w';go_simp;with_reducible rfl);rotate_left;(simp only [Act.put,List.setIfInBounds_toArray,List.set_cons_zero,List.set_cons_succ,i64_w,i32_w];rfl)
           refine done_ (done_of HT_.out (by kernel_rfl)) ?_
           try go_wp2
           go_ret2
           exact ⟨by first|rfl|(simp [errW_none,errW_some]<;>rfl)|(simp [*,errW_none,errW_some]<;>rfl),by repeat (first|(with_reducible first|exact HB.out|apply below_alloc|apply pw_below_drewN|apply below_drew1|refine below_set ?_ GE101.out|refine below_set ?_ GE104.out)|exact HB.out)⟩
       ·replace c15:=Bool.eq_false_iff.mpr c15
        subst c15
        have H1:(some (0,20))=some (r1,r2):=by rw [if_neg (show ¬ (false=true) by decide)] at H;exact H
        clear H
        have H:=H1
        clear H1
        simp only [Option.some.injEq,Prod.mk.injEq] at H
        obtain ⟨rfl,rfl⟩:=H
        have hcz39_0:wc.cell? ⟨gb101,0,none⟩=some (.int .i64 a1_0):=(blk_cell BK101.out 0).trans rfl
        have hcz39_1:wc.cell? ⟨gb101,1,none⟩=some (.int .i64 a1_1):=(blk_cell BK101.out 1).trans rfl
        have hcz39_2:wc.cell? ⟨gb101,2,none⟩=some (.int .i64 a1_2):=(blk_cell BK101.out 2).trans rfl
        have hcz39_3:wc.cell? ⟨gb101,3,none⟩=some (.int .i64 a1_3):=(blk_cell BK101.out 3).trans rfl
        have hfz39_0:=blk_frozen BK101.out 0
        have hfz39_1:=blk_frozen BK101.out 1
        have hfz39_2:=blk_frozen BK101.out 2
        have hfz39_3:=blk_frozen BK101.out 3
        have p103:0≤(a1_0:Int):=of_decide_eq_true (by first|(with_reducible assumption)|assumption)
        have q103:a1_0 < (l0.length:Int):=of_decide_eq_true (by first|(with_reducible assumption)|assumption)
        obtain ⟨ad103,A103_5,c103_5,A103_6,c103_6,e103,hx103_0,hx103_1,hx103_2,hx103_3,hx103_4,hx103_5,hx103_6,hl103_5,hi103_5,hl103_6,hi103_6⟩:=at_T53 HR0.out a1_0 p103 q103
        cases e103
        replace hx103_0:=(HB.out.cell (World.block_lt_of_cell? w _ hx103_0)).trans hx103_0
        replace hx103_1:=(HB.out.cell (World.block_lt_of_cell? w _ hx103_1)).trans hx103_1
        replace hx103_2:=(HB.out.cell (World.block_lt_of_cell? w _ hx103_2)).trans hx103_2
        replace hx103_3:=(HB.out.cell (World.block_lt_of_cell? w _ hx103_3)).trans hx103_3
        replace hx103_4:=(HB.out.cell (World.block_lt_of_cell? w _ hx103_4)).trans hx103_4
        replace hx103_5:=(HB.out.cell (World.block_lt_of_cell? w _ hx103_5)).trans hx103_5
        replace hx103_6:=(HB.out.cell (World.block_lt_of_cell? w _ hx103_6)).trans hx103_6
        have HR103_5:=Aside0.mk hi103_5
        have HC103_5:=Aside0.mk hl103_5
        clear hi103_5 hl103_5
        have HR103_6:=Aside0.mk hi103_6
        have HC103_6:=Aside0.mk hl103_6
        clear hi103_6 hl103_6
        replace p103:=eq_true p103
        replace q103:=eq_true q103
        go_wp2_with (first|((with_reducible refine gate_dst (N:=7) rfl ?_);(try (refine gate_guard (by rfl) ?_;dsimp only));refine box_event ?hg (N:=7) ?hd (cs:=#[.string (⟨#[]⟩:ByteArray),.int .i64 0,.int .i64 0,.int .i64 0,.int .i64 0,.slice none 0 0,.slice none 0 0]) (t:=53) ?hr ?_;(case hd=>rfl);(case hg=>rfl);(case hr=>first|(go_simp;done)|(go_simp;rfl));intro gb104 hg w40 hbox hb;have n0_:=Aside0.mk (blk_below (g:=gb101) (o:=.cells #[.int .i64 a1_0,.int .i64 a1_1,.int .i64 a1_2,.int .i64 a1_3] 35 (0,0)) (by (with_reducible repeat (first|refine blk_drewN ?_ _|refine blk_drew ?_|refine blk_alloc ?_ _));exact BK101.out) hb);have n1_:=Aside0.mk (below_step (by repeat (first|(with_reducible first|exact HB.out|apply below_alloc|apply pw_below_drewN|apply below_drew1|refine below_set ?_ GE101.out)|exact HB.out)) hb);have n2_:=Aside0.mk (hbox);have n3_:=Aside0.mk ((by rw [hg];exact (below_size (by repeat (first|(with_reducible first|exact HB.out|apply below_alloc|apply pw_below_drewN|apply below_drew1|refine below_set ?_ GE101.out)|exact HB.out))):w.heap.size≤gb104));have n4_:=Aside0.mk ((by rw [hg];exact (below_size (by repeat (first|(with_reducible first|exact HB.out|apply below_alloc|apply pw_below_drewN|apply below_drew1|refine below_set ?_ GE101.out)|exact HB.out))):w.heap.size≤gb104));have n5_:=Aside0.mk ((by rw [hg];exact Nat.ne_of_lt (blk_lt (g:=gb101) (o:=.cells #[.int .i64 a1_0,.int .i64 a1_1,.int .i64 a1_2,.int .i64 a1_3] 35 (0,0)) (by (with_reducible repeat (first|refine blk_drewN ?_ _|refine blk_drew ?_|refine blk_alloc ?_ _));exact BK101.out)):gb101 ≠ gb104));have n6_:=Aside0.mk ((by rw [hg];exact Nat.ne_of_gt (blk_lt (g:=gb101) (o:=.cells #[.int .i64 a1_0,.int .i64 a1_1,.int .i64 a1_2,.int .i64 a1_3] 35 (0,0)) (by (with_reducible repeat (first|refine blk_drewN ?_ _|refine blk_drew ?_|refine blk_alloc ?_ _));exact BK101.out)):gb104 ≠ gb101));clear BK101;clear HB;have BK101:=n0_;have HB:=n1_;have BK104:=n2_;have GW104:=n3_;have GE104:=n4_;have NB101_104:=n5_;have NB104_101:=n6_;clear n0_ n1_ n2_ n3_ n4_ n5_ n6_;clear hb hbox hg;have hnb41:=NB104_101.out;have hnc41:=NB101_104.out;have hcz42_0:w40.cell? ⟨gb104,0,none⟩=some (.string (⟨#[]⟩:ByteArray)):=(blk_cell BK104.out 0).trans rfl;have hcz42_1:w40.cell? ⟨gb104,1,none⟩=some (.int .i64 0):=(blk_cell BK104.out 1).trans rfl;have hcz42_2:w40.cell? ⟨gb104,2,none⟩=some (.int .i64 0):=(blk_cell BK104.out 2).trans rfl;have hcz42_3:w40.cell? ⟨gb104,3,none⟩=some (.int .i64 0):=(blk_cell BK104.out 3).trans rfl;have hcz42_4:w40.cell? ⟨gb104,4,none⟩=some (.int .i64 0):=(blk_cell BK104.out 4).trans rfl;have hcz42_5:w40.cell? ⟨gb104,5,none⟩=some (.slice none 0 0):=(blk_cell BK104.out 5).trans rfl;have hcz42_6:w40.cell? ⟨gb104,6,none⟩=some (.slice none 0 0):=(blk_cell BK104.out 6).trans rfl;have hfz42_0:=blk_frozen BK104.out 0;have hfz42_1:=blk_frozen BK104.out 1;have hfz42_2:=blk_frozen BK104.out 2;have hfz42_3:=blk_frozen BK104.out 3;have hfz42_4:=blk_frozen BK104.out 4;have hfz42_5:=blk_frozen BK104.out 5;have hfz42_6:=blk_frozen BK104.out 6;have hcz43_0:w40.cell? ⟨gb101,0,none⟩=some (.int .i64 a1_0):=(blk_cell BK101.out 0).trans rfl;have hcz43_1:w40.cell? ⟨gb101,1,none⟩=some (.int .i64 a1_1):=(blk_cell BK101.out 1).trans rfl;have hcz43_2:w40.cell? ⟨gb101,2,none⟩=some (.int .i64 a1_2):=(blk_cell BK101.out 2).trans rfl;have hcz43_3:w40.cell? ⟨gb101,3,none⟩=some (.int .i64 a1_3):=(blk_cell BK101.out 3).trans rfl;have hfz43_0:=blk_frozen BK101.out 0;have hfz43_1:=blk_frozen BK101.out 1;have hfz43_2:=blk_frozen BK101.out 2;have hfz43_3:=blk_frozen BK101.out 3)|((with_reducible refine gate_callee (f:=29) rfl ?_);refine goesL_ (some 34) rfl rfl Tryd.func29 (by kernel_rfl) rfl #[.agg #[.string ((rd_T53 l0 a1_0).f0),.int .i64 ((rd_T53 l0 a1_0).f1),.int .i64 ((rd_T53 l0 a1_0).f2),.int .i64 ((rd_T53 l0 a1_0).f3),.int .i64 ((rd_T53 l0 a1_0).f4),.slice A103_5 ((rd_T53 l0 a1_0).f5).length c103_5,.slice A103_6 ((rd_T53 l0 a1_0).f6).length c103_6],.int .i64 a1_1] rfl (by (try simp only [List.map_toArray,List.map_cons,List.map_nil]);first|done|rfl|(simp only [List.length_drop,List.length_take];rfl)) ?_;(with_reducible refine (product_Price.calls kj4 ((rd_T53 l0 a1_0).f0) ((rd_T53 l0 a1_0).f1) ((rd_T53 l0 a1_0).f2) ((rd_T53 l0 a1_0).f3) ((rd_T53 l0 a1_0).f4) _ _ ((rd_T53 l0 a1_0).f5) _ _ ((rd_T53 l0 a1_0).f6) a1_1 t105 false _ ?side1 ?side2 ?side3 ?side4 A14.out).mono ?_);(case side1=>exact Kd.C_below HR103_5.out (by repeat (first|(with_reducible first|exact HB.out|apply below_alloc|apply pw_below_drewN|apply below_drew1|refine below_set ?_ GE101.out|refine below_set ?_ GE104.out)|exact HB.out)));(case side2=>exact HC103_5.out);(case side3=>exact Kd.C_below HR103_6.out (by repeat (first|(with_reducible first|exact HB.out|apply below_alloc|apply pw_below_drewN|apply below_drew1|refine below_set ?_ GE101.out|refine below_set ?_ GE104.out)|exact HB.out)));(case side4=>exact HC103_6.out);rintro e w44 ⟨rfl,hb⟩;refine ⟨_,rfl,?_⟩;have n0_:=Aside0.mk (blk_below (g:=gb101) (o:=.cells #[.int .i64 a1_0,.int .i64 a1_1,.int .i64 a1_2,.int .i64 a1_3] 35 (0,0)) (by (with_reducible repeat (first|refine blk_drewN ?_ _|refine blk_drew ?_|refine blk_alloc ?_ _));refine blk_far ?_ NB101_104.out _;(with_reducible repeat (first|refine blk_drewN ?_ _|refine blk_drew ?_|refine blk_alloc ?_ _));refine blk_far ?_ NB101_104.out _;(with_reducible repeat (first|refine blk_drewN ?_ _|refine blk_drew ?_|refine blk_alloc ?_ _));refine blk_far ?_ NB101_104.out _;(with_reducible repeat (first|refine blk_drewN ?_ _|refine blk_drew ?_|refine blk_alloc ?_ _));refine blk_far ?_ NB101_104.out _;(with_reducible repeat (first|refine blk_drewN ?_ _|refine blk_drew ?_|refine blk_alloc ?_ _));refine blk_far ?_ NB101_104.out _;(with_reducible repeat (first|refine blk_drewN ?_ _|refine blk_drew ?_|refine blk_alloc ?_ _));refine blk_far ?_ NB101_104.out _;(with_reducible repeat (first|refine blk_drewN ?_ _|refine blk_drew ?_|refine blk_alloc ?_ _));refine blk_far ?_ NB101_104.out _;(with_reducible repeat (first|refine blk_drewN ?_ _|refine blk_drew ?_|refine blk_alloc ?_ _));exact BK101.out) hb);have n1_:=Aside0.mk (blk_below (g:=gb104) (o:=.cells #[.string ((rd_T53 l0 a1_0).f0),.int .i64 ((rd_T53 l0 a1_0).f1),.int .i64 ((rd_T53 l0 a1_0).f2),.int .i64 ((rd_T53 l0 a1_0).f3),.int .i64 ((rd_T53 l0 a1_0).f4),.slice A103_5 ((rd_T53 l0 a1_0).f5).length c103_5,.slice A103_6 ((rd_T53 l0 a1_0).f6).length c103_6] 53 (0,0)) (by (with_reducible repeat (first|refine blk_drewN ?_ _|refine blk_drew ?_|refine blk_alloc ?_ _));refine blk_put (cs:=#[.string ((rd_T53 l0 a1_0).f0),.int .i64 ((rd_T53 l0 a1_0).f1),.int .i64 ((rd_T53 l0 a1_0).f2),.int .i64 ((rd_T53 l0 a1_0).f3),.int .i64 ((rd_T53 l0 a1_0).f4),.slice A103_5 ((rd_T53 l0 a1_0).f5).length c103_5,.slice none 0 0]) ?_ 6 _ rfl;(with_reducible repeat (first|refine blk_drewN ?_ _|refine blk_drew ?_|refine blk_alloc ?_ _));refine blk_put (cs:=#[.string ((rd_T53 l0 a1_0).f0),.int .i64 ((rd_T53 l0 a1_0).f1),.int .i64 ((rd_T53 l0 a1_0).f2),.int .i64 ((rd_T53 l0 a1_0).f3),.int .i64 ((rd_T53 l0 a1_0).f4),.slice none 0 0,.slice none 0 0]) ?_ 5 _ rfl;(with_reducible repeat (first|refine blk_drewN ?_ _|refine blk_drew ?_|refine blk_alloc ?_ _));refine blk_put (cs:=#[.string ((rd_T53 l0 a1_0).f0),.int .i64 ((rd_T53 l0 a1_0).f1),.int .i64 ((rd_T53 l0 a1_0).f2),.int .i64 ((rd_T53 l0 a1_0).f3),.int .i64 0,.slice none 0 0,.slice none 0 0]) ?_ 4 _ rfl;(with_reducible repeat (first|refine blk_drewN ?_ _|refine blk_drew ?_|refine blk_alloc ?_ _));refine blk_put (cs:=#[.string ((rd_T53 l0 a1_0).f0),.int .i64 ((rd_T53 l0 a1_0).f1),.int .i64 ((rd_T53 l0 a1_0).f2),.int .i64 0,.int .i64 0,.slice none 0 0,.slice none 0 0]) ?_ 3 _ rfl;(with_reducible repeat (first|refine blk_drewN ?_ _|refine blk_drew ?_|refine blk_alloc ?_ _));refine blk_put (cs:=#[.string ((rd_T53 l0 a1_0).f0),.int .i64 ((rd_T53 l0 a1_0).f1),.int .i64 0,.int .i64 0,.int .i64 0,.slice none 0 0,.slice none 0 0]) ?_ 2 _ rfl;(with_reducible repeat (first|refine blk_drewN ?_ _|refine blk_drew ?_|refine blk_alloc ?_ _));refine blk_put (cs:=#[.string ((rd_T53 l0 a1_0).f0),.int .i64 0,.int .i64 0,.int .i64 0,.int .i64 0,.slice none 0 0,.slice none 0 0]) ?_ 1 _ rfl;(with_reducible repeat (first|refine blk_drewN ?_ _|refine blk_drew ?_|refine blk_alloc ?_ _));refine blk_put (cs:=#[.string (⟨#[]⟩:ByteArray),.int .i64 0,.int .i64 0,.int .i64 0,.int .i64 0,.slice none 0 0,.slice none 0 0]) ?_ 0 _ rfl;(with_reducible repeat (first|refine blk_drewN ?_ _|refine blk_drew ?_|refine blk_alloc ?_ _));exact BK104.out) hb);have n2_:=Aside0.mk (below_step (by repeat (first|(with_reducible first|exact HB.out|apply below_alloc|apply pw_below_drewN|apply below_drew1|refine below_set ?_ GE101.out|refine below_set ?_ GE104.out)|exact HB.out)) hb);clear BK101;clear BK104;clear HB;have BK101:=n0_;have BK104:=n1_;have HB:=n2_;clear n0_ n1_ n2_;(try clear hb);(try clear hb2);(try clear hk);(try clear hi)))
        go_ret2
        exact ⟨by first|rfl|(simp [errW_none,errW_some]<;>rfl)|(simp [*,errW_none,errW_some]<;>rfl),by repeat (first|(with_reducible first|exact HB.out|apply below_alloc|apply pw_below_drewN|apply below_drew1|refine below_set ?_ GE101.out|refine below_set ?_ GE104.out)|exact HB.out)⟩
      ·rw [if_neg c13] at H
       exact absurd H (by simp)
     ·rw [if_neg c12] at H
      exact absurd H (by simp)
 ·rw [if_neg c4] at H
  have c4b0:(t102 == 0)=false:=beq_eq_false_iff_ne.mpr c4
  have c4b1:(t102 != 0)=true:=bne_iff_ne.mpr c4
  simp only [Option.some.injEq,Prod.mk.injEq] at H
  obtain ⟨rfl,rfl⟩:=H
  go_enter Tryd.func14,Tryd.ntmps14
  go_wp2_with (first|((with_reducible refine gate_dst (N:=3) rfl ?_);(try (refine gate_guard (by rfl) ?_;dsimp only));refine box_event ?hg (N:=3) ?hd (cs:=#[.int .i64 a1_0,.int .i64 a1_1,.int .i64 a1_2,.int .i64 a1_3]) (t:=35) ?hr ?_;(case hd=>rfl);(case hg=>rfl);(case hr=>first|(go_simp;done)|(go_simp;rfl));intro gb101 hg w45 hbox hb;have n0_:=Aside0.mk (below_step (by repeat (first|(with_reducible first|exact HB.out|apply below_alloc|apply pw_below_drewN|apply below_drew1)|exact HB.out)) hb);have n1_:=Aside0.mk (hbox);have n2_:=Aside0.mk ((by rw [hg];exact (below_size (by repeat (first|(with_reducible first|exact HB.out|apply below_alloc|apply pw_below_drewN|apply below_drew1)|exact HB.out))):w.heap.size≤gb101));have n3_:=Aside0.mk ((by rw [hg];exact (below_size (by repeat (first|(with_reducible first|exact HB.out|apply below_alloc|apply pw_below_drewN|apply below_drew1)|exact HB.out))):w.heap.size≤gb101));clear HB;have HB:=n0_;have BK101:=n1_;have GW101:=n2_;have GE101:=n3_;clear n0_ n1_ n2_ n3_;clear hb hbox hg)|((with_reducible refine gate_callee (f:=28) rfl ?_);refine goesL_ (some 11) rfl rfl Tryd.func28 (by kernel_rfl) rfl #[.slice A0 l0.length c0] rfl (by (try simp only [List.map_toArray,List.map_cons,List.map_nil]);first|done|rfl|(simp only [List.length_drop,List.length_take];rfl)) ?_;(with_reducible refine (product_Check.calls k _ _ l0 t102 _ ?side1 ?side2 A3.out).mono ?_);(case side1=>repeat (first|exact (Kd.C_below HR0.out HB.out)|(with_reducible refine Kd.C_alloc ?_ _)|(with_reducible refine Kd.C_drewN ?_ _)|(with_reducible refine Kd.C_drew ?_)));(case side2=>exact HC0.out);rintro e w46 ⟨rfl,hb⟩;refine ⟨_,rfl,?_⟩;have n0_:=Aside0.mk (blk_below (g:=gb101) (o:=.cells #[.int .i64 a1_0,.int .i64 a1_1,.int .i64 a1_2,.int .i64 a1_3] 35 (0,0)) (by (with_reducible repeat (first|refine blk_drewN ?_ _|refine blk_drew ?_|refine blk_alloc ?_ _));exact BK101.out) hb);have n1_:=Aside0.mk (below_step (by repeat (first|(with_reducible first|exact HB.out|apply below_alloc|apply pw_below_drewN|apply below_drew1|refine below_set ?_ GE101.out)|exact HB.out)) hb);clear BK101;clear HB;have BK101:=n0_;have HB:=n1_;clear n0_ n1_;(try clear hb);(try clear hb2);(try clear hk);(try clear hi)))
  go_ret2
  exact ⟨by first|rfl|(simp [errW_none,errW_some]<;>rfl)|(simp [*,errW_none,errW_some]<;>rfl),by repeat (first|(with_reducible first|exact HB.out|apply below_alloc|apply pw_below_drewN|apply below_drew1|refine below_set ?_ GE101.out)|exact HB.out)⟩
end Go.Proofs.YtojkjhaobjidlaaDoor.P
namespace Go.Proofs.YtojkjhaobjidlaaDoor.P
open Go.RowKit Go.Proofs.YtojkjhaobjidlaaDoorW.PrintWords Go.Proofs.YtojkjhaobjidlaaDoorW.PrintLast Go.Proofs.YtojkjhaobjidlaaDoorW.PrintMore
attribute [local go_sem] max2_int min2_int max_two min_two max_three min_three max_four min_four
attribute [local go_sem] cell_twice
set_option linter.unusedVariables false
set_option linter.unusedSimpArgs false
mutual
def bill_Discount.l0:Nat→Int→Int→Int→List (S56)→Int→Int→Option (Int × Int)
 | 0,_,_,_,_,_,_=>none
 | k+1,x1,x6,x7,x13,x14,x15=>if x15 < x14 then (if 0≤x15 then (if x15 < (x13.length:Int) then (if ((rd_T56 x13 x15).f0)≤x6 then (some (0,11)) else (if ((rd_T56 x13 x15).f0) > 1000000000000000 then (bill_Discount.j1 k x1 x7 x13 x14 x15 true ((rd_T56 x13 x15).f0) ((rd_T56 x13 x15).f1)) else (if ((rd_T56 x13 x15).f1) < 0 then (bill_Discount.j1 k x1 x7 x13 x14 x15 true ((rd_T56 x13 x15).f0) ((rd_T56 x13 x15).f1)) else (bill_Discount.j1 k x1 x7 x13 x14 x15 (decide (((rd_T56 x13 x15).f1) > 1000)) ((rd_T56 x13 x15).f0) ((rd_T56 x13 x15).f1))))) else (none)) else (none)) else (if x1 < 0 then (some (0,9)) else (if x1 > 1000000000000000 then (some (0,9)) else (some (wrap64 (Int.tdiv (wrap64 (x1 * x7)) 1000),0))))
def bill_Discount.j1:Nat→Int→Int→List (S56)→Int→Int→Bool→Int→Int→Option (Int × Int)
 | 0,_,_,_,_,_,_,_,_=>none
 | k+1,x1,x7,x13,x14,x15,x35,x103000,x103001=>if x35=true then (some (0,9)) else (if x103000≤x1 then (bill_Discount.l0 k x1 x103000 x103001 x13 x14 (wrap64 (x15+1))) else (bill_Discount.l0 k x1 x103000 x7 x13 x14 (wrap64 (x15+1))))
end
def bill_Discount.f (k:Nat) (l0:List (S56)) (a1:Int):Option (Int × Int):=if (l0.length:Int) > 8 then (some (0,4)) else (bill_Discount.l0 k a1 (-1) 0 l0 (l0.length:Int) 0)
theorem bill_Discount.mono_l:∀ k,(∀ y0 y1 y2 y3 y4 y5,LeO (bill_Discount.l0 k y0 y1 y2 y3 y4 y5) (bill_Discount.l0 (k+1) y0 y1 y2 y3 y4 y5))∧(∀ y0 y1 y2 y3 y4 y5 y6 y7,LeO (bill_Discount.j1 k y0 y1 y2 y3 y4 y5 y6 y7) (bill_Discount.j1 (k+1) y0 y1 y2 y3 y4 y5 y6 y7))
 | 0=>⟨fun _ _ _ _ _ _ r h=>by simp [bill_Discount.l0] at h,fun _ _ _ _ _ _ _ _ r h=>by simp [bill_Discount.j1] at h⟩
 | k+1=>by
  obtain ⟨ih0,ih1⟩:=bill_Discount.mono_l k
  refine ⟨?_,?_⟩
  ·intro y0 y1 y2 y3 y4 y5
   unfold bill_Discount.l0
   repeat' first
   | (with_reducible exact ih0 _ _ _ _ _ _)
   | (with_reducible exact ih1 _ _ _ _ _ _ _ _)
   | (with_reducible exact LeO.refl _)
   | (with_reducible exact LeO.none _)
   | (with_reducible refine LeO.ite ?_ ?_)
   | (with_reducible refine LeO.bind ?_ (fun _=>?_))
   | exact ih0 _ _ _ _ _ _
   | exact ih1 _ _ _ _ _ _ _ _
   | exact LeO.none _
   | refine LeO.ite ?_ ?_
   | refine LeO.bind ?_ (fun _=>?_)
  ·intro y0 y1 y2 y3 y4 y5 y6 y7
   unfold bill_Discount.j1
   repeat' first
   | (with_reducible exact ih0 _ _ _ _ _ _)
   | (with_reducible exact ih1 _ _ _ _ _ _ _ _)
   | (with_reducible exact LeO.refl _)
   | (with_reducible exact LeO.none _)
   | (with_reducible refine LeO.ite ?_ ?_)
   | (with_reducible refine LeO.bind ?_ (fun _=>?_))
   | exact ih0 _ _ _ _ _ _
   | exact ih1 _ _ _ _ _ _ _ _
   | exact LeO.none _
   | refine LeO.ite ?_ ?_
   | refine LeO.bind ?_ (fun _=>?_)
theorem bill_Discount.mono:∀ a0 a1 k,LeO (bill_Discount.f k a0 a1) (bill_Discount.f (k+1) a0 a1):=by
 intro a0 a1 k
 obtain ⟨ih0,ih1⟩:=bill_Discount.mono_l k
 unfold bill_Discount.f
 repeat' first
   | (with_reducible exact ih0 _ _ _ _ _ _)
   | (with_reducible exact ih1 _ _ _ _ _ _ _ _)
   | (with_reducible exact LeO.refl _)
   | (with_reducible exact LeO.none _)
   | (with_reducible refine LeO.ite ?_ ?_)
   | (with_reducible refine LeO.bind ?_ (fun _=>?_))
   | exact ih0 _ _ _ _ _ _
   | exact ih1 _ _ _ _ _ _ _ _
   | exact LeO.none _
   | refine LeO.ite ?_ ?_
   | refine LeO.bind ?_ (fun _=>?_)
set_option maxHeartbeats 8000000 in
set_option maxRecDepth 100000 in
theorem bill_Discount.calls (k:Nat) (A0:Option Addr) (c0:Nat) (l0:List (S56)) (a1:Int) (r1:Int) (r2:Int) (w:World) (hr0:Kd.C k56 w A0 l0.length l0) (hc0:l0.length≤c0) (h:bill_Discount.f k l0 a1=some (r1,r2)) :
  Calls Tryd.prog 16 #[.slice A0 l0.length c0,.int .i64 a1] w fun e w'=>e=.returned (.tuple #[.int .i64 r1,.int .i64 r2])∧Below w.heap.size w w':=by
 have hu56:=Tryd.underlying56
 have HR0:=Aside0.mk hr0
 have HC0:=Aside0.mk hc0
 clear hr0 hc0
 have HB:=Aside0.mk (Below.refl w.heap.size w)
 have H:(if (l0.length:Int) > 8 then (some (0,4)) else (bill_Discount.l0 k a1 (-1) 0 l0 (l0.length:Int) 0))=some (r1,r2):=h
 clear h
 by_cases c3:(l0.length:Int) > 8
 ·rw [if_pos c3] at H
  have c3b0:decide (8 < (l0.length:Int))=true:=decide_eq_true c3
  have c3b1:decide (8 < l0.length)=true:=decide_eq_true (by omega)
  clear c3
  simp only [Option.some.injEq,Prod.mk.injEq] at H
  obtain ⟨rfl,rfl⟩:=H
  go_enter Tryd.func16,Tryd.ntmps16
  go_wp2
  go_ret2
  exact ⟨by first|rfl|(simp [errW_none,errW_some]<;>rfl)|(simp [*,errW_none,errW_some]<;>rfl),by repeat (first|(with_reducible first|exact HB.out|apply below_alloc|apply pw_below_drewN|apply below_drew1)|exact HB.out)⟩
 ·rw [if_neg c3] at H
  have c3b0:decide (8 < (l0.length:Int))=false:=decide_eq_false c3
  have c3b1:decide (8 < l0.length)=false:=decide_eq_false (by omega)
  clear c3
  have H':=Aside0.mk H
  clear H
  go_enter Tryd.func16,Tryd.ntmps16
  go_wp2
  go_loopg [6,7,15] k (fun kq v6 v7 v15 w'=>∃ (x6_1:Int) (x7_1:Int) (x15_1:Int),v6=.int .i64 x6_1∧v7=.int .i64 x7_1∧v15=.int .i64 x15_1∧Aside0 (bill_Discount.l0 kq a1 x6_1 x7_1 l0 (l0.length:Int) x15_1=some (r1,r2))∧Aside0 (kq≤k)∧Aside0 (Below w.heap.size w w'))
  case atStart=>exact ⟨((-1)),(0),(0),(by first|rfl|(simp;done)|(simp [*];done)),(by first|rfl|(simp;done)|(simp [*];done)),(by first|rfl|(simp;done)|(simp [*];done)),H',⟨Nat.le_refl _⟩,⟨by repeat (first|(with_reducible first|exact HB.out|apply below_alloc|apply pw_below_drewN|apply below_drew1)|exact HB.out)⟩⟩
  case round =>
   clear H'
   try clear c1
   try clear p2
   try clear c3
   try clear c3b0
   try clear c3b1
   obtain ⟨x6_1,x7_1,x15_1,rfl,rfl,rfl,HA,HK1,HB⟩:=hrel
   cases gk with
   | zero=>exact absurd HA.out (by simp [bill_Discount.l0])
   | succ k1 =>
    have H:=HA.out
    clear HA
    simp only [bill_Discount.l0] at H
    by_cases c4:x15_1 < (l0.length:Int)
    ·rw [if_pos c4] at H
     have c4b0:decide (x15_1 < (l0.length:Int))=true:=decide_eq_true c4
     clear c4
     by_cases c5:0≤x15_1
     ·rw [if_pos c5] at H
      have c5b0:decide (0≤x15_1)=true:=decide_eq_true c5
      clear c5
      by_cases c6:x15_1 < (l0.length:Int)
      ·rw [if_pos c6] at H
       have c6b0:decide (x15_1 < (l0.length:Int))=true:=decide_eq_true c6
       clear c6
       by_cases c7:((rd_T56 l0 x15_1).f0)≤x6_1
       ·rw [if_pos c7] at H
        have c7b0:decide (((rd_T56 l0 x15_1).f0)≤x6_1)=true:=decide_eq_true c7
        clear c7
        simp only [Option.some.injEq,Prod.mk.injEq] at H
        obtain ⟨rfl,rfl⟩:=H
        have p101:0≤(x15_1:Int):=of_decide_eq_true (by first|(with_reducible assumption)|assumption)
        have q101:x15_1 < (l0.length:Int):=of_decide_eq_true (by first|(with_reducible assumption)|assumption)
        obtain ⟨ad101,e101,hx101_0,hx101_1⟩:=at_T56 HR0.out x15_1 p101 q101
        cases e101
        replace hx101_0:=(HB.out.cell (World.block_lt_of_cell? w _ hx101_0)).trans hx101_0
        replace hx101_1:=(HB.out.cell (World.block_lt_of_cell? w _ hx101_1)).trans hx101_1
        replace p101:=eq_true p101
        replace q101:=eq_true q101
        go_wp2_with (first|((with_reducible refine gate_dst (N:=9) rfl ?_);refine box_event ?hg (N:=9) ?hd (cs:=#[.int .i64 0,.int .i64 0]) (t:=56) ?hr ?_;(case hd=>rfl);(case hg=>rfl);(case hr=>first|(go_simp;done)|(go_simp;rfl));intro gb102 hg w8 hbox hb;have n0_:=Aside0.mk (below_step (by repeat (first|(with_reducible first|exact HB.out|apply below_alloc|apply pw_below_drewN|apply below_drew1)|exact HB.out)) hb);have n1_:=Aside0.mk (hbox);have n2_:=Aside0.mk ((by rw [hg];exact (below_size (by repeat (first|(with_reducible first|exact HB.out|apply below_alloc|apply pw_below_drewN|apply below_drew1)|exact HB.out))):w.heap.size≤gb102));have n3_:=Aside0.mk ((by rw [hg];exact (below_size (by repeat (first|(with_reducible first|exact HB.out|apply below_alloc|apply pw_below_drewN|apply below_drew1)|exact HB.out))):w.heap.size≤gb102));clear HB;have HB:=n0_;have BK102:=n1_;have GW102:=n2_;have GE102:=n3_;clear n0_ n1_ n2_ n3_;clear hb hbox hg;have hcz9_0:w8.cell? ⟨gb102,0,none⟩=some (.int .i64 0):=(blk_cell BK102.out 0).trans rfl;have hcz9_1:w8.cell? ⟨gb102,1,none⟩=some (.int .i64 0):=(blk_cell BK102.out 1).trans rfl;have hfz9_0:=blk_frozen BK102.out 0;have hfz9_1:=blk_frozen BK102.out 1))
        go_ret2
        exact ⟨by first|rfl|(simp [errW_none,errW_some]<;>rfl)|(simp [*,errW_none,errW_some]<;>rfl),by repeat (first|(with_reducible first|exact HB.out|apply below_alloc|apply pw_below_drewN|apply below_drew1|refine below_set ?_ GE102.out)|exact HB.out)⟩
       ·rw [if_neg c7] at H
        have c7b0:decide (((rd_T56 l0 x15_1).f0)≤x6_1)=false:=decide_eq_false c7
        clear c7
        have HC10:=Aside0.mk H
        clear H
        have p101:0≤(x15_1:Int):=of_decide_eq_true (by first|(with_reducible assumption)|assumption)
        have q101:x15_1 < (l0.length:Int):=of_decide_eq_true (by first|(with_reducible assumption)|assumption)
        obtain ⟨ad101,e101,hx101_0,hx101_1⟩:=at_T56 HR0.out x15_1 p101 q101
        cases e101
        replace hx101_0:=(HB.out.cell (World.block_lt_of_cell? w _ hx101_0)).trans hx101_0
        replace hx101_1:=(HB.out.cell (World.block_lt_of_cell? w _ hx101_1)).trans hx101_1
        replace p101:=eq_true p101
        replace q101:=eq_true q101
        go_upto_region 9 with (first|((with_reducible refine gate_dst (N:=9) rfl ?_);refine box_event ?hg (N:=9) ?hd (cs:=#[.int .i64 0,.int .i64 0]) (t:=56) ?hr ?_;(case hd=>rfl);(case hg=>rfl);(case hr=>first|(go_simp;done)|(go_simp;rfl));intro gb102 hg w11 hbox hb;have n0_:=Aside0.mk (below_step (by repeat (first|(with_reducible first|exact HB.out|apply below_alloc|apply pw_below_drewN|apply below_drew1)|exact HB.out)) hb);have n1_:=Aside0.mk (hbox);have n2_:=Aside0.mk ((by rw [hg];exact (below_size (by repeat (first|(with_reducible first|exact HB.out|apply below_alloc|apply pw_below_drewN|apply below_drew1)|exact HB.out))):w.heap.size≤gb102));have n3_:=Aside0.mk ((by rw [hg];exact (below_size (by repeat (first|(with_reducible first|exact HB.out|apply below_alloc|apply pw_below_drewN|apply below_drew1)|exact HB.out))):w.heap.size≤gb102));clear HB;have HB:=n0_;have BK102:=n1_;have GW102:=n2_;have GE102:=n3_;clear n0_ n1_ n2_ n3_;clear hb hbox hg;have hcz12_0:w11.cell? ⟨gb102,0,none⟩=some (.int .i64 0):=(blk_cell BK102.out 0).trans rfl;have hcz12_1:w11.cell? ⟨gb102,1,none⟩=some (.int .i64 0):=(blk_cell BK102.out 1).trans rfl;have hfz12_0:=blk_frozen BK102.out 0;have hfz12_1:=blk_frozen BK102.out 1))
        (try simp only [Act.put,List.setIfInBounds_toArray,List.set_cons_zero,List.set_cons_succ])
        go_cut [35] (fun v35 wc=>∃ (kq:Nat) (x35_9:Bool),v35=.bool x35_9∧Aside0 (bill_Discount.j1 kq a1 x7_1 l0 (l0.length:Int) x15_1 x35_9 ((rd_T56 l0 x15_1).f0) ((rd_T56 l0 x15_1).f1)=some (r1,r2))∧Aside0 (kq≤k1)∧Aside0 (wc.heap[gb102]?=some (.cells #[.int .i64 ((rd_T56 l0 x15_1).f0),.int .i64 ((rd_T56 l0 x15_1).f1)] 56 (0,0)))∧Aside0 (Below w.heap.size w wc))
        case first =>
         have H:=HC10.out
         clear HC10
         by_cases c13:((rd_T56 l0 x15_1).f0) > 1000000000000000
         ·rw [if_pos c13] at H
          have c13b0:decide (1000000000000000 < ((rd_T56 l0 x15_1).f0))=true:=decide_eq_true c13
          clear c13
          (first|rw [c13b0]|(simp only [i64_w,i32_w];rw [c13b0])|skip)
          have H':=Aside0.mk H
          clear H
          have hcz14_0:w11.cell? ⟨gb102,0,none⟩=some (.int .i64 0):=(blk_cell BK102.out 0).trans rfl
          have hcz14_1:w11.cell? ⟨gb102,1,none⟩=some (.int .i64 0):=(blk_cell BK102.out 1).trans rfl
          have hfz14_0:=blk_frozen BK102.out 0
          have hfz14_1:=blk_frozen BK102.out 1
          go_wp2
          go_meet
          case rel=>exact ⟨_,(true),(by first|rfl|(simp;done)|(simp [*];done)),H',⟨by have:=HK1.out;first|omega|exact Nat.le_refl _⟩,⟨by (with_reducible repeat (first|refine blk_drewN ?_ _|refine blk_drew ?_|refine blk_alloc ?_ _));refine blk_put (cs:=#[.int .i64 ((rd_T56 l0 x15_1).f0),.int .i64 0]) ?_ 1 _ rfl;(with_reducible repeat (first|refine blk_drewN ?_ _|refine blk_drew ?_|refine blk_alloc ?_ _));refine blk_put (cs:=#[.int .i64 0,.int .i64 0]) ?_ 0 _ rfl;(with_reducible repeat (first|refine blk_drewN ?_ _|refine blk_drew ?_|refine blk_alloc ?_ _));exact BK102.out⟩,⟨by repeat (first|(with_reducible first|exact HB.out|apply below_alloc|apply pw_below_drewN|apply below_drew1|refine below_set ?_ GE102.out)|exact HB.out)⟩⟩
         ·rw [if_neg c13] at H
          have c13b0:decide (1000000000000000 < ((rd_T56 l0 x15_1).f0))=false:=decide_eq_false c13
          clear c13
          (first|rw [c13b0]|(simp only [i64_w,i32_w];rw [c13b0])|skip)
          by_cases c15:((rd_T56 l0 x15_1).f1) < 0
          ·rw [if_pos c15] at H
           have c15b0:decide (((rd_T56 l0 x15_1).f1) < 0)=true:=decide_eq_true c15
           clear c15
           have H':=Aside0.mk H
           clear H
           have hcz16_0:w11.cell? ⟨gb102,0,none⟩=some (.int .i64 0):=(blk_cell BK102.out 0).trans rfl
           have hcz16_1:w11.cell? ⟨gb102,1,none⟩=some (.int .i64 0):=(blk_cell BK102.out 1).trans rfl
           have hfz16_0:=blk_frozen BK102.out 0
           have hfz16_1:=blk_frozen BK102.out 1
           go_wp2
           go_meet
           case rel=>exact ⟨_,(true),(by first|rfl|(simp;done)|(simp [*];done)),H',⟨by have:=HK1.out;first|omega|exact Nat.le_refl _⟩,⟨by (with_reducible repeat (first|refine blk_drewN ?_ _|refine blk_drew ?_|refine blk_alloc ?_ _));refine blk_put (cs:=#[.int .i64 ((rd_T56 l0 x15_1).f0),.int .i64 0]) ?_ 1 _ rfl;(with_reducible repeat (first|refine blk_drewN ?_ _|refine blk_drew ?_|refine blk_alloc ?_ _));refine blk_put (cs:=#[.int .i64 0,.int .i64 0]) ?_ 0 _ rfl;(with_reducible repeat (first|refine blk_drewN ?_ _|refine blk_drew ?_|refine blk_alloc ?_ _));exact BK102.out⟩,⟨by repeat (first|(with_reducible first|exact HB.out|apply below_alloc|apply pw_below_drewN|apply below_drew1|refine below_set ?_ GE102.out)|exact HB.out)⟩⟩
          ·rw [if_neg c15] at H
           have c15b0:decide (((rd_T56 l0 x15_1).f1) < 0)=false:=decide_eq_false c15
           clear c15
           have H':=Aside0.mk H
           clear H
           have hcz17_0:w11.cell? ⟨gb102,0,none⟩=some (.int .i64 0):=(blk_cell BK102.out 0).trans rfl
           have hcz17_1:w11.cell? ⟨gb102,1,none⟩=some (.int .i64 0):=(blk_cell BK102.out 1).trans rfl
           have hfz17_0:=blk_frozen BK102.out 0
           have hfz17_1:=blk_frozen BK102.out 1
           go_wp2
           go_meet
           case rel=>exact ⟨_,(decide (((rd_T56 l0 x15_1).f1) > 1000)),(by first|rfl|(simp;done)|(simp [*];done)),H',⟨by have:=HK1.out;first|omega|exact Nat.le_refl _⟩,⟨by (with_reducible repeat (first|refine blk_drewN ?_ _|refine blk_drew ?_|refine blk_alloc ?_ _));refine blk_put (cs:=#[.int .i64 ((rd_T56 l0 x15_1).f0),.int .i64 0]) ?_ 1 _ rfl;(with_reducible repeat (first|refine blk_drewN ?_ _|refine blk_drew ?_|refine blk_alloc ?_ _));refine blk_put (cs:=#[.int .i64 0,.int .i64 0]) ?_ 0 _ rfl;(with_reducible repeat (first|refine blk_drewN ?_ _|refine blk_drew ?_|refine blk_alloc ?_ _));exact BK102.out⟩,⟨by repeat (first|(with_reducible first|exact HB.out|apply below_alloc|apply pw_below_drewN|apply below_drew1|refine below_set ?_ GE102.out)|exact HB.out)⟩⟩
        case rest =>
         clear HC10
         try clear c1
         try clear p1
         try clear q1
         try clear hx1
         try clear p2
         try clear c3
         try clear c3b0
         try clear c3b1
         try clear c4
         try clear c4b0
         try clear c5
         try clear c5b0
         try clear c6
         try clear c6b0
         try clear c7
         try clear c7b0
         try clear p10
         try clear q10
         try clear hx10
         try clear c13
         try clear c13b0
         try clear c15
         try clear c15b0
         try clear c16
         try clear hcz12_0
         try clear hcz12_1
         try clear hcz14_0
         try clear hcz14_1
         try clear hcz16_0
         try clear hcz16_1
         try clear hcz17_0
         try clear hcz17_1
         try clear hcz9_0
         try clear hcz9_1
         try clear hfz12_0
         try clear hfz12_1
         try clear hfz14_0
         try clear hfz14_1
         try clear hfz16_0
         try clear hfz16_1
         try clear hfz17_0
         try clear hfz17_1
         try clear hfz9_0
         try clear hfz9_1
         try clear hx101_0
         try clear hx101_1
         try clear p101
         try clear p2
         try clear q101
         obtain ⟨kq,x35_9,rfl,HA,HJ9,BK102,HB⟩:=hcut
         cases kq with
         | zero=>exact absurd HA.out (by simp [bill_Discount.j1])
         | succ kj9 =>
          have H:=HA.out
          clear HA
          simp only [bill_Discount.j1] at H
          by_cases c18:x35_9=true
          ·subst c18
           have H1:(some (0,9))=some (r1,r2):=by rw [if_pos rfl] at H;exact H
           clear H
           have H:=H1
           clear H1
           simp only [Option.some.injEq,Prod.mk.injEq] at H
           obtain ⟨rfl,rfl⟩:=H
           go_wp2
           go_ret2
           exact ⟨by first|rfl|(simp [errW_none,errW_some]<;>rfl)|(simp [*,errW_none,errW_some]<;>rfl),by repeat (first|(with_reducible first|exact HB.out|apply below_alloc|apply pw_below_drewN|apply below_drew1|refine below_set ?_ GE102.out)|exact HB.out)⟩
          ·replace c18:=Bool.eq_false_iff.mpr c18
           subst c18
           have H1:(if ((rd_T56 l0 x15_1).f0)≤a1 then (bill_Discount.l0 kj9 a1 ((rd_T56 l0 x15_1).f0) ((rd_T56 l0 x15_1).f1) l0 (l0.length:Int) (wrap64 (x15_1+1))) else (bill_Discount.l0 kj9 a1 ((rd_T56 l0 x15_1).f0) x7_1 l0 (l0.length:Int) (wrap64 (x15_1+1))))=some (r1,r2):=by rw [if_neg (show ¬ (false=true) by decide)] at H;exact H
           clear H
           have H:=H1
           clear H1
           by_cases c19:((rd_T56 l0 x15_1).f0)≤a1
           ·rw [if_pos c19] at H
            have c19b0:decide (((rd_T56 l0 x15_1).f0)≤a1)=true:=decide_eq_true c19
            clear c19
            have H':=Aside0.mk H
            clear H
            have hcz20_0:wc.cell? ⟨gb102,0,none⟩=some (.int .i64 ((rd_T56 l0 x15_1).f0)):=(blk_cell BK102.out 0).trans rfl
            have hcz20_1:wc.cell? ⟨gb102,1,none⟩=some (.int .i64 ((rd_T56 l0 x15_1).f1)):=(blk_cell BK102.out 1).trans rfl
            have hfz20_0:=blk_frozen BK102.out 0
            have hfz20_1:=blk_frozen BK102.out 1
            go_wp2
            go_roundg kj9
            case measure=>have:=HK1.out;have:=HJ9.out;omega
            case rel=>exact ⟨(((rd_T56 l0 x15_1).f0)),(((rd_T56 l0 x15_1).f1)),(wrap64 (x15_1+1)),(by first|rfl|(simp;done)|(simp [*];done)),(by first|rfl|(simp;done)|(simp [*];done)),(by first|rfl|(simp;done)|(simp [*];done)),H',⟨by have:=HK1.out;have:=HJ9.out;omega⟩,⟨by repeat (first|(with_reducible first|exact HB.out|apply below_alloc|apply pw_below_drewN|apply below_drew1|refine below_set ?_ GE102.out)|exact HB.out)⟩⟩
           ·rw [if_neg c19] at H
            have c19b0:decide (((rd_T56 l0 x15_1).f0)≤a1)=false:=decide_eq_false c19
            clear c19
            have H':=Aside0.mk H
            clear H
            have hcz21_0:wc.cell? ⟨gb102,0,none⟩=some (.int .i64 ((rd_T56 l0 x15_1).f0)):=(blk_cell BK102.out 0).trans rfl
            have hcz21_1:wc.cell? ⟨gb102,1,none⟩=some (.int .i64 ((rd_T56 l0 x15_1).f1)):=(blk_cell BK102.out 1).trans rfl
            have hfz21_0:=blk_frozen BK102.out 0
            have hfz21_1:=blk_frozen BK102.out 1
            go_wp2
            go_roundg kj9
            case measure=>have:=HK1.out;have:=HJ9.out;omega
            case rel=>exact ⟨(((rd_T56 l0 x15_1).f0)),(x7_1),(wrap64 (x15_1+1)),(by first|rfl|(simp;done)|(simp [*];done)),(by first|rfl|(simp;done)|(simp [*];done)),(by first|rfl|(simp;done)|(simp [*];done)),H',⟨by have:=HK1.out;have:=HJ9.out;omega⟩,⟨by repeat (first|(with_reducible first|exact HB.out|apply below_alloc|apply pw_below_drewN|apply below_drew1|refine below_set ?_ GE102.out)|exact HB.out)⟩⟩
      ·rw [if_neg c6] at H
       exact absurd H (by simp)
     ·rw [if_neg c5] at H
      exact absurd H (by simp)
    ·rw [if_neg c4] at H
     have c4b0:decide (x15_1 < (l0.length:Int))=false:=decide_eq_false c4
     clear c4
     by_cases c22:a1 < 0
     ·rw [if_pos c22] at H
      have c22b0:decide (a1 < 0)=true:=decide_eq_true c22
      clear c22
      simp only [Option.some.injEq,Prod.mk.injEq] at H
      obtain ⟨rfl,rfl⟩:=H
      go_wp2
      go_ret2
      exact ⟨by first|rfl|(simp [errW_none,errW_some]<;>rfl)|(simp [*,errW_none,errW_some]<;>rfl),by repeat (first|(with_reducible first|exact HB.out|apply below_alloc|apply pw_below_drewN|apply below_drew1)|exact HB.out)⟩
     ·rw [if_neg c22] at H
      have c22b0:decide (a1 < 0)=false:=decide_eq_false c22
      clear c22
      by_cases c23:a1 > 1000000000000000
      ·rw [if_pos c23] at H
       have c23b0:decide (1000000000000000 < a1)=true:=decide_eq_true c23
       clear c23
       simp only [Option.some.injEq,Prod.mk.injEq] at H
       obtain ⟨rfl,rfl⟩:=H
       go_wp2
       go_ret2
       exact ⟨by first|rfl|(simp [errW_none,errW_some]<;>rfl)|(simp [*,errW_none,errW_some]<;>rfl),by repeat (first|(with_reducible first|exact HB.out|apply below_alloc|apply pw_below_drewN|apply below_drew1)|exact HB.out)⟩
      ·rw [if_neg c23] at H
       have c23b0:decide (1000000000000000 < a1)=false:=decide_eq_false c23
       clear c23
       simp only [Option.some.injEq,Prod.mk.injEq] at H
       obtain ⟨rfl,rfl⟩:=H
       go_wp2
       go_ret2
       exact ⟨by first|rfl|(simp [errW_none,errW_some]<;>rfl)|(simp [*,errW_none,errW_some]<;>rfl),by repeat (first|(with_reducible first|exact HB.out|apply below_alloc|apply pw_below_drewN|apply below_drew1)|exact HB.out)⟩
end Go.Proofs.YtojkjhaobjidlaaDoor.P
namespace Go.Proofs.YtojkjhaobjidlaaDoor.P
open Go.RowKit Go.Proofs.YtojkjhaobjidlaaDoorW.PrintWords Go.Proofs.YtojkjhaobjidlaaDoorW.PrintLast Go.Proofs.YtojkjhaobjidlaaDoorW.PrintMore
attribute [local go_sem] max2_int min2_int max_two min_two max_three min_three max_four min_four
attribute [local go_sem] cell_twice
set_option linter.unusedVariables false
set_option linter.unusedSimpArgs false
def bill_invoice.l0:Nat→List (S53)→List (S56)→List Int→Int→List (S35)→Int→Int→Option (List Int × Int × Int × Int)
 | 0,_,_,_,_,_,_,_=>none
 | k+1,x0,x2,x6,x8,x17,x18,x19=>if x19 < x18 then (if 0≤x19 then (if x19 < (x17.length:Int) then ((bill_Amount.f k x0 ((rd_T35 x17 x19).f0) ((rd_T35 x17 x19).f1) ((rd_T35 x17 x19).f2) ((rd_T35 x17 x19).f3)).bind fun bt103=>(if bt103.2=0 then (if x6.length < 17592186044416 then (bill_invoice.l0 k x0 x2 (x6++[bt103.1]) (wrap64 (x8+bt103.1)) x17 x18 (wrap64 (x19+1))) else (none)) else (some (([]:List Int),0,0,bt103.2)))) else (none)) else (none)) else ((bill_Discount.f k x2 x8).bind fun bt108=>(if bt108.2=0 then (some (x6,bt108.1,wrap64 (x8 - bt108.1),0)) else (some (([]:List Int),0,0,bt108.2))))
def bill_invoice.f (k:Nat) (l0:List (S53)) (l1:List (S35)) (l2:List (S56)):Option (List Int × Int × Int × Int):=if (l1.length:Int) > 32 then (some (([]:List Int),0,0,4)) else (bill_invoice.l0 k l0 l2 ([]:List Int) 0 l1 (l1.length:Int) 0)
theorem bill_invoice.mono_l:∀ k,(∀ y0 y1 y2 y3 y4 y5 y6,LeO (bill_invoice.l0 k y0 y1 y2 y3 y4 y5 y6) (bill_invoice.l0 (k+1) y0 y1 y2 y3 y4 y5 y6))
 | 0=>fun _ _ _ _ _ _ _ r h=>by simp [bill_invoice.l0] at h
 | k+1=>by
  have ih0:=bill_invoice.mono_l k
  ·intro y0 y1 y2 y3 y4 y5 y6
   unfold bill_invoice.l0
   repeat' first
   | (with_reducible exact ih0 _ _ _ _ _ _ _)
   | (with_reducible exact bill_Amount.mono _ _ _ _ _ _)
   | (with_reducible exact bill_Discount.mono _ _ _)
   | (with_reducible exact LeO.refl _)
   | (with_reducible exact LeO.none _)
   | (with_reducible refine LeO.ite ?_ ?_)
   | (with_reducible refine LeO.bind ?_ (fun _=>?_))
   | exact ih0 _ _ _ _ _ _ _
   | exact bill_Amount.mono _ _ _ _ _ _
   | exact bill_Discount.mono _ _ _
   | exact LeO.none _
   | refine LeO.ite ?_ ?_
   | refine LeO.bind ?_ (fun _=>?_)
theorem bill_invoice.mono:∀ a0 a1 a2 k,LeO (bill_invoice.f k a0 a1 a2) (bill_invoice.f (k+1) a0 a1 a2):=by
 intro a0 a1 a2 k
 have ih0:=bill_invoice.mono_l k
 unfold bill_invoice.f
 repeat' first
   | (with_reducible exact ih0 _ _ _ _ _ _ _)
   | (with_reducible exact bill_Amount.mono _ _ _ _ _ _)
   | (with_reducible exact bill_Discount.mono _ _ _)
   | (with_reducible exact LeO.refl _)
   | (with_reducible exact LeO.none _)
   | (with_reducible refine LeO.ite ?_ ?_)
   | (with_reducible refine LeO.bind ?_ (fun _=>?_))
   | exact ih0 _ _ _ _ _ _ _
   | exact bill_Amount.mono _ _ _ _ _ _
   | exact bill_Discount.mono _ _ _
   | exact LeO.none _
   | refine LeO.ite ?_ ?_
   | refine LeO.bind ?_ (fun _=>?_)
set_option maxHeartbeats 8000000 in
set_option maxRecDepth 100000 in
theorem bill_invoice.calls (k:Nat) (A0:Option Addr) (c0:Nat) (l0:List (S53)) (A1:Option Addr) (c1:Nat) (l1:List (S35)) (A2:Option Addr) (c2:Nat) (l2:List (S56)) (r1:List Int) (r2:Int) (r3:Int) (r4:Int) (w:World) (hr0:Kd.C k53 w A0 l0.length l0) (hc0:l0.length≤c0) (hr1:Kd.C k35 w A1 l1.length l1) (hc1:l1.length≤c1) (hr2:Kd.C k56 w A2 l2.length l2) (hc2:l2.length≤c2) (h:bill_invoice.f k l0 l1 l2=some (r1,r2,r3,r4)) :
  Calls Tryd.prog 24 #[.slice A0 l0.length c0,.slice A1 l1.length c1,.slice A2 l2.length c2] w fun e w'=>∃ v0_:Value,e=.returned (.tuple #[v0_,.int .i64 r2,.int .i64 r3,.int .i64 r4])∧Kd.R (Kd.int .i64) 3 w' w.heap.size (fun _=>True) v0_ r1∧Below w.heap.size w w':=by
 have hu35:=Tryd.underlying35
 have HR0:=Aside0.mk hr0
 have HC0:=Aside0.mk hc0
 clear hr0 hc0
 have HR1:=Aside0.mk hr1
 have HC1:=Aside0.mk hc1
 clear hr1 hc1
 have HR2:=Aside0.mk hr2
 have HC2:=Aside0.mk hc2
 clear hr2 hc2
 have HB:=Aside0.mk (Below.refl w.heap.size w)
 have H:(if (l1.length:Int) > 32 then (some (([]:List Int),0,0,4)) else (bill_invoice.l0 k l0 l2 ([]:List Int) 0 l1 (l1.length:Int) 0))=some (r1,r2,r3,r4):=h
 clear h
 by_cases c4:(l1.length:Int) > 32
 ·rw [if_pos c4] at H
  have c4b0:decide (32 < (l1.length:Int))=true:=decide_eq_true c4
  have c4b1:decide (32 < l1.length)=true:=decide_eq_true (by omega)
  clear c4
  simp only [Option.some.injEq,Prod.mk.injEq] at H
  obtain ⟨rfl,rfl,rfl,rfl⟩:=H
  go_enter Tryd.func24,Tryd.ntmps24
  go_wp2
  refine bodyPost_ret (results_list (rs:=[.tmp 6,.tmp 7,.tmp 8,.tmp 9]) rfl (by simp) (.tmp (.tmp (.tmp (.tmp .nil))))) rfl ?_
  exact ⟨_,by first|rfl|(simp [errW_none,errW_some]<;>rfl)|(simp [*,errW_none,errW_some]<;>rfl),by first|exact Kd.R_nil _ _ _ _ _|exact Kd.N_nil _ _ _ _ _|exact Kd.V_nil _ _ _ _ _|exact Kd.Q_nil _ _ _ _ _|exact Kd.S_nil _ _ _ _ _,by repeat (first|(with_reducible first|exact HB.out|apply below_alloc|apply pw_below_drewN|apply below_drew1)|exact HB.out)⟩
 ·rw [if_neg c4] at H
  have c4b0:decide (32 < (l1.length:Int))=false:=decide_eq_false c4
  have c4b1:decide (32 < l1.length)=false:=decide_eq_false (by omega)
  clear c4
  have H':=Aside0.mk H
  clear H
  go_enter Tryd.func24,Tryd.ntmps24
  go_wp2
  go_loopg [6,8,19] k (fun kq v6 v8 v19 w'=>∃ (x6_1:List Int) (x8_1:Int) (x19_1:Int),v8=.int .i64 x8_1∧v19=.int .i64 x19_1∧Aside0 (bill_invoice.l0 kq l0 l2 x6_1 x8_1 l1 (l1.length:Int) x19_1=some (r1,r2,r3,r4))∧Aside0 (kq≤k)∧Aside0 (Kd.R (Kd.int .i64) 3 w' w.heap.size (fun _=>True) v6 x6_1)∧Aside0 (Below w.heap.size w w'))
  case atStart=>exact ⟨(([]:List Int)),(0),(0),(by first|rfl|(simp;done)|(simp [*];done)),(by first|rfl|(simp;done)|(simp [*];done)),H',⟨Nat.le_refl _⟩,⟨by first|exact Kd.R_nil _ _ _ _ _|exact Kd.N_nil _ _ _ _ _|exact Kd.V_nil _ _ _ _ _|exact Kd.Q_nil _ _ _ _ _|exact Kd.S_nil _ _ _ _ _⟩,⟨by repeat (first|(with_reducible first|exact HB.out|apply below_alloc|apply pw_below_drewN|apply below_drew1)|exact HB.out)⟩⟩
  case round =>
   clear H'
   try clear c1
   try clear c2
   try clear p2
   try clear c4
   try clear c4b0
   try clear c4b1
   obtain ⟨x6_1,x8_1,x19_1,rfl,rfl,HA,HK1,HO_6,HB⟩:=hrel
   cases gk with
   | zero=>exact absurd HA.out (by simp [bill_invoice.l0])
   | succ k1 =>
    have H:=HA.out
    clear HA
    simp only [bill_invoice.l0] at H
    by_cases c5:x19_1 < (l1.length:Int)
    ·rw [if_pos c5] at H
     have c5b0:decide (x19_1 < (l1.length:Int))=true:=decide_eq_true c5
     clear c5
     by_cases c6:0≤x19_1
     ·rw [if_pos c6] at H
      have c6b0:decide (0≤x19_1)=true:=decide_eq_true c6
      clear c6
      by_cases c7:x19_1 < (l1.length:Int)
      ·rw [if_pos c7] at H
       have c7b0:decide (x19_1 < (l1.length:Int))=true:=decide_eq_true c7
       clear c7
       replace H:=Option.bind_eq_some_iff.mp H
       obtain ⟨⟨t103,t104⟩,A80,H⟩:=H
       replace H:(if t104=0 then (if x6_1.length < 17592186044416 then (bill_invoice.l0 k1 l0 l2 (x6_1++[t103]) (wrap64 (x8_1+t103)) l1 (l1.length:Int) (wrap64 (x19_1+1))) else (none)) else (some (([]:List Int),0,0,t104)))=some (r1,r2,r3,r4):=H
       have A8:=Aside0.mk A80
       clear A80
       by_cases c9:t104=0
       ·rw [if_pos c9] at H
        have c9b0:(t104 == 0)=true:=beq_iff_eq.mpr c9
        have c9b1:(t104 != 0)=false:=bne_eq_false_iff_eq.mpr c9
        clear c9
        by_cases c10:x6_1.length < 17592186044416
        ·rw [if_pos c10] at H
         have LMc10:=Aside0.mk c10
         clear c10
         obtain ⟨y105,hy105⟩:∃ y_:List Int,y_=(x6_1++[t103]):=⟨_,rfl⟩
         replace H:(bill_invoice.l0 k1 l0 l2 y105 (wrap64 (x8_1+t103)) l1 (l1.length:Int) (wrap64 (x19_1+1)))=some (r1,r2,r3,r4):=by first|(rw [hy105];with_reducible exact H)|(have H2_:=(Option.bind_some _ _).symm.trans H;rw [hy105];with_reducible exact H2_)|(have H2_:=(Option.bind_some _ _).symm.trans H;with_reducible exact H2_)|with_reducible exact H|(rw [hy105];exact H)|exact H
         have Ny105:=Aside0.mk hy105
         clear hy105
         have H':=Aside0.mk H
         clear H
         have p101:0≤(x19_1:Int):=of_decide_eq_true (by first|(with_reducible assumption)|assumption)
         have q101:x19_1 < (l1.length:Int):=of_decide_eq_true (by first|(with_reducible assumption)|assumption)
         obtain ⟨ad101,e101,hx101_0,hx101_1,hx101_2,hx101_3⟩:=at_T35 HR1.out x19_1 p101 q101
         cases e101
         replace hx101_0:=(HB.out.cell (World.block_lt_of_cell? w _ hx101_0)).trans hx101_0
         replace hx101_1:=(HB.out.cell (World.block_lt_of_cell? w _ hx101_1)).trans hx101_1
         replace hx101_2:=(HB.out.cell (World.block_lt_of_cell? w _ hx101_2)).trans hx101_2
         replace hx101_3:=(HB.out.cell (World.block_lt_of_cell? w _ hx101_3)).trans hx101_3
         replace p101:=eq_true p101
         replace q101:=eq_true q101
         go_wp2_with (first|((with_reducible refine gate_dst (N:=11) rfl ?_);refine box_event ?hg (N:=11) ?hd (cs:=#[.int .i64 0,.int .i64 0,.int .i64 0,.int .i64 0]) (t:=35) ?hr ?_;(case hd=>rfl);(case hg=>rfl);(case hr=>first|(go_simp;done)|(go_simp;rfl));intro gb102 hg w11 hbox hb;have n0_:=Aside0.mk (Kd.R_below (by (with_reducible repeat (first|apply Kd.R_alloc|apply Kd.R_drewN|apply Kd.R_drew));exact HO_6.out) hb);have n1_:=Aside0.mk (below_step (by repeat (first|(with_reducible first|exact HB.out|apply below_alloc|apply pw_below_drewN|apply below_drew1)|exact HB.out)) hb);have n2_:=Aside0.mk (hbox);have n3_:=Aside0.mk ((by rw [hg];exact (below_size (by repeat (first|(with_reducible first|exact HB.out|apply below_alloc|apply pw_below_drewN|apply below_drew1)|exact HB.out))):w.heap.size≤gb102));have n4_:=Aside0.mk ((by rw [hg];exact (below_size (by repeat (first|(with_reducible first|exact HB.out|apply below_alloc|apply pw_below_drewN|apply below_drew1)|exact HB.out))):w.heap.size≤gb102));clear HO_6;clear HB;have HO_6:=n0_;have HB:=n1_;have BK102:=n2_;have GW102:=n3_;have GE102:=n4_;clear n0_ n1_ n2_ n3_ n4_;clear hb hbox hg;have hcz12_0:w11.cell? ⟨gb102,0,none⟩=some (.int .i64 0):=(blk_cell BK102.out 0).trans rfl;have hcz12_1:w11.cell? ⟨gb102,1,none⟩=some (.int .i64 0):=(blk_cell BK102.out 1).trans rfl;have hcz12_2:w11.cell? ⟨gb102,2,none⟩=some (.int .i64 0):=(blk_cell BK102.out 2).trans rfl;have hcz12_3:w11.cell? ⟨gb102,3,none⟩=some (.int .i64 0):=(blk_cell BK102.out 3).trans rfl;have hfz12_0:=blk_frozen BK102.out 0;have hfz12_1:=blk_frozen BK102.out 1;have hfz12_2:=blk_frozen BK102.out 2;have hfz12_3:=blk_frozen BK102.out 3)|((with_reducible refine gate_callee (f:=14) rfl ?_);refine goesL_ (some 26) rfl rfl Tryd.func14 (by kernel_rfl) rfl #[.slice A0 l0.length c0,.agg #[.int .i64 ((rd_T35 l1 x19_1).f0),.int .i64 ((rd_T35 l1 x19_1).f1),.int .i64 ((rd_T35 l1 x19_1).f2),.int .i64 ((rd_T35 l1 x19_1).f3)]] rfl (by (try simp only [List.map_toArray,List.map_cons,List.map_nil]);first|done|rfl|(simp only [List.length_drop,List.length_take];rfl)) ?_;(with_reducible refine (bill_Amount.calls k1 _ _ l0 ((rd_T35 l1 x19_1).f0) ((rd_T35 l1 x19_1).f1) ((rd_T35 l1 x19_1).f2) ((rd_T35 l1 x19_1).f3) t103 t104 _ ?side1 ?side2 A8.out).mono ?_);(case side1=>exact Kd.C_below HR0.out (by repeat (first|(with_reducible first|exact HB.out|apply below_alloc|apply pw_below_drewN|apply below_drew1|refine below_set ?_ GE102.out)|exact HB.out)));(case side2=>exact HC0.out);rintro e w13 ⟨rfl,hb⟩;refine ⟨_,rfl,?_⟩;have n0_:=Aside0.mk (Kd.R_below (by (with_reducible repeat (first|apply Kd.R_alloc|apply Kd.R_drewN|apply Kd.R_drew));exact (Kd.R_mono (Kd.R_far (p:=⟨gb102,3,none⟩) (Kd.R_far (p:=⟨gb102,2,none⟩) (Kd.R_far (p:=⟨gb102,1,none⟩) (Kd.R_far (p:=⟨gb102,0,none⟩) (Kd.R_types HO_6.out BK102.out (by decide)) (fun _ hk=>hk.2) (.int .i64 ((rd_T35 l1 x19_1).f0))) (fun _ hk=>hk.2) (.int .i64 ((rd_T35 l1 x19_1).f1))) (fun _ hk=>hk.2) (.int .i64 ((rd_T35 l1 x19_1).f2))) (fun _ hk=>hk.2) (.int .i64 ((rd_T35 l1 x19_1).f3))) (fun _ h_=>h_.1))) hb);have n1_:=Aside0.mk (blk_below (g:=gb102) (o:=.cells #[.int .i64 ((rd_T35 l1 x19_1).f0),.int .i64 ((rd_T35 l1 x19_1).f1),.int .i64 ((rd_T35 l1 x19_1).f2),.int .i64 ((rd_T35 l1 x19_1).f3)] 35 (0,0)) (by (with_reducible repeat (first|refine blk_drewN ?_ _|refine blk_drew ?_|refine blk_alloc ?_ _));refine blk_put (cs:=#[.int .i64 ((rd_T35 l1 x19_1).f0),.int .i64 ((rd_T35 l1 x19_1).f1),.int .i64 ((rd_T35 l1 x19_1).f2),.int .i64 0]) ?_ 3 _ rfl;(with_reducible repeat (first|refine blk_drewN ?_ _|refine blk_drew ?_|refine blk_alloc ?_ _));refine blk_put (cs:=#[.int .i64 ((rd_T35 l1 x19_1).f0),.int .i64 ((rd_T35 l1 x19_1).f1),.int .i64 0,.int .i64 0]) ?_ 2 _ rfl;(with_reducible repeat (first|refine blk_drewN ?_ _|refine blk_drew ?_|refine blk_alloc ?_ _));refine blk_put (cs:=#[.int .i64 ((rd_T35 l1 x19_1).f0),.int .i64 0,.int .i64 0,.int .i64 0]) ?_ 1 _ rfl;(with_reducible repeat (first|refine blk_drewN ?_ _|refine blk_drew ?_|refine blk_alloc ?_ _));refine blk_put (cs:=#[.int .i64 0,.int .i64 0,.int .i64 0,.int .i64 0]) ?_ 0 _ rfl;(with_reducible repeat (first|refine blk_drewN ?_ _|refine blk_drew ?_|refine blk_alloc ?_ _));exact BK102.out) hb);have n2_:=Aside0.mk (below_step (by repeat (first|(with_reducible first|exact HB.out|apply below_alloc|apply pw_below_drewN|apply below_drew1|refine below_set ?_ GE102.out)|exact HB.out)) hb);clear HO_6;clear BK102;clear HB;have HO_6:=n0_;have BK102:=n1_;have HB:=n2_;clear n0_ n1_ n2_;(try clear hb);(try clear hb2);(try clear hk);(try clear hi))|((with_reducible refine gate_builtin (b:=.append) (xs:=#[.tmp 32,.tmp 34]) rfl ?_);at_builtin;refine Kd.R_append (Kd.int .i64) (w0:=w) w.heap.size rfl (.tmp 32) (.tmp 34) 51 3 (.int .i64 0) 8 rfl Tryd.underlying51 info3 rfl (by decide) (by omega) u6 x6_1 t103 [.int .i64 t103] (fun _=>True) (fun _=>False) rfl rfl ?aP (fun _ hk=>hk.elim) ?aF ?aO ?aB ?aS ?aL ?_;(case aP=>exact rfl);(case aB=>exact (by repeat (first|(with_reducible first|exact HB.out|apply below_alloc|apply pw_below_drewN|apply below_drew1|refine below_set ?_ GE102.out)|exact HB.out)));(case aF=>exact (fun _ _=>trivial));(case aO=>exact (by (with_reducible repeat (first|apply Kd.R_alloc|apply Kd.R_drewN|apply Kd.R_drew));exact HO_6.out));(case aS=>exact (below_size (by repeat (first|(with_reducible first|exact HB.out|apply below_alloc|apply pw_below_drewN|apply below_drew1|refine below_set ?_ GE102.out)|exact HB.out))));(case aL=>have:=LMc10.out;omega);intro v106 w14 ho hb hg hat;rw [← Ny105.out] at ho;have n0_:=Aside0.mk (blk_grown (g:=gb102) (o:=.cells #[.int .i64 ((rd_T35 l1 x19_1).f0),.int .i64 ((rd_T35 l1 x19_1).f1),.int .i64 ((rd_T35 l1 x19_1).f2),.int .i64 ((rd_T35 l1 x19_1).f3)] 35 (0,0)) (by (with_reducible repeat (first|refine blk_drewN ?_ _|refine blk_drew ?_|refine blk_alloc ?_ _));exact BK102.out) hg (Kd.R_ne HO_6.out BK102.out (by decide)));have n1_:=Aside0.mk (hb);have n2_:=Aside0.mk (ho);clear BK102;clear HB;clear HO_6;have BK102:=n0_;have HB:=n1_;have HO107:=n2_;clear n0_ n1_ n2_;clear ho hb hg hat))
         go_roundg k1
         case measure=>have:=HK1.out;omega
         case rel=>exact ⟨(y105),(wrap64 (x8_1+t103)),(wrap64 (x19_1+1)),(by first|rfl|(simp;done)|(simp [*];done)),(by first|rfl|(simp;done)|(simp [*];done)),H',⟨by have:=HK1.out;omega⟩,⟨by (with_reducible repeat (first|apply Kd.R_alloc|apply Kd.R_drewN|apply Kd.R_drew));exact HO107.out⟩,⟨by repeat (first|(with_reducible first|exact HB.out|apply below_alloc|apply pw_below_drewN|apply below_drew1|refine below_set ?_ GE102.out)|exact HB.out)⟩⟩
        ·rw [if_neg c10] at H
         exact absurd H (by simp)
       ·rw [if_neg c9] at H
        have c9b0:(t104 == 0)=false:=beq_eq_false_iff_ne.mpr c9
        have c9b1:(t104 != 0)=true:=bne_iff_ne.mpr c9
        simp only [Option.some.injEq,Prod.mk.injEq] at H
        obtain ⟨rfl,rfl,rfl,rfl⟩:=H
        have p101:0≤(x19_1:Int):=of_decide_eq_true (by first|(with_reducible assumption)|assumption)
        have q101:x19_1 < (l1.length:Int):=of_decide_eq_true (by first|(with_reducible assumption)|assumption)
        obtain ⟨ad101,e101,hx101_0,hx101_1,hx101_2,hx101_3⟩:=at_T35 HR1.out x19_1 p101 q101
        cases e101
        replace hx101_0:=(HB.out.cell (World.block_lt_of_cell? w _ hx101_0)).trans hx101_0
        replace hx101_1:=(HB.out.cell (World.block_lt_of_cell? w _ hx101_1)).trans hx101_1
        replace hx101_2:=(HB.out.cell (World.block_lt_of_cell? w _ hx101_2)).trans hx101_2
        replace hx101_3:=(HB.out.cell (World.block_lt_of_cell? w _ hx101_3)).trans hx101_3
        replace p101:=eq_true p101
        replace q101:=eq_true q101
        go_wp2_with (first|((with_reducible refine gate_dst (N:=11) rfl ?_);refine box_event ?hg (N:=11) ?hd (cs:=#[.int .i64 0,.int .i64 0,.int .i64 0,.int .i64 0]) (t:=35) ?hr ?_;(case hd=>rfl);(case hg=>rfl);(case hr=>first|(go_simp;done)|(go_simp;rfl));intro gb102 hg w15 hbox hb;have n0_:=Aside0.mk (Kd.R_below (by (with_reducible repeat (first|apply Kd.R_alloc|apply Kd.R_drewN|apply Kd.R_drew));exact HO_6.out) hb);have n1_:=Aside0.mk (below_step (by repeat (first|(with_reducible first|exact HB.out|apply below_alloc|apply pw_below_drewN|apply below_drew1)|exact HB.out)) hb);have n2_:=Aside0.mk (hbox);have n3_:=Aside0.mk ((by rw [hg];exact (below_size (by repeat (first|(with_reducible first|exact HB.out|apply below_alloc|apply pw_below_drewN|apply below_drew1)|exact HB.out))):w.heap.size≤gb102));have n4_:=Aside0.mk ((by rw [hg];exact (below_size (by repeat (first|(with_reducible first|exact HB.out|apply below_alloc|apply pw_below_drewN|apply below_drew1)|exact HB.out))):w.heap.size≤gb102));clear HO_6;clear HB;have HO_6:=n0_;have HB:=n1_;have BK102:=n2_;have GW102:=n3_;have GE102:=n4_;clear n0_ n1_ n2_ n3_ n4_;clear hb hbox hg;have hcz16_0:w15.cell? ⟨gb102,0,none⟩=some (.int .i64 0):=(blk_cell BK102.out 0).trans rfl;have hcz16_1:w15.cell? ⟨gb102,1,none⟩=some (.int .i64 0):=(blk_cell BK102.out 1).trans rfl;have hcz16_2:w15.cell? ⟨gb102,2,none⟩=some (.int .i64 0):=(blk_cell BK102.out 2).trans rfl;have hcz16_3:w15.cell? ⟨gb102,3,none⟩=some (.int .i64 0):=(blk_cell BK102.out 3).trans rfl;have hfz16_0:=blk_frozen BK102.out 0;have hfz16_1:=blk_frozen BK102.out 1;have hfz16_2:=blk_frozen BK102.out 2;have hfz16_3:=blk_frozen BK102.out 3)|((with_reducible refine gate_callee (f:=14) rfl ?_);refine goesL_ (some 26) rfl rfl Tryd.func14 (by kernel_rfl) rfl #[.slice A0 l0.length c0,.agg #[.int .i64 ((rd_T35 l1 x19_1).f0),.int .i64 ((rd_T35 l1 x19_1).f1),.int .i64 ((rd_T35 l1 x19_1).f2),.int .i64 ((rd_T35 l1 x19_1).f3)]] rfl (by (try simp only [List.map_toArray,List.map_cons,List.map_nil]);first|done|rfl|(simp only [List.length_drop,List.length_take];rfl)) ?_;(with_reducible refine (bill_Amount.calls k1 _ _ l0 ((rd_T35 l1 x19_1).f0) ((rd_T35 l1 x19_1).f1) ((rd_T35 l1 x19_1).f2) ((rd_T35 l1 x19_1).f3) t103 t104 _ ?side1 ?side2 A8.out).mono ?_);(case side1=>exact Kd.C_below HR0.out (by repeat (first|(with_reducible first|exact HB.out|apply below_alloc|apply pw_below_drewN|apply below_drew1|refine below_set ?_ GE102.out)|exact HB.out)));(case side2=>exact HC0.out);rintro e w17 ⟨rfl,hb⟩;refine ⟨_,rfl,?_⟩;have n0_:=Aside0.mk (Kd.R_below (by (with_reducible repeat (first|apply Kd.R_alloc|apply Kd.R_drewN|apply Kd.R_drew));exact (Kd.R_mono (Kd.R_far (p:=⟨gb102,3,none⟩) (Kd.R_far (p:=⟨gb102,2,none⟩) (Kd.R_far (p:=⟨gb102,1,none⟩) (Kd.R_far (p:=⟨gb102,0,none⟩) (Kd.R_types HO_6.out BK102.out (by decide)) (fun _ hk=>hk.2) (.int .i64 ((rd_T35 l1 x19_1).f0))) (fun _ hk=>hk.2) (.int .i64 ((rd_T35 l1 x19_1).f1))) (fun _ hk=>hk.2) (.int .i64 ((rd_T35 l1 x19_1).f2))) (fun _ hk=>hk.2) (.int .i64 ((rd_T35 l1 x19_1).f3))) (fun _ h_=>h_.1))) hb);have n1_:=Aside0.mk (blk_below (g:=gb102) (o:=.cells #[.int .i64 ((rd_T35 l1 x19_1).f0),.int .i64 ((rd_T35 l1 x19_1).f1),.int .i64 ((rd_T35 l1 x19_1).f2),.int .i64 ((rd_T35 l1 x19_1).f3)] 35 (0,0)) (by (with_reducible repeat (first|refine blk_drewN ?_ _|refine blk_drew ?_|refine blk_alloc ?_ _));refine blk_put (cs:=#[.int .i64 ((rd_T35 l1 x19_1).f0),.int .i64 ((rd_T35 l1 x19_1).f1),.int .i64 ((rd_T35 l1 x19_1).f2),.int .i64 0]) ?_ 3 _ rfl;(with_reducible repeat (first|refine blk_drewN ?_ _|refine blk_drew ?_|refine blk_alloc ?_ _));refine blk_put (cs:=#[.int .i64 ((rd_T35 l1 x19_1).f0),.int .i64 ((rd_T35 l1 x19_1).f1),.int .i64 0,.int .i64 0]) ?_ 2 _ rfl;(with_reducible repeat (first|refine blk_drewN ?_ _|refine blk_drew ?_|refine blk_alloc ?_ _));refine blk_put (cs:=#[.int .i64 ((rd_T35 l1 x19_1).f0),.int .i64 0,.int .i64 0,.int .i64 0]) ?_ 1 _ rfl;(with_reducible repeat (first|refine blk_drewN ?_ _|refine blk_drew ?_|refine blk_alloc ?_ _));refine blk_put (cs:=#[.int .i64 0,.int .i64 0,.int .i64 0,.int .i64 0]) ?_ 0 _ rfl;(with_reducible repeat (first|refine blk_drewN ?_ _|refine blk_drew ?_|refine blk_alloc ?_ _));exact BK102.out) hb);have n2_:=Aside0.mk (below_step (by repeat (first|(with_reducible first|exact HB.out|apply below_alloc|apply pw_below_drewN|apply below_drew1|refine below_set ?_ GE102.out)|exact HB.out)) hb);clear HO_6;clear BK102;clear HB;have HO_6:=n0_;have BK102:=n1_;have HB:=n2_;clear n0_ n1_ n2_;(try clear hb);(try clear hb2);(try clear hk);(try clear hi)))
        refine bodyPost_ret (results_list (rs:=[.tmp 6,.tmp 7,.tmp 8,.tmp 9]) rfl (by simp) (.tmp (.tmp (.tmp (.tmp .nil))))) rfl ?_
        exact ⟨_,by first|rfl|(simp [errW_none,errW_some]<;>rfl)|(simp [*,errW_none,errW_some]<;>rfl),by first|exact Kd.R_nil _ _ _ _ _|exact Kd.N_nil _ _ _ _ _|exact Kd.V_nil _ _ _ _ _|exact Kd.Q_nil _ _ _ _ _|exact Kd.S_nil _ _ _ _ _,by repeat (first|(with_reducible first|exact HB.out|apply below_alloc|apply pw_below_drewN|apply below_drew1|refine below_set ?_ GE102.out)|exact HB.out)⟩
      ·rw [if_neg c7] at H
       exact absurd H (by simp)
     ·rw [if_neg c6] at H
      exact absurd H (by simp)
    ·rw [if_neg c5] at H
     have c5b0:decide (x19_1 < (l1.length:Int))=false:=decide_eq_false c5
     clear c5
     replace H:=Option.bind_eq_some_iff.mp H
     obtain ⟨⟨t108,t109⟩,A180,H⟩:=H
     replace H:(if t109=0 then (some (x6_1,t108,wrap64 (x8_1 - t108),0)) else (some (([]:List Int),0,0,t109)))=some (r1,r2,r3,r4):=H
     have A18:=Aside0.mk A180
     clear A180
     by_cases c19:t109=0
     ·rw [if_pos c19] at H
      have c19b0:(t109 == 0)=true:=beq_iff_eq.mpr c19
      have c19b1:(t109 != 0)=false:=bne_eq_false_iff_eq.mpr c19
      clear c19
      simp only [Option.some.injEq,Prod.mk.injEq] at H
      obtain ⟨rfl,rfl,rfl,rfl⟩:=H
      go_wp2_with (first|((with_reducible refine gate_callee (f:=16) rfl ?_);refine goesL_ (some 43) rfl rfl Tryd.func16 (by kernel_rfl) rfl #[.slice A2 l2.length c2,.int .i64 x8_1] rfl (by (try simp only [List.map_toArray,List.map_cons,List.map_nil]);first|done|rfl|(simp only [List.length_drop,List.length_take];rfl)) ?_;(with_reducible refine (bill_Discount.calls k1 _ _ l2 x8_1 t108 t109 _ ?side1 ?side2 A18.out).mono ?_);(case side1=>repeat (first|exact (Kd.C_below HR2.out HB.out)|(with_reducible refine Kd.C_alloc ?_ _)|(with_reducible refine Kd.C_drewN ?_ _)|(with_reducible refine Kd.C_drew ?_)));(case side2=>exact HC2.out);rintro e w20 ⟨rfl,hb⟩;refine ⟨_,rfl,?_⟩;have n0_:=Aside0.mk (Kd.R_below (by (with_reducible repeat (first|apply Kd.R_alloc|apply Kd.R_drewN|apply Kd.R_drew));exact HO_6.out) hb);have n1_:=Aside0.mk (below_step (by repeat (first|(with_reducible first|exact HB.out|apply below_alloc|apply pw_below_drewN|apply below_drew1)|exact HB.out)) hb);clear HO_6;clear HB;have HO_6:=n0_;have HB:=n1_;clear n0_ n1_;(try clear hb);(try clear hb2);(try clear hk);(try clear hi)))
      refine bodyPost_ret (results_list (rs:=[.tmp 6,.tmp 7,.tmp 8,.tmp 9]) rfl (by simp) (.tmp (.tmp (.tmp (.tmp .nil))))) rfl ?_
      exact ⟨_,by first|rfl|(simp [errW_none,errW_some]<;>rfl)|(simp [*,errW_none,errW_some]<;>rfl),by (with_reducible repeat (first|apply Kd.R_alloc|apply Kd.R_drewN|apply Kd.R_drew));exact HO_6.out,by repeat (first|(with_reducible first|exact HB.out|apply below_alloc|apply pw_below_drewN|apply below_drew1)|exact HB.out)⟩
     ·rw [if_neg c19] at H
      have c19b0:(t109 == 0)=false:=beq_eq_false_iff_ne.mpr c19
      have c19b1:(t109 != 0)=true:=bne_iff_ne.mpr c19
      simp only [Option.some.injEq,Prod.mk.injEq] at H
      obtain ⟨rfl,rfl,rfl,rfl⟩:=H
      go_wp2_with (first|((with_reducible refine gate_callee (f:=16) rfl ?_);refine goesL_ (some 43) rfl rfl Tryd.func16 (by kernel_rfl) rfl #[.slice A2 l2.length c2,.int .i64 x8_1] rfl (by (try simp only [List.map_toArray,List.map_cons,List.map_nil]);first|done|rfl|(simp only [List.length_drop,List.length_take];rfl)) ?_;(with_reducible refine (bill_Discount.calls k1 _ _ l2 x8_1 t108 t109 _ ?side1 ?side2 A18.out).mono ?_);(case side1=>repeat (first|exact (Kd.C_below HR2.out HB.out)|(with_reducible refine Kd.C_alloc ?_ _)|(with_reducible refine Kd.C_drewN ?_ _)|(with_reducible refine Kd.C_drew ?_)));(case side2=>exact HC2.out);rintro e w21 ⟨rfl,hb⟩;refine ⟨_,rfl,?_⟩;have n0_:=Aside0.mk (Kd.R_below (by (with_reducible repeat (first|apply Kd.R_alloc|apply Kd.R_drewN|apply Kd.R_drew));exact HO_6.out) hb);have n1_:=Aside0.mk (below_step (by repeat (first|(with_reducible first|exact HB.out|apply below_alloc|apply pw_below_drewN|apply below_drew1)|exact HB.out)) hb);clear HO_6;clear HB;have HO_6:=n0_;have HB:=n1_;clear n0_ n1_;(try clear hb);(try clear hb2);(try clear hk);(try clear hi)))
      refine bodyPost_ret (results_list (rs:=[.tmp 6,.tmp 7,.tmp 8,.tmp 9]) rfl (by simp) (.tmp (.tmp (.tmp (.tmp .nil))))) rfl ?_
      exact ⟨_,by first|rfl|(simp [errW_none,errW_some]<;>rfl)|(simp [*,errW_none,errW_some]<;>rfl),by first|exact Kd.R_nil _ _ _ _ _|exact Kd.N_nil _ _ _ _ _|exact Kd.V_nil _ _ _ _ _|exact Kd.Q_nil _ _ _ _ _|exact Kd.S_nil _ _ _ _ _,by repeat (first|(with_reducible first|exact HB.out|apply below_alloc|apply pw_below_drewN|apply below_drew1)|exact HB.out)⟩
end Go.Proofs.YtojkjhaobjidlaaDoor.P
namespace Go.Proofs.YtojkjhaobjidlaaDoor.P
open Go.RowKit Go.Proofs.YtojkjhaobjidlaaDoorW.PrintWords Go.Proofs.YtojkjhaobjidlaaDoorW.PrintLast
set_option linter.unusedVariables false
set_option linter.unusedSimpArgs false
def addN (s:ByteArray) (n:Int):ByteArray:=s++((⟨#[32]⟩:ByteArray)++(⟨(Lib.itoa n).toArray⟩:ByteArray))
def lineB (s:ByteArray) (l:List Int):ByteArray:=l.foldl addN s++(⟨#[10]⟩:ByteArray)
def wordB (k:Nat) (nm:ByteArray):ByteArray:=match k with
 | 0=>nm
 | 1=>⟨#[100,105,115,99,111,117,110,116]⟩
 | _=>⟨#[116,111,116,97,108]⟩
def i64ok (n:Int):Bool:=decide (-9223372036854775808≤n) && decide (n≤9223372036854775807)
theorem itoa_ok (n:Int) (h:i64ok n=true):strconv_Itoa.f n=some ⟨(Lib.itoa n).toArray⟩:=by
 unfold i64ok at h
 simp only [Bool.and_eq_true,decide_eq_true_eq] at h
 unfold strconv_Itoa.f
 rw [if_pos h.1,if_pos h.2]
theorem itoa_small (n:Int) (h:i64ok n=true):(Lib.itoa n).length≤21:=by
 unfold i64ok at h
 simp only [Bool.and_eq_true,decide_eq_true_eq] at h
 exact Lib.itoa_length_le n h.1 h.2
theorem addN_size (z:ByteArray) (n:Int):(addN z n).size=z.size+(1+(Lib.itoa n).length):=by
 unfold addN
 rw [ByteArray.size_append,ByteArray.size_append]
 rfl
theorem take_fold {s:ByteArray} {l:List Int} (k:Nat) (h:k < l.length):addN ((l.take k).foldl addN s) l[k]=(l.take (k+1)).foldl addN s:=by
 rw [List.take_add_one,List.getElem?_eq_getElem h,List.foldl_append]
 rfl
theorem cell_below_at {w0 w1:World} (h:Below w0.heap.size w0 w1) {a:Addr} {v:Value} (hc:w0.cell? a=some v):w1.cell? a=some v:=pw_cell_below h hc
theorem row_cell {w:World} {g t:Nat} {l:List Int} (hg:w.heap[g]?=some (.cells (l.map (Value.int .i64)).toArray t (0,0))) (k:Nat) (h:k < l.length):w.cell? ⟨g,k,none⟩=some (.int .i64 l[k]) :=
 (blk_cell hg k).trans (by simp [h])
set_option maxHeartbeats 1000000 in
set_option maxRecDepth 10000 in
theorem bill_line.calls (k:Nat) (hk:k < 3) (nm:ByteArray) (g t c:Nat) (l:List Int) (w:World) (hg:w.heap[g]?=some (.cells (l.map (Value.int .i64)).toArray t (0,0))) (hl:l.length≤3) (hnm:nm.size≤1000000000) (hok:l.all i64ok=true) (HG_:Aside0 (Glob w)) :
  Calls Tryd.prog 26 #[.int .i64 k,.string nm,.slice (some ⟨g,0,none⟩) l.length c] w fun e w'=>e=.returned (.string (lineB (wordB k nm) l))∧Below w.heap.size w w':=by
 have hu:=Tryd.underlying81
 have HC:=Aside0.mk (row_cell hg)
 have HL:=Aside0.mk hl
 have HNM:=Aside0.mk hnm
 have HOK:=Aside0.mk hok
 have hgl:=blk_lt hg
 have HGL:=Aside0.mk hgl
 clear hg hl hok hgl hnm
 obtain rfl|rfl|rfl:k=0 ∨ k=1 ∨ k=2:=by omega
 ·clear hk
  go_enter Tryd.func26,Tryd.ntmps26
  go_wp2_with fail
  have HB0:=Aside0.mk (below_alloc (Below.refl _ w) (.cells #[.string nm,.string ⟨#[100,105,115,99,111,117,110,116]⟩,.string ⟨#[116,111,116,97,108]⟩] 81))
  go_loopg [18,8] l.length (fun kq i s wr=>∃ k:Nat,i=.int .i64 k∧(∃ z,s=.string z∧Aside0 (z=(l.take k).foldl addN (wordB 0 nm))∧Aside0 (z.size≤1000000100+30 * k))∧Aside0 (k+kq=l.length)∧Aside0 (Below w.heap.size w wr))
  case atStart=>exact ⟨0,rfl,⟨_,rfl,⟨rfl⟩,⟨by have:=HNM.out;omega⟩⟩,⟨Nat.zero_add _⟩,HB0⟩
  case round =>
   obtain ⟨k,rfl,⟨z,rfl,HZ,HSZ⟩,HK,HB⟩:=hrel
   clear HB0
   by_cases hk:k < l.length
   ·have c5:decide ((k:Int) < (l.length:Int))=true:=decide_eq_true (by omega)
    have hc:=cell_below_at HB.out (HC.out k hk)
    have HZ2:=Aside0.mk (take_fold (s:=wordB 0 nm) k hk)
    have hx:=List.all_eq_true.mp HOK.out l[k] (List.getElem_mem hk)
    obtain ⟨x,he⟩:∃ x,x=l[k]:=⟨_,rfl⟩
    rw [← he] at hc HZ2 hx
    clear he
    have HX:=Aside0.mk hx
    have hi1:=itoa_small x hx
    have s1:(9223372036854775807 < 1+(Lib.itoa x).length)=False:=eq_false (by omega)
    have s2:(9223372036854775807 < z.size+(1+(Lib.itoa x).length))=False:=eq_false (by have:=HSZ.out;have:=HL.out;omega)
    have HI1:=Aside0.mk hi1
    clear hi1
    have HKL:=Aside0.mk hk
    clear hx
    go_wp2_with fail
    refine (strconv_Itoa.calls x _ _ (itoa_ok x HX.out) (glob_at HG_ HB.out)).mono ?_
    rintro e w1 ⟨rfl,hb⟩
    have HB1:=Aside0.mk (below_step HB.out hb)
    clear hb
    go_wp2_with fail
    have e:wrap64 ((k:Int)+1)=(k:Int)+1:=by
     have:=HL.out
     have:=HKL.out
     unfold wrap64
     omega
    go_roundg (gk - 1)
    case measure=>have:=HK.out;have:=HKL.out;omega
    case rel=>exact ⟨k+1,by simp [e],⟨_,rfl,⟨by rw [← HZ2.out,← HZ.out];rfl⟩,⟨by have:=HSZ.out;have:=HI1.out;have e3:=addN_size z x;exact e3 ▸ (by omega)⟩⟩,⟨by have:=HK.out;have:=HKL.out;omega⟩,HB1⟩
   ·have c5:decide ((k:Int) < (l.length:Int))=false:=decide_eq_false (by omega)
    have HE:=Aside0.mk (show z=l.foldl addN (wordB 0 nm) by have:=HZ.out;rwa [List.take_of_length_le (by omega)] at this)
    have s3:(9223372036854775807 < z.size+1)=False:=eq_false (by have:=HSZ.out;have:=HL.out;have:=HK.out;omega)
    go_wp2_with fail
    go_ret
    exact ⟨by rw [HE.out];rfl,HB.out⟩
 ·clear hk
  go_enter Tryd.func26,Tryd.ntmps26
  go_wp2_with fail
  have HB0:=Aside0.mk (below_alloc (Below.refl _ w) (.cells #[.string nm,.string ⟨#[100,105,115,99,111,117,110,116]⟩,.string ⟨#[116,111,116,97,108]⟩] 81))
  go_loopg [18,8] l.length (fun kq i s wr=>∃ k:Nat,i=.int .i64 k∧(∃ z,s=.string z∧Aside0 (z=(l.take k).foldl addN (wordB 1 nm))∧Aside0 (z.size≤1000000100+30 * k))∧Aside0 (k+kq=l.length)∧Aside0 (Below w.heap.size w wr))
  case atStart=>exact ⟨0,rfl,⟨_,rfl,⟨rfl⟩,⟨by decide⟩⟩,⟨Nat.zero_add _⟩,HB0⟩
  case round =>
   obtain ⟨k,rfl,⟨z,rfl,HZ,HSZ⟩,HK,HB⟩:=hrel
   clear HB0
   by_cases hk:k < l.length
   ·have c5:decide ((k:Int) < (l.length:Int))=true:=decide_eq_true (by omega)
    have hc:=cell_below_at HB.out (HC.out k hk)
    have HZ2:=Aside0.mk (take_fold (s:=wordB 1 nm) k hk)
    have hx:=List.all_eq_true.mp HOK.out l[k] (List.getElem_mem hk)
    obtain ⟨x,he⟩:∃ x,x=l[k]:=⟨_,rfl⟩
    rw [← he] at hc HZ2 hx
    clear he
    have HX:=Aside0.mk hx
    have hi1:=itoa_small x hx
    have s1:(9223372036854775807 < 1+(Lib.itoa x).length)=False:=eq_false (by omega)
    have s2:(9223372036854775807 < z.size+(1+(Lib.itoa x).length))=False:=eq_false (by have:=HSZ.out;have:=HL.out;omega)
    have HI1:=Aside0.mk hi1
    clear hi1
    have HKL:=Aside0.mk hk
    clear hx
    go_wp2_with fail
    refine (strconv_Itoa.calls x _ _ (itoa_ok x HX.out) (glob_at HG_ HB.out)).mono ?_
    rintro e w1 ⟨rfl,hb⟩
    have HB1:=Aside0.mk (below_step HB.out hb)
    clear hb
    go_wp2_with fail
    have e:wrap64 ((k:Int)+1)=(k:Int)+1:=by
     have:=HL.out
     have:=HKL.out
     unfold wrap64
     omega
    go_roundg (gk - 1)
    case measure=>have:=HK.out;have:=HKL.out;omega
    case rel=>exact ⟨k+1,by simp [e],⟨_,rfl,⟨by rw [← HZ2.out,← HZ.out];rfl⟩,⟨by have:=HSZ.out;have:=HI1.out;have e3:=addN_size z x;exact e3 ▸ (by omega)⟩⟩,⟨by have:=HK.out;have:=HKL.out;omega⟩,HB1⟩
   ·have c5:decide ((k:Int) < (l.length:Int))=false:=decide_eq_false (by omega)
    have HE:=Aside0.mk (show z=l.foldl addN (wordB 1 nm) by have:=HZ.out;rwa [List.take_of_length_le (by omega)] at this)
    have s3:(9223372036854775807 < z.size+1)=False:=eq_false (by have:=HSZ.out;have:=HL.out;have:=HK.out;omega)
    go_wp2_with fail
    go_ret
    exact ⟨by rw [HE.out];rfl,HB.out⟩
 ·clear hk
  go_enter Tryd.func26,Tryd.ntmps26
  go_wp2_with fail
  have HB0:=Aside0.mk (below_alloc (Below.refl _ w) (.cells #[.string nm,.string ⟨#[100,105,115,99,111,117,110,116]⟩,.string ⟨#[116,111,116,97,108]⟩] 81))
  go_loopg [18,8] l.length (fun kq i s wr=>∃ k:Nat,i=.int .i64 k∧(∃ z,s=.string z∧Aside0 (z=(l.take k).foldl addN (wordB 2 nm))∧Aside0 (z.size≤1000000100+30 * k))∧Aside0 (k+kq=l.length)∧Aside0 (Below w.heap.size w wr))
  case atStart=>exact ⟨0,rfl,⟨_,rfl,⟨rfl⟩,⟨by decide⟩⟩,⟨Nat.zero_add _⟩,HB0⟩
  case round =>
   obtain ⟨k,rfl,⟨z,rfl,HZ,HSZ⟩,HK,HB⟩:=hrel
   clear HB0
   by_cases hk:k < l.length
   ·have c5:decide ((k:Int) < (l.length:Int))=true:=decide_eq_true (by omega)
    have hc:=cell_below_at HB.out (HC.out k hk)
    have HZ2:=Aside0.mk (take_fold (s:=wordB 2 nm) k hk)
    have hx:=List.all_eq_true.mp HOK.out l[k] (List.getElem_mem hk)
    obtain ⟨x,he⟩:∃ x,x=l[k]:=⟨_,rfl⟩
    rw [← he] at hc HZ2 hx
    clear he
    have HX:=Aside0.mk hx
    have hi1:=itoa_small x hx
    have s1:(9223372036854775807 < 1+(Lib.itoa x).length)=False:=eq_false (by omega)
    have s2:(9223372036854775807 < z.size+(1+(Lib.itoa x).length))=False:=eq_false (by have:=HSZ.out;have:=HL.out;omega)
    have HI1:=Aside0.mk hi1
    clear hi1
    have HKL:=Aside0.mk hk
    clear hx
    go_wp2_with fail
    refine (strconv_Itoa.calls x _ _ (itoa_ok x HX.out) (glob_at HG_ HB.out)).mono ?_
    rintro e w1 ⟨rfl,hb⟩
    have HB1:=Aside0.mk (below_step HB.out hb)
    clear hb
    go_wp2_with fail
    have e:wrap64 ((k:Int)+1)=(k:Int)+1:=by
     have:=HL.out
     have:=HKL.out
     unfold wrap64
     omega
    go_roundg (gk - 1)
    case measure=>have:=HK.out;have:=HKL.out;omega
    case rel=>exact ⟨k+1,by simp [e],⟨_,rfl,⟨by rw [← HZ2.out,← HZ.out];rfl⟩,⟨by have:=HSZ.out;have:=HI1.out;have e3:=addN_size z x;exact e3 ▸ (by omega)⟩⟩,⟨by have:=HK.out;have:=HKL.out;omega⟩,HB1⟩
   ·have c5:decide ((k:Int) < (l.length:Int))=false:=decide_eq_false (by omega)
    have HE:=Aside0.mk (show z=l.foldl addN (wordB 2 nm) by have:=HZ.out;rwa [List.take_of_length_le (by omega)] at this)
    have s3:(9223372036854775807 < z.size+1)=False:=eq_false (by have:=HSZ.out;have:=HL.out;have:=HK.out;omega)
    go_wp2_with fail
    go_ret
    exact ⟨by rw [HE.out];rfl,HB.out⟩
end Go.Proofs.YtojkjhaobjidlaaDoor.P
namespace Go.Proofs.YtojkjhaobjidlaaDoor.P
open Go.RowKit Go.Proofs.YtojkjhaobjidlaaDoorW.PrintWords Go.Proofs.YtojkjhaobjidlaaDoorW.PrintLast
set_option linter.unusedVariables false
set_option linter.unusedSimpArgs false
theorem bdSize:(Tryd.prog.info? 65).map (·.size)=some 2:=by kernel_rfl
theorem bdLies:liesAt Tryd.prog Tryd.prog.depth 65 (2 / Tryd.prog.cellsOf 65) 0 65 1=true:=by kernel_rfl
theorem bdPtr:Tryd.prog.underlying 62=some (.pointer 65):=by kernel_rfl
theorem bdUns:Tryd.prog.underlying 92=some .unsafePointer:=by kernel_rfl
theorem byInfo:(Tryd.prog.info? 5).map (fun i=>(i.zero,i.size,i.bytes))=some (some (.int .u8 0),1,1):=by kernel_rfl
theorem bySl:Tryd.prog.underlying 63=some (.slice 5):=by kernel_rfl
theorem bySt:Tryd.prog.underlying 9=some .string:=by kernel_rfl
set_option maxHeartbeats 1000000 in
set_option maxRecDepth 100000 in
theorem copyCheck_used (b:Nat) (w:World) (h0:w.cell? ⟨b,0,none⟩=some (.pointer (some ⟨b,0,none⟩))) :
  Calls Tryd.prog 36 #[.pointer (some ⟨b,0,none⟩)] w fun e w'=>e=.returned (.tuple #[])∧w'=w:=by
 obtain ⟨j,hj,_⟩:=Option.map_eq_some_iff.1 bdSize
 have hu:=Tryd.underlying65
 go_enter Tryd.func36,Tryd.ntmps36
 go_wp2
 rw [Lib.run_neq_ptr_same w _ bdPtr hj]
 go_wp2
 go_end0
 exact ⟨rfl,rfl⟩
set_option maxHeartbeats 1000000 in
set_option maxRecDepth 100000 in
theorem copyCheck_fresh (b:Nat) (w:World) (h0:w.cell? ⟨b,0,none⟩=some (.pointer none)) (hsh:w.shape? b=some (65,2)) (hfz:w.frozen? ⟨b,0,none⟩=false) :
  Calls Tryd.prog 36 #[.pointer (some ⟨b,0,none⟩)] w fun e w'=>e=.returned (.tuple #[])∧w'=w.setCell ⟨b,0,none⟩ (.pointer (some ⟨b,0,none⟩)):=by
 obtain ⟨j,hj,hjs⟩:=Option.map_eq_some_iff.1 bdSize
 have hu:=Tryd.underlying65
 go_enter Tryd.func36,Tryd.ntmps36
 go_wp2
 rw [Lib.run_to_unsafe w ⟨b,0,none⟩ bdPtr bdUns hj (by rw [hjs];decide) hsh (Nat.zero_lt_succ 1)]
 simp only [Result.andThen]
 rw [Oper.upon_value]
 go_wp2
 rw [run_callFunc_extern Tryd.func49 (by kernel_rfl) (by kernel_rfl) (by kernel_rfl) (e:=Extern.AbiNoEscape.same) (by kernel_rfl)]
 rw [Lib.run_noEscape]
 simp only [Result.andThen]
 rw [Oper.upon_value]
 go_wp2
 rw [Lib.run_from_unsafe w ⟨b,0,none⟩ bdUns bdPtr hj hsh bdLies]
 simp only [Result.andThen]
 rw [Oper.upon_value]
 go_wp2
 go_end0
 exact ⟨rfl,rfl⟩
theorem copyCheck_at (B b:Nat) (bs:List Value) (w:World) (h:Lib.IsBuilder 65 5 B b bs w) :
  Calls Tryd.prog 36 #[.pointer (some ⟨b,0,none⟩)] w fun e w'=>e=.returned (.tuple #[])∧(Lib.BuilderAt 65 5 B b (.pointer (some ⟨b,0,none⟩)) bs w'∧Below B w w'):=by
 rcases h with h|h
 ·refine (copyCheck_fresh b w h.cell0 h.shape h.frozen0).mono ?_
  rintro e w' ⟨rfl,rfl⟩
  exact ⟨rfl,h.used _,(Below.refl B w).setCell (p:=⟨b,0,none⟩) h.1 _⟩
 ·refine (copyCheck_used b w h.cell0).mono ?_
  rintro e w' ⟨rfl,rfl⟩
  exact ⟨rfl,h,Below.refl B _⟩
set_option maxHeartbeats 2000000 in
set_option maxRecDepth 100000 in
theorem writeString_at (B b:Nat) (bs:List Value) (s:ByteArray) (w:World) (h:Lib.IsBuilder 65 5 B b bs w) (hlen:bs.length+s.size≤140737488355328) (hBw:B≤w.heap.size) :
  Calls Tryd.prog 25 #[.pointer (some ⟨b,0,none⟩),.string s] w fun e w'=>e=.returned (.tuple #[.int .i64 s.size,.nilIface])∧(Lib.BuilderAt 65 5 B b (.pointer (some ⟨b,0,none⟩)) (bs++Lib.strCells s) w'∧Below B w w'):=by
 obtain ⟨i0,hi,hz0,hz1,hz2⟩:=info_parts byInfo
 have hu:=Tryd.underlying65
 go_enter Tryd.func25,Tryd.ntmps25
 go_wp2_with fail
 refine (copyCheck_at B b bs _ h).mono ?_
 rintro e w1 ⟨rfl,h1,hb1⟩
 obtain ⟨hB,v,hbk,hown,hne⟩:=h1
 have c0:w1.cell? ⟨b,0,none⟩=some (.pointer (some ⟨b,0,none⟩)):=by rw [Lib.cell_of_heap hbk];rfl
 have c1:w1.cell? ⟨b,1,none⟩=some v:=by rw [Lib.cell_of_heap hbk];rfl
 go_wp2_with (at_builtin;refine Lib.wpList_append_own_string _ rfl _ _ 63 9 rfl B 5 i0 bySl bySt hi hz0 hz1 hz2 _ _ _ rfl hown s rfl ?c3 ?c4 ?c5 ?_)
 case c3=>unfold maxLen;omega
 case c4=>omega
 case c5=>have:=hb1.size;omega
 intro v' w2 hown' hgrow _
 have hlt:b < w1.heap.size:=by
  rcases Nat.lt_or_ge b w1.heap.size with h'|h'
  ·exact h'
  ·simp [Array.getElem?_eq_none h'] at hbk
 have hb2:w2.heap[b]?=some (.cells #[.pointer (some ⟨b,0,none⟩),v] 65 (0,0)):=by
  rw [hgrow.block b hlt (fun e=>hne e.symm)]
  exact hbk
 have d0:w2.cell? ⟨b,0,none⟩=some (.pointer (some ⟨b,0,none⟩)):=by rw [Lib.cell_of_heap hb2];rfl
 have d1:w2.cell? ⟨b,1,none⟩=some v:=by rw [Lib.cell_of_heap hb2];rfl
 have f1:w2.frozen? ⟨b,1,none⟩=false:=Lib.frozen_of_heap hb2 1
 obtain ⟨ao,n',cap,rfl⟩:∃ ao n' cap,v'=.slice ao n' cap:=by
  rcases hown'.2 with ⟨hv,_⟩|⟨g,cap,cur,hv,_⟩
  ·exact ⟨_,_,_,hv⟩
  ·exact ⟨_,_,_,hv⟩
 go_wp2
 go_ret2
 refine ⟨rfl,?_,?_⟩
 ·exact Lib.BuilderAt.put (T:=65) (e:=5) hB hb2 (bs':=bs++Lib.strCells s) (by simpa [Lib.strCells_length] using hown') (by decide)
 ·exact (hb1.grown hgrow (by have:=hb1.size;omega) (fun k hk=>(hown.lt k hk).1)).setCell (p:=⟨b,1,none⟩) hB _
end Go.Proofs.YtojkjhaobjidlaaDoor.P
namespace Go.Proofs.YtojkjhaobjidlaaDoor.P
open Go.RowKit Go.Proofs.YtojkjhaobjidlaaDoorW.PrintWords Go.Proofs.YtojkjhaobjidlaaDoorW.PrintLast Go.Proofs.YtojkjhaobjidlaaDoorW.PrintMore
set_option linter.unusedVariables false
set_option linter.unusedSimpArgs false
def itemOk (c:List S53) (x:S35):Bool:=decide (0≤x.f0) && (decide (x.f0 < (c.length:Int)) && (decide ((rd_T53 c x.f0).f0.size≤1000000) && (i64ok x.f1 && i64ok x.f2)))
def itemB (c:List S53) (x:S35) (a:Int):ByteArray:=lineB (rd_T53 c x.f0).f0 [x.f1,x.f2,a]
def textB (c:List S53) (l:List S35) (am:List Int):Nat→Nat→ByteArray→ByteArray
 | 0,_,t=>t
 | m+1,k,t=>textB c l am m (k+1) (t++itemB c (rd_T35 l k) (rd am k))
def textOk (c:List S53) (l:List S35) (am:List Int) (d t:Int):Bool:=decide (l.length≤1000) && (decide (l.length≤am.length) && (l.all (itemOk c) && (am.all i64ok && (i64ok d && i64ok t))))
def bill_Text.f (k:Nat) (c:List S53) (l:List S35) (t:List S56):Option (ByteArray × Int) :=
 (bill_invoice.f k c l t).bind fun b=>if b.2.2.2=0 then (if textOk c l b.1 b.2.1 b.2.2.1=true then some ((textB c l b.1 l.length 0 ⟨#[]⟩++lineB (wordB 1 ⟨#[]⟩) [b.2.1])++lineB (wordB 2 ⟨#[]⟩) [b.2.2.1],0) else none) else some (⟨#[]⟩,b.2.2.2)
theorem bill_Text.mono:∀ a0 a1 a2 k,LeO (bill_Text.f k a0 a1 a2) (bill_Text.f (k+1) a0 a1 a2):=fun _ _ _ _=>LeO.bind (bill_invoice.mono _ _ _ _) (fun _=>LeO.refl _)
theorem bd_alloc (w:World):Lib.IsBuilder 65 5 w.heap.size w.heap.size [] (w.alloc (.cells #[.pointer none,.slice none 0 0] 65)):=by
 exact Or.inl ⟨Nat.le_refl _,_,heap_alloc_new w _,⟨rfl,Or.inl ⟨rfl,rfl⟩⟩,by simp [Value.ownBlock]⟩
theorem owns_below {B:Nat} {e:TypeId} {k:Nat} {v:Value} {n:Nat} {xs:List Value} {w w':World} (h:w.ownsRow B e k v n xs) (hb:Below w.heap.size w w'):w'.ownsRow B e k v n xs :=
 World.ownsRow.kept (row:=none) h ⟨hb.os,hb.tape,hb.output,hb.size,fun i hi _=>hb.block i hi⟩ (by cases v.ownBlock<;>simp)
theorem bd_below {T e:TypeId} {B b:Nat} {bs:List Value} {w W:World} (h:Lib.IsBuilder T e B b bs w) (hb:Below w.heap.size w W):Lib.IsBuilder T e B b bs W:=by
 rcases h with ⟨h1,v,h2,h3,h4⟩|⟨h1,v,h2,h3,h4⟩
 ·exact Or.inl ⟨h1,v,(hb.block b (blk_lt h2)).trans h2,owns_below h3 hb,h4⟩
 ·exact Or.inr ⟨h1,v,(hb.block b (blk_lt h2)).trans h2,owns_below h3 hb,h4⟩
theorem blk_lt_bd {T e:TypeId} {B b:Nat} {bs:List Value} {w:World} (h:Lib.IsBuilder T e B b bs w):b < w.heap.size:=by
 rcases h with ⟨h1,v,h2,h3,h4⟩|⟨h1,v,h2,h3,h4⟩
 ·exact blk_lt h2
 ·exact blk_lt h2
theorem bd_append (t s:ByteArray):Lib.strCells t++Lib.strCells s=Lib.strCells (t++s):=by
 unfold Lib.strCells
 rw [← List.map_append,← ByteArray.toList_data_append]
theorem line_size (s:ByteArray) (l:List Int) (h:l.all i64ok=true):(lineB s l).size≤s.size+30 * l.length+1:=by
 unfold lineB
 rw [ByteArray.size_append]
 have hk:(l.foldl addN s).size≤s.size+30 * l.length:=by
  induction l generalizing s with
  | nil=>simp
  | cons x l ih =>
   simp only [List.all_cons,Bool.and_eq_true] at h
   have h1:=addN_size s x
   have h2:=itoa_small x h.1
   have h3:=ih (addN s x) h.2
   rw [List.foldl_cons,List.length_cons]
   omega
 have:(⟨#[10]⟩:ByteArray).size=1:=rfl
 omega
theorem rd_in {l:List S35} (k:Nat) (hk:k < l.length):rd_T35 l (k:Int) ∈ l:=by
 unfold rd_T35
 rw [List.getD_eq_getElem?_getD,List.getElem?_eq_getElem (by simpa using hk)]
 simp
theorem rd_int (l:List Int) (k:Nat) (hk:k < l.length):rd l (k:Int) ∈ l:=by
 unfold rd
 simp [hk]
theorem line1 (d:Int) (wr:World) (hd:i64ok d=true) (HG_:Aside0 (Glob (wr.alloc (.cells #[.int .i64 d] 3)))):Calls Tryd.prog 26 #[.int .i64 1,.string ⟨#[]⟩,.slice (some ⟨wr.heap.size,0,none⟩) 1 1] (wr.alloc (.cells #[.int .i64 d] 3)) fun e w'=>e=.returned (.string (lineB (wordB 1 ⟨#[]⟩) [d]))∧Below (wr.alloc (.cells #[.int .i64 d] 3)).heap.size (wr.alloc (.cells #[.int .i64 d] 3)) w' :=
 bill_line.calls 1 (by decide) ⟨#[]⟩ wr.heap.size 3 1 [d] _ (heap_alloc_new wr _) (by simp) (by decide) (by simp [hd]) HG_
theorem line2 (d:Int) (wr:World) (hd:i64ok d=true) (HG_:Aside0 (Glob (wr.alloc (.cells #[.int .i64 d] 3)))):Calls Tryd.prog 26 #[.int .i64 2,.string ⟨#[]⟩,.slice (some ⟨wr.heap.size,0,none⟩) 1 1] (wr.alloc (.cells #[.int .i64 d] 3)) fun e w'=>e=.returned (.string (lineB (wordB 2 ⟨#[]⟩) [d]))∧Below (wr.alloc (.cells #[.int .i64 d] 3)).heap.size (wr.alloc (.cells #[.int .i64 d] 3)) w' :=
 bill_line.calls 2 (by decide) ⟨#[]⟩ wr.heap.size 3 1 [d] _ (heap_alloc_new wr _) (by simp) (by decide) (by simp [hd]) HG_
theorem line0 (nm:ByteArray) (x y z:Int) (wr:World) (hn:nm.size≤1000000) (hx:i64ok x=true) (hy:i64ok y=true) (hz:i64ok z=true) (HG_:Aside0 (Glob (wr.alloc (.cells #[.int .i64 x,.int .i64 y,.int .i64 z] 3)))):Calls Tryd.prog 26 #[.int .i64 0,.string nm,.slice (some ⟨wr.heap.size,0,none⟩) 3 3] (wr.alloc (.cells #[.int .i64 x,.int .i64 y,.int .i64 z] 3)) fun e w'=>e=.returned (.string (lineB nm [x,y,z]))∧Below (wr.alloc (.cells #[.int .i64 x,.int .i64 y,.int .i64 z] 3)).heap.size (wr.alloc (.cells #[.int .i64 x,.int .i64 y,.int .i64 z] 3)) w' :=
 bill_line.calls 0 (by decide) nm wr.heap.size 3 3 [x,y,z] _ (heap_alloc_new wr _) (by simp) (by omega) (by simp [hx,hy,hz]) HG_
def bill_Text.T8:Bool × List (List Nat × List Nat):=(true,[([],[]),([],[]),([1],[1]),([0,2],[0,2]),([3],[3]),([4],[4]),([],[]),([6],[6]),([],[]),([8],[8]),([],[]),([],[]),([10,11],[10,11]),([12],[12]),([7,9,13],[7,9,13]),([5,14],[5,14]),([15,15],[15])])
def bill_Text.B8:List Nat:=[0,0,2,7,15,31,0,64,0,256,0,0,3072,7168,16320,32767,65535]
theorem bill_Text.tab8:rtab .any (opsOf Tryd.f13 8)=bill_Text.T8:=by kernel_rfl
theorem bill_Text.bits8:waitsOk bill_Text.T8.2 bill_Text.B8=true:=by kernel_rfl
set_option maxHeartbeats 4000000 in
set_option maxRecDepth 100000 in
theorem bill_Text.calls (k:Nat) (A0:Option Addr) (c0:Nat) (l0:List S53) (A1:Option Addr) (c1:Nat) (l1:List S35) (A2:Option Addr) (c2:Nat) (l2:List S56) (r1:ByteArray) (r2:Int) (w:World) (hr0:Kd.C k53 w A0 l0.length l0) (hc0:l0.length≤c0) (hr1:Kd.C k35 w A1 l1.length l1) (hc1:l1.length≤c1) (hr2:Kd.C k56 w A2 l2.length l2) (hc2:l2.length≤c2) (h:bill_Text.f k l0 l1 l2=some (r1,r2)) (HG_:Aside0 (Glob w)) :
  Calls Tryd.prog 13 #[.slice A0 l0.length c0,.slice A1 l1.length c1,.slice A2 l2.length c2] w fun e w'=>e=.returned (.tuple #[.string r1,.int .i64 r2])∧Below w.heap.size w w':=by
 have hui:=Tryd.underlying35
 have hup:=Tryd.underlying53
 have hub:=Tryd.underlying65
 obtain ⟨⟨am,d,tt,e⟩,hi,hh⟩:=Option.bind_eq_some_iff.mp h
 simp only [] at hh
 have HR:=Aside0.mk hr0
 have HI:=Aside0.mk hr1
 have HC:=Aside0.mk (And.intro hc0 hc1)
 have HH:=Aside0.mk hh
 have hcall:=bill_invoice.calls k A0 c0 l0 A1 c1 l1 A2 c2 l2 am d tt e w hr0 hc0 hr1 hc1 hr2 hc2 hi
 have HCA:=Aside0.mk hcall
 clear hr0 hc0 hr1 hc1 hr2 hc2 h hi hh hcall
 go_enter Tryd.func13,Tryd.ntmps13
 go_wp2_with fail
 refine HCA.out.mono ?_
 clear HCA
 rintro en w1 ⟨v,rfl,hrow,hb⟩
 obtain ⟨A3,c3,rfl⟩:=Kd.R_slice hrow
 have HB1:=Aside0.mk hb
 have HRow:=Aside0.mk (Kd.R_reads' hrow).2.2
 clear hrow hb
 by_cases he:e=0
 case neg =>
  have hh:=HH.out
  rw [if_neg he] at hh
  simp only [Option.some.injEq,Prod.mk.injEq] at hh
  obtain ⟨rfl,rfl⟩:=hh
  have he0:(e != 0)=true:=bne_iff_ne.mpr he
  clear HH he
  go_wp2_with fail
  go_ret2
  exact ⟨rfl,HB1.out⟩
 have hh:=HH.out
 rw [if_pos he] at hh
 subst he
 by_cases ho:textOk l0 l1 am d tt=true
 case neg=>rw [if_neg ho] at hh;cases hh
 rw [if_pos ho] at hh
 simp only [Option.some.injEq,Prod.mk.injEq] at hh
 obtain ⟨rfl,rfl⟩:=hh
 have HO:=Aside0.mk ho
 clear HH ho
 go_wp2_with fail
 have HBd:Aside0 (Lib.IsBuilder 65 5 w1.heap.size w1.heap.size (Lib.strCells ⟨#[]⟩) (w1.alloc (.cells #[.pointer none,.slice none 0 0] 65))):=⟨bd_alloc w1⟩
 have HW1:Aside0 (Below w1.heap.size w1 (w1.alloc (.cells #[.pointer none,.slice none 0 0] 65))):=⟨below_alloc (Below.refl _ w1) _⟩
 obtain ⟨b,hb⟩:∃ b,b=w1.heap.size:=⟨_,rfl⟩
 have HBE:=Aside0.mk hb
 rw [← hb] at HBd HW1 ⊢
 clear hb
 go_loopg [29] l1.length (fun kq i wr=>∃ (k:Nat) (t:ByteArray),i=.int .i64 k∧Aside0 (k+kq=l1.length)∧Aside0 (textB l0 l1 am kq k t=textB l0 l1 am l1.length 0 ⟨#[]⟩)∧Aside0 (t.size≤10000000 * k)∧Aside0 (Lib.IsBuilder 65 5 b b (Lib.strCells t) wr)∧Aside0 (Below b w1 wr))
 case atStart=>exact ⟨0,⟨#[]⟩,rfl,⟨Nat.zero_add _⟩,⟨rfl⟩,⟨Nat.zero_le _⟩,HBd,HW1⟩
 case round =>
  obtain ⟨k,t,rfl,HK,HT,HS,HD,HB⟩:=hrel
  clear HBd HW1
  have HBw:=Aside0.mk (show Below w.heap.size w wr from below_step HB1.out (by rw [← HBE.out];exact HB.out))
  have HWb:=Aside0.mk (show w.heap.size≤b by rw [HBE.out];exact HB1.out.size)
  cases gk with
  | zero =>
   have c5:decide ((k:Int) < (l1.length:Int))=false:=decide_eq_false (by have:=HK.out;omega)
   have hk:¬ k < l1.length:=by have:=HK.out;omega
   have HE:=Aside0.mk (show t=textB l0 l1 am l1.length 0 ⟨#[]⟩ from HT.out)
   have ho:=HO.out
   simp only [textOk,Bool.and_eq_true,decide_eq_true_eq] at ho
   obtain ⟨h1,h2,h3,h4,h5,h6⟩:=ho
   have hb:=blk_lt_bd HD.out
   have HBwr:=Aside0.mk (show b≤wr.heap.size by omega)
   have HKL:=Aside0.mk (show k≤1000 by have:=HK.out;omega)
   have HD5:=Aside0.mk h5
   have HD6:=Aside0.mk h6
   clear h1 h2 h3 h4 h5 h6 hb HT
   go_wp2_with fail
   refine (line1 d wr HD5.out (glob_at HG_ (below_alloc HBw.out _))).mono ?_
   rintro en w2 ⟨rfl,hb2⟩
   have HB2:=Aside0.mk (below_step (below_alloc (Below.refl _ wr) (.cells #[.int .i64 d] 3)) hb2)
   clear hb2
   have HD2:=Aside0.mk (bd_below HD.out HB2.out)
   obtain ⟨s1,hs1⟩:∃ s1,s1=lineB (wordB 1 ⟨#[]⟩) [d]:=⟨_,rfl⟩
   rw [← hs1]
   have HS1:=Aside0.mk (show s1.size≤100 by rw [hs1];exact Nat.le_trans (line_size _ _ (by simp [HD5.out])) (show 8+30 * 1+1≤100 by decide))
   have HN1:=Aside0.mk hs1
   clear hs1
   go_wp2_with fail
   refine (writeString_at b b _ s1 w2 HD2.out (by rw [Lib.strCells_length];have:=HS.out;have:=HS1.out;have:=HKL.out;omega) (by have:=HB2.out.size;have:=HBwr.out;omega)).mono ?_
   rintro en w3 ⟨rfl,hA3,hb3⟩
   rw [bd_append] at hA3
   have HW2:=Aside0.mk (below_step HBw.out HB2.out)
   have HW3:=Aside0.mk (HW2.out.trans (hb3.mono HWb.out))
   have HD3:Aside0 (Lib.IsBuilder 65 5 b b (Lib.strCells (t++s1)) w3):=⟨Or.inr hA3⟩
   have HZ3:=Aside0.mk (show b≤w3.heap.size by have:=HB2.out.size;have:=hb3.size;have:=HBwr.out;omega)
   clear hA3 hb3 HW2 HD2 HB2 HBwr
   go_wp2_with fail
   refine (line2 tt w3 HD6.out (glob_at HG_ (below_alloc HW3.out _))).mono ?_
   rintro en w4 ⟨rfl,hb4⟩
   have HB4:=Aside0.mk (below_step (below_alloc (Below.refl _ w3) (.cells #[.int .i64 tt] 3)) hb4)
   clear hb4
   have HD4:=Aside0.mk (bd_below HD3.out HB4.out)
   have HW4:=Aside0.mk (below_step HW3.out HB4.out)
   have HZ4:=Aside0.mk (show b≤w4.heap.size by have:=HB4.out.size;have:=HZ3.out;omega)
   obtain ⟨s2,hs2⟩:∃ s2,s2=lineB (wordB 2 ⟨#[]⟩) [tt]:=⟨_,rfl⟩
   rw [← hs2]
   have HS2:=Aside0.mk (show s2.size≤100 by rw [hs2];exact Nat.le_trans (line_size _ _ (by simp [HD6.out])) (show 5+30 * 1+1≤100 by decide))
   have HN2:=Aside0.mk hs2
   clear hs2 HD3 HB4 HZ3 HW3
   go_wp2_with fail
   refine (writeString_at b b _ s2 w4 HD4.out (by rw [Lib.strCells_length,ByteArray.size_append];have:=HS.out;have:=HS1.out;have:=HS2.out;have:=HKL.out;omega) HZ4.out).mono ?_
   rintro en w5 ⟨rfl,hA5,hb5⟩
   rw [bd_append] at hA5
   have HW5:=Aside0.mk (HW4.out.trans (hb5.mono HWb.out))
   have HD5':Aside0 (Lib.IsBuilder 65 5 b b (Lib.byteCells (t++s1++s2).data.toList) w5):=⟨Or.inr hA5⟩
   have HZ5:=Aside0.mk (show b≤w5.heap.size by have:=hb5.size;have:=HZ4.out;omega)
   clear hA5 hb5 HD4 HW4 HZ4
   obtain ⟨z,hz⟩:∃ z,z=t++s1++s2:=⟨_,rfl⟩
   rw [← hz] at HD5'
   have HZq:=Aside0.mk hz
   clear hz
   go_wp2_with fail
   refine (Tryd.Builder_String_any b b _ w5 HD5'.out HZ5.out).mono ?_
   rintro en w6 ⟨rfl,hb6⟩
   have HW6:=Aside0.mk (HW5.out.trans (hb6.mono HWb.out))
   clear hb6
   go_wp2_with fail
   go_ret2
   exact ⟨by rw [← HE.out,← HN1.out,← HN2.out,← HZq.out];rfl,HW6.out⟩
  | succ m =>
   have hk:k < l1.length:=by have:=HK.out;omega
   have c5:decide ((k:Int) < (l1.length:Int))=true:=decide_eq_true (by omega)
   have ho:=HO.out
   simp only [textOk,Bool.and_eq_true,decide_eq_true_eq] at ho
   obtain ⟨h1,h2,h3,h4,h5,h6⟩:=ho
   have hbb:=blk_lt_bd HD.out
   have HBwr:=Aside0.mk (show b≤wr.heap.size by omega)
   have HKL:=Aside0.mk (show k≤1000 by omega)
   have HKM:=Aside0.mk (show k < am.length by omega)
   obtain ⟨ad1,ea1,hx0,hx1,hx2,hx3⟩:=at_T35 HI.out k (by omega) (by omega)
   subst ea1
   obtain ⟨ad3,ea3,hy⟩:=Kd.at_int HRow.out k (by omega) (by omega)
   subst ea3
   replace hy:=cell_below_at (by rw [← HBE.out];exact HB.out) hy
   have hT:=HT.out
   rw [textB] at hT
   have hxo:itemOk l0 (rd_T35 l1 k)=true:=List.all_eq_true.mp h3 _ (rd_in k hk)
   have hyo:i64ok (rd am k)=true:=List.all_eq_true.mp h4 _ (rd_int am k (by omega))
   obtain ⟨x,hx⟩:∃ x,x=rd_T35 l1 k:=⟨_,rfl⟩
   obtain ⟨y,hyy⟩:∃ y,y=rd am k:=⟨_,rfl⟩
   rw [← hx] at hx0 hx1 hx2 hx3 hxo hT
   rw [← hyy] at hy hyo hT
   clear hx hyy h1 h2 h3 h4 h5 h6 hbb
   replace hx0:=cell_below_at HBw.out hx0
   replace hx1:=cell_below_at HBw.out hx1
   replace hx2:=cell_below_at HBw.out hx2
   replace hx3:=cell_below_at HBw.out hx3
   simp only [Int.toNat_natCast] at hx0 hx1 hx2 hx3 hy
   simp only [itemOk,Bool.and_eq_true,decide_eq_true_eq] at hxo
   obtain ⟨g1,g2,g3,g4,g5⟩:=hxo
   obtain ⟨ad0,A5,c5',A6,c6,ea0,hn0,-,-,-,-,-,-,-,-⟩:=at_T53 HR.out x.f0 g1 g2
   subst ea0
   replace hn0:=cell_below_at HBw.out hn0
   obtain ⟨nm,hnm⟩:∃ nm,nm=(rd_T53 l0 x.f0).f0:=⟨_,rfl⟩
   obtain ⟨sx,hsx⟩:∃ sx,sx=itemB l0 x y:=⟨_,rfl⟩
   rw [← hsx] at hT
   unfold itemB at hsx
   rw [← hnm] at hn0 g3 hsx
   clear hnm
   have HLN:=Aside0.mk (fun wd HG=>line0 nm x.f1 x.f2 y wd g3 g4 g5 hyo HG)
   rw [← hsx] at HLN
   have HSX:=Aside0.mk (show sx.size≤2000000 by rw [hsx];exact Nat.le_trans (line_size _ _ (by simp [g4,g5,hyo])) (by simp only [List.length_cons,List.length_nil];omega))
   have hkm:(k:Int) < (am.length:Int):=by have:=HKM.out;omega
   clear hsx g3 g4 g5 hyo
   go_wp2_with fail
   have hb7:=heap_alloc_new wr (.cells #[.int .i64 x.f0,.int .i64 x.f1,.int .i64 x.f2,.int .i64 x.f3] 35)
   have hbw7:=below_drew1 (below_alloc (Below.refl wr.heap.size wr) (.cells #[.int .i64 x.f0,.int .i64 x.f1,.int .i64 x.f2,.int .i64 x.f3] 35))
   have HBx:=Aside0.mk (below_step HBw.out hbw7)
   have HDx:=Aside0.mk (bd_below HD.out hbw7)
   have HBb:=Aside0.mk (HB.out.trans (hbw7.mono HBwr.out))
   replace hy:=cell_below_at hbw7 hy
   replace hn0:=cell_below_at hbw7 hn0
   have HZx:=Aside0.mk (show b≤(wr.alloc (.cells #[.int .i64 x.f0,.int .i64 x.f1,.int .i64 x.f2,.int .i64 x.f3] 35)).drew.heap.size by have:=hbw7.size;have:=HBwr.out;omega)
   clear hbw7 hx0 hx1 hx2 hx3 hk c5
   obtain ⟨b7,he7⟩:∃ b7,b7=wr.heap.size:=⟨_,rfl⟩
   rw [← he7] at hb7 ⊢
   clear he7
   replace hb7:=blk_drew hb7
   have hz0:=(blk_cell hb7 0).trans rfl
   have hz1:=(blk_cell hb7 1).trans rfl
   have hz2:=(blk_cell hb7 2).trans rfl
   refine start_ (n:=17) (S:=fun w'=>w'.cell? ⟨b7,0,none⟩=some (.int .i64 x.f0)∧w'.cell? ⟨b7,1,none⟩=some (.int .i64 x.f1)∧w'.cell? ⟨b7,2,none⟩=some (.int .i64 x.f2)∧w'.cell? (ad0.add (x.f0.toNat * 7))=some (.string nm)∧w'.cell? (ad3.add k)=some (.int .i64 y)) (ds:=[15,16]) (bitsA 17 0) (by kernel_rfl) rfl rfl ⟨hz0,hz1,hz2,hn0,hy⟩ (fun hHeld=>?_)
   clear hz0 hz1 hz2 hn0 hy hb7
   generalize (wr.alloc (.cells #[.int .i64 x.f0,.int .i64 x.f1,.int .i64 x.f2,.int .i64 x.f3] 35)).drew=wd at HDx HBx HBb HZx hHeld ⊢
   refine with_tabW bill_Text.tab8 bill_Text.bits8 (fun HT_ HW_=>?_)
   refine pure_ (i:=0) (N:=some 34) (v:=?_) (a':=?_) (bitsA 17 1) rfl rfl (any_of HT_.out (by kernel_rfl)) (fun _ _ _ h=>h) (Or.inl ⟨by rfl,?_⟩) ?_ ?_
   rotate_left;(intro w';go_simp;with_reducible rfl);rotate_left;(simp only [Act.put,List.setIfInBounds_toArray,List.set_cons_zero,List.set_cons_succ,i64_w,i32_w];rfl)
   refine pure_ (i:=1) (N:=some 35) (v:=?_) (a':=?_) (bitsA 17 3) rfl rfl (any_of HT_.out (by kernel_rfl)) (fun _ _ _ h=>h) (Or.inl ⟨by rfl,?_⟩) ?_ ?_
   rotate_left;(intro w';go_simp;with_reducible rfl);rotate_left;(simp only [Act.put,List.setIfInBounds_toArray,List.set_cons_zero,List.set_cons_succ,i64_w,i32_w];rfl)
   refine pure_ (i:=6) (N:=some 40) (v:=?_) (a':=?_) (bitsA 17 67) rfl rfl (any_of HT_.out (by kernel_rfl)) (fun _ _ _ h=>h) (Or.inl ⟨by rfl,?_⟩) ?_ ?_
   rotate_left;(intro w';go_simp;with_reducible rfl);rotate_left;(simp only [Act.put,List.setIfInBounds_toArray,List.set_cons_zero,List.set_cons_succ,i64_w,i32_w];rfl)
   refine pure_ (i:=8) (N:=some 42) (v:=?_) (a':=?_) (bitsA 17 323) rfl rfl (any_of HT_.out (by kernel_rfl)) (fun _ _ _ h=>h) (Or.inl ⟨by rfl,?_⟩) ?_ ?_
   rotate_left;(intro w';go_simp;with_reducible rfl);rotate_left;(simp only [Act.put,List.setIfInBounds_toArray,List.set_cons_zero,List.set_cons_succ,i64_w,i32_w];rfl)
   refine pure_ (i:=10) (N:=some 44) (v:=?_) (a':=?_) (bitsA 17 1347) rfl rfl (any_of HT_.out (by kernel_rfl)) (fun _ _ _ h=>h) (Or.inl ⟨by rfl,?_⟩) ?_ ?_
   rotate_left;(intro w';go_simp;with_reducible rfl);rotate_left;(simp only [Act.put,List.setIfInBounds_toArray,List.set_cons_zero,List.set_cons_succ,i64_w,i32_w];rfl)
   refine pure_ (i:=11) (N:=some 45) (v:=?_) (a':=?_) (bitsA 17 3395) rfl rfl (any_of HT_.out (by kernel_rfl)) (fun _ _ _ h=>h) (Or.inl ⟨by rfl,?_⟩) ?_ ?_
   rotate_left;(intro w';go_simp;with_reducible rfl);rotate_left;(simp only [Act.put,List.setIfInBounds_toArray,List.set_cons_zero,List.set_cons_succ,i64_w,i32_w];rfl)
   refine pure_ (i:=12) (N:=some 46) (v:=?_) (a':=?_) (bitsA 17 7491) rfl rfl (any_of HT_.out (by kernel_rfl)) (fun _ _ _ h=>h) (Or.inl ⟨by rfl,?_⟩) ?_ ?_
   rotate_left;(intro w';go_simp;with_reducible rfl);rotate_left;(simp only [Act.put,List.setIfInBounds_toArray,List.set_cons_zero,List.set_cons_succ,i64_w,i32_w];rfl)
   refine take_ (i:=2) (N:=some 36) (v:=?_) (a':=?_) (bitsA 17 7495) rfl rfl (take_ofW HT_.out HW_.out (by kernel_rfl)) (fun _ _ _ h=>h) (Or.inl ⟨by rfl,?_⟩) hHeld ?_ ?_
   rotate_left;(rintro w' ⟨s0,s1,s2,s3,s4⟩;go_simp;with_reducible rfl);rotate_left;(simp only [Act.put,List.setIfInBounds_toArray,List.set_cons_zero,List.set_cons_succ,i64_w,i32_w];rfl)
   refine pure_ (i:=3) (N:=some 37) (v:=?_) (a':=?_) (bitsA 17 7503) rfl rfl (any_of HT_.out (by kernel_rfl)) (fun _ _ _ h=>h) (Or.inl ⟨by rfl,?_⟩) ?_ ?_
   rotate_left;(intro w';go_simp;with_reducible rfl);rotate_left;(simp only [Act.put,List.setIfInBounds_toArray,List.set_cons_zero,List.set_cons_succ,i64_w,i32_w];rfl)
   refine pure_ (i:=4) (N:=some 38) (v:=?_) (a':=?_) (bitsA 17 7519) rfl rfl (any_of HT_.out (by kernel_rfl)) (fun _ _ _ h=>h) (Or.inl ⟨by rfl,?_⟩) ?_ ?_
   rotate_left;(intro w';go_simp;with_reducible rfl);rotate_left;(simp only [Act.put,List.setIfInBounds_toArray,List.set_cons_zero,List.set_cons_succ,i64_w,i32_w];rfl)
   refine take_ (i:=5) (N:=some 39) (v:=?_) (a':=?_) (bitsA 17 7551) rfl rfl (take_ofW HT_.out HW_.out (by kernel_rfl)) (fun _ _ _ h=>h) (Or.inl ⟨by rfl,?_⟩) hHeld ?_ ?_
   rotate_left;(rintro w' ⟨s0,s1,s2,s3,s4⟩;go_simp;with_reducible rfl);rotate_left;(simp only [Act.put,List.setIfInBounds_toArray,List.set_cons_zero,List.set_cons_succ,i64_w,i32_w];rfl)
   refine take_ (i:=7) (N:=some 41) (v:=?_) (a':=?_) (bitsA 17 7679) rfl rfl (take_ofW HT_.out HW_.out (by kernel_rfl)) (fun _ _ _ h=>h) (Or.inl ⟨by rfl,?_⟩) hHeld ?_ ?_
   rotate_left;(rintro w' ⟨s0,s1,s2,s3,s4⟩;go_simp;with_reducible rfl);rotate_left;(simp only [Act.put,List.setIfInBounds_toArray,List.set_cons_zero,List.set_cons_succ,i64_w,i32_w];rfl)
   refine take_ (i:=9) (N:=some 43) (v:=?_) (a':=?_) (bitsA 17 8191) rfl rfl (take_ofW HT_.out HW_.out (by kernel_rfl)) (fun _ _ _ h=>h) (Or.inl ⟨by rfl,?_⟩) hHeld ?_ ?_
   rotate_left;(rintro w' ⟨s0,s1,s2,s3,s4⟩;go_simp;with_reducible rfl);rotate_left;(simp only [Act.put,List.setIfInBounds_toArray,List.set_cons_zero,List.set_cons_succ,i64_w,i32_w];rfl)
   refine take_ (i:=13) (N:=some 47) (v:=?_) (a':=?_) (bitsA 17 16383) rfl rfl (take_ofW HT_.out HW_.out (by kernel_rfl)) (fun _ _ _ h=>h) (Or.inl ⟨by rfl,?_⟩) hHeld ?_ ?_
   rotate_left;(rintro w' ⟨s0,s1,s2,s3,s4⟩;go_simp;with_reducible rfl);rotate_left;(simp only [Act.put,List.setIfInBounds_toArray,List.set_cons_zero,List.set_cons_succ,i64_w,i32_w];rfl)
   refine one_ (i:=14) (N:=some 48) (bitsA 17 32767) rfl rfl (one_of HT_.out (by kernel_rfl)) (by decide) (fun K hK=>?_)
   refine value_ (w1:=?_) (v:=?_) (by rfl) rfl ?_ ?_
   rotate_left 2
   ·go_simp
    constructor
    ·rfl
    ·rfl
   refine hK.out _ _ ⟨cell_below_at (below_alloc (Below.refl _ wd) _) hHeld.1,cell_below_at (below_alloc (Below.refl _ wd) _) hHeld.2.1,cell_below_at (below_alloc (Below.refl _ wd) _) hHeld.2.2.1,cell_below_at (below_alloc (Below.refl _ wd) _) hHeld.2.2.2.1,cell_below_at (below_alloc (Below.refl _ wd) _) hHeld.2.2.2.2⟩ (fun hHeld=>?_)
   clear hK K
   refine norm_ (a':=?_) ?_ ?_
   rotate_left
   ·show Act.put _ (some 48) _=_
    simp only [Act.put,List.setIfInBounds_toArray,List.set_cons_zero,List.set_cons_succ,i64_w,i32_w]
    rfl
   refine last_ (i:=15) (N:=some 49) #[true,true,true,true,true,true,true,true,true,true,true,true,true,true,true,true,false] rfl rfl (one_of HT_.out (by kernel_rfl)) (by decide) (fun K hK=>?_)
   refine goes_ Tryd.func26 (by kernel_rfl) rfl #[.int .i64 0,.string nm,.slice (some ⟨wd.heap.size,0,none⟩) 3 3] (by rfl) rfl rfl (by simp only [List.map_toArray,List.map_cons,List.map_nil];rfl) ?_
   with_reducible refine (HLN.out wd (glob_at HG_ (below_alloc HBx.out _))).mono ?_
   rintro e w4 ⟨rfl,hb4⟩
   refine ⟨_,rfl,?_⟩
   have HB4:=Aside0.mk (below_step (below_alloc (Below.refl _ wd) (.cells #[.int .i64 x.f1,.int .i64 x.f2,.int .i64 y] 3)) hb4)
   have HD4:=Aside0.mk (bd_below HDx.out HB4.out)
   have HW4:=Aside0.mk (below_step HBx.out HB4.out)
   have HBb4:=Aside0.mk (HBb.out.trans (HB4.out.mono HZx.out))
   have HZ4:=Aside0.mk (show b≤w4.heap.size by have:=HB4.out.size;have:=HZx.out;omega)
   clear hb4 HB4 HDx HBx HBb HZx
   refine hK.out _ _ ?_
   clear hK K
   refine norm_ (a':=?_) ?_ ?_
   rotate_left
   ·show Act.put _ (some 49) _=_
    simp only [Act.put,List.setIfInBounds_toArray,List.set_cons_zero,List.set_cons_succ,i64_w,i32_w]
    rfl
   refine last_ (i:=16) (N:=some 50) #[true,true,true,true,true,true,true,true,true,true,true,true,true,true,true,true,true] rfl rfl (one_of HT_.out (by kernel_rfl)) (by decide) (fun K hK=>?_)
   refine goes_ Tryd.func25 (by kernel_rfl) rfl #[.pointer (some ⟨b,0,none⟩),.string sx] (by rfl) rfl rfl (by simp only [List.map_toArray,List.map_cons,List.map_nil];rfl) ?_
   with_reducible refine (writeString_at b b _ sx w4 HD4.out (by rw [Lib.strCells_length];have:=HS.out;have:=HSX.out;have:=HKL.out;omega) HZ4.out).mono ?_
   rintro e w5 ⟨rfl,hA5,hb5⟩
   refine ⟨_,rfl,?_⟩
   rw [bd_append] at hA5
   have HD5:Aside0 (Lib.IsBuilder 65 5 b b (Lib.strCells (t++sx)) w5):=⟨Or.inr hA5⟩
   have HBb5:=Aside0.mk (HBb4.out.trans hb5)
   clear hA5 hb5 HD4 HW4 HBb4
   refine hK.out _ _ ?_
   clear hK K
   refine norm_ (a':=?_) ?_ ?_
   rotate_left
   ·show Act.put _ (some 50) _=_
    simp only [Act.put,List.setIfInBounds_toArray,List.set_cons_zero,List.set_cons_succ,i64_w,i32_w]
    rfl
   refine done_ (done_of HT_.out (by kernel_rfl)) ?_
   go_wp2_with fail
   have e:wrap64 ((k:Int)+1)=(k:Int)+1:=by
    have:=HKL.out
    unfold wrap64
    omega
   go_roundg m
   case measure=>omega
   case rel=>exact ⟨k+1,t++sx,by simp [e],⟨by have:=HK.out;omega⟩,⟨hT⟩,⟨by rw [ByteArray.size_append];have:=HS.out;have:=HSX.out;omega⟩,HD5,HBb5⟩
end Go.Proofs.YtojkjhaobjidlaaDoor.P
namespace Go.Proofs.YtojkjhaobjidlaaDoor.P
open Go.RowKit Go.Proofs.YtojkjhaobjidlaaDoorW.PrintWords Go.Proofs.YtojkjhaobjidlaaDoorW.PrintLast Go.Proofs.YtojkjhaobjidlaaDoorW.PrintMore
attribute [local go_sem] max2_int min2_int max_two min_two max_three min_three max_four min_four
attribute [local go_sem] cell_twice
set_option linter.unusedVariables false
set_option linter.unusedSimpArgs false
def bill_Total.f (k:Nat) (l0:List (S53)) (l1:List (S35)) (l2:List (S56)):Option (Int × Int):=(bill_invoice.f k l0 l1 l2).bind fun bt101=>(some (bt101.2.2.1,bt101.2.2.2))
theorem bill_Total.mono:∀ a0 a1 a2 k,LeO (bill_Total.f k a0 a1 a2) (bill_Total.f (k+1) a0 a1 a2):=by
 intro a0 a1 a2 k
 unfold bill_Total.f
 repeat' first
   | (with_reducible exact bill_invoice.mono _ _ _ _)
   | (with_reducible exact LeO.refl _)
   | (with_reducible exact LeO.none _)
   | (with_reducible refine LeO.ite ?_ ?_)
   | (with_reducible refine LeO.bind ?_ (fun _=>?_))
   | exact bill_invoice.mono _ _ _ _
   | exact LeO.none _
   | refine LeO.ite ?_ ?_
   | refine LeO.bind ?_ (fun _=>?_)
set_option maxHeartbeats 8000000 in
set_option maxRecDepth 100000 in
theorem bill_Total.calls (k:Nat) (A0:Option Addr) (c0:Nat) (l0:List (S53)) (A1:Option Addr) (c1:Nat) (l1:List (S35)) (A2:Option Addr) (c2:Nat) (l2:List (S56)) (r1:Int) (r2:Int) (w:World) (hr0:Kd.C k53 w A0 l0.length l0) (hc0:l0.length≤c0) (hr1:Kd.C k35 w A1 l1.length l1) (hc1:l1.length≤c1) (hr2:Kd.C k56 w A2 l2.length l2) (hc2:l2.length≤c2) (h:bill_Total.f k l0 l1 l2=some (r1,r2)) :
  Calls Tryd.prog 12 #[.slice A0 l0.length c0,.slice A1 l1.length c1,.slice A2 l2.length c2] w fun e w'=>e=.returned (.tuple #[.int .i64 r1,.int .i64 r2])∧Below w.heap.size w w':=by
 have HR0:=Aside0.mk hr0
 have HC0:=Aside0.mk hc0
 clear hr0 hc0
 have HR1:=Aside0.mk hr1
 have HC1:=Aside0.mk hc1
 clear hr1 hc1
 have HR2:=Aside0.mk hr2
 have HC2:=Aside0.mk hc2
 clear hr2 hc2
 have HB:=Aside0.mk (Below.refl w.heap.size w)
 have H:((bill_invoice.f k l0 l1 l2).bind fun bt101=>(some (bt101.2.2.1,bt101.2.2.2)))=some (r1,r2):=h
 clear h
 replace H:=Option.bind_eq_some_iff.mp H
 obtain ⟨⟨t101,t102,t103,t104⟩,A40,H⟩:=H
 replace H:(some (t103,t104))=some (r1,r2):=H
 have A4:=Aside0.mk A40
 clear A40
 simp only [Option.some.injEq,Prod.mk.injEq] at H
 obtain ⟨rfl,rfl⟩:=H
 go_enter Tryd.func12,Tryd.ntmps12
 go_wp2_with (first|((with_reducible refine gate_callee (f:=24) rfl ?_);refine goesL_ (some 16) rfl rfl Tryd.func24 (by kernel_rfl) rfl #[.slice A0 l0.length c0,.slice A1 l1.length c1,.slice A2 l2.length c2] rfl (by (try simp only [List.map_toArray,List.map_cons,List.map_nil]);first|done|rfl|(simp only [List.length_drop,List.length_take];rfl)) ?_;(with_reducible refine (bill_invoice.calls k _ _ l0 _ _ l1 _ _ l2 t101 t102 t103 t104 _ ?side1 ?side2 ?side3 ?side4 ?side5 ?side6 A4.out).mono ?_);(case side1=>repeat (first|exact HR0.out|(with_reducible refine Kd.C_alloc ?_ _)|(with_reducible refine Kd.C_drewN ?_ _)|(with_reducible refine Kd.C_drew ?_)));(case side2=>exact HC0.out);(case side3=>repeat (first|exact HR1.out|(with_reducible refine Kd.C_alloc ?_ _)|(with_reducible refine Kd.C_drewN ?_ _)|(with_reducible refine Kd.C_drew ?_)));(case side4=>exact HC1.out);(case side5=>repeat (first|exact HR2.out|(with_reducible refine Kd.C_alloc ?_ _)|(with_reducible refine Kd.C_drewN ?_ _)|(with_reducible refine Kd.C_drew ?_)));(case side6=>exact HC2.out);rintro e w5 ⟨v105,rfl,ho0,hb⟩;refine ⟨_,rfl,?_⟩;have n0_:=Aside0.mk (Kd.R_lower ho0 (below_size (by repeat (first|(with_reducible first|exact HB.out|apply below_alloc|apply pw_below_drewN|apply below_drew1)|exact HB.out))));have n1_:=Aside0.mk (below_step (by repeat (first|(with_reducible first|exact HB.out|apply below_alloc|apply pw_below_drewN|apply below_drew1)|exact HB.out)) hb);clear HB;have HO106:=n0_;have HB:=n1_;clear n0_ n1_;(try clear hb);(try clear hb2);(try clear hk);(try clear hi);(try clear ho0)))
 go_ret2
 exact ⟨by first|rfl|(simp [errW_none,errW_some]<;>rfl)|(simp [*,errW_none,errW_some]<;>rfl),by repeat (first|(with_reducible first|exact HB.out|apply below_alloc|apply pw_below_drewN|apply below_drew1)|exact HB.out)⟩
end Go.Proofs.YtojkjhaobjidlaaDoor.P
namespace Go.Proofs.YtojkjhaobjidlaaDoor.P
open Go.RowKit Go.Proofs.YtojkjhaobjidlaaDoorW.PrintWords Go.Proofs.YtojkjhaobjidlaaDoorW.PrintLast Go.Proofs.YtojkjhaobjidlaaDoorW.PrintMore
attribute [local go_sem] max2_int min2_int max_two min_two max_three min_three max_four min_four
attribute [local go_sem] cell_twice
set_option linter.unusedVariables false
set_option linter.unusedSimpArgs false
def sawmilllaw50_plank.f :Option ((List (S53))):=some (([(⟨(⟨#[112,108,97,110,107]⟩:ByteArray),40,100,50,0,(([2000,2500]:List Int)),(([70,90]:List Int))⟩:S53)]:List (S53)))
set_option maxHeartbeats 8000000 in
set_option maxRecDepth 100000 in
theorem sawmilllaw50_plank.calls  (r:List (S53)) (w:World) (h:sawmilllaw50_plank.f =some r) :
  Calls Tryd.prog 23 #[] w fun e w'=>∃ v0_:Value,e=.returned (v0_)∧Kd.N k53 53 w' w.heap.size (fun k_=>(w.heap.size≤k_)) v0_ r∧Below w.heap.size w w':=by
 have hu53:=Tryd.underlying53
 have HB:=Aside0.mk (Below.refl w.heap.size w)
 have H:(some (([(⟨(⟨#[112,108,97,110,107]⟩:ByteArray),40,100,50,0,(([2000,2500]:List Int)),(([70,90]:List Int))⟩:S53)]:List (S53))))=some r:=h
 clear h
 obtain ⟨y101,hy101⟩:∃ y_:List Int,y_=(([2000,2500]:List Int)):=⟨_,rfl⟩
 replace H:(some (([(⟨(⟨#[112,108,97,110,107]⟩:ByteArray),40,100,50,0,y101,(([70,90]:List Int))⟩:S53)]:List (S53))))=some r:=by first|(rw [hy101];with_reducible exact H)|(have H2_:=(Option.bind_some _ _).symm.trans H;rw [hy101];with_reducible exact H2_)|(have H2_:=(Option.bind_some _ _).symm.trans H;with_reducible exact H2_)|with_reducible exact H|(rw [hy101];exact H)|exact H
 have Ny101:=Aside0.mk hy101
 clear hy101
 obtain ⟨y104,hy104⟩:∃ y_:List Int,y_=(([70,90]:List Int)):=⟨_,rfl⟩
 replace H:(some (([(⟨(⟨#[112,108,97,110,107]⟩:ByteArray),40,100,50,0,y101,y104⟩:S53)]:List (S53))))=some r:=by first|(rw [hy104];with_reducible exact H)|(have H2_:=(Option.bind_some _ _).symm.trans H;rw [hy104];with_reducible exact H2_)|(have H2_:=(Option.bind_some _ _).symm.trans H;with_reducible exact H2_)|with_reducible exact H|(rw [hy104];exact H)|exact H
 have Ny104:=Aside0.mk hy104
 clear hy104
 obtain ⟨y107,hy107⟩:∃ y_:List (S53),y_=(([(⟨(⟨#[112,108,97,110,107]⟩:ByteArray),40,100,50,0,y101,y104⟩:S53)]:List (S53))):=⟨_,rfl⟩
 replace H:(some y107)=some r:=by first|(rw [hy107];with_reducible exact H)|(have H2_:=(Option.bind_some _ _).symm.trans H;rw [hy107];with_reducible exact H2_)|(have H2_:=(Option.bind_some _ _).symm.trans H;with_reducible exact H2_)|with_reducible exact H|(rw [hy107];exact H)|exact H
 have Ny107:=Aside0.mk hy107
 clear hy107
 obtain rfl:=Option.some.inj H
 go_enter Tryd.func23,Tryd.ntmps23
 go_wp2_with (first|((with_reducible refine gate_dst (N:=1) rfl ?_);refine Kd.R_lit (Kd.int .i64) _ 3 ?hg (N:=1) ?hd (xs:=([2000,2500]:List Int)) (inner:=[.int .i64 2000,.int .i64 2500]) (ok:=fun _=>True) (okp:=fun _=>True) ?hr ?hp (fun _ hk=>hk) trivial (Below.refl _ _) (Nat.le_refl _) (by simp) ?_;(case hd=>rfl);(case hg=>rfl);(case hr=>first|(go_simp;done)|(go_simp;rfl));(case hp=>exact (Reps.one (show Kd.M (Kd.int .i64) _ _ _ 2000 [.int .i64 2000] from rfl) (Reps.one (show Kd.M (Kd.int .i64) _ _ _ 2500 [.int .i64 2500] from rfl) (Reps.none _ _))));intro v102 w1 ho2 hb hg_ hnew_;clear hg_ hnew_;(first|rw [← Ny101.out] at ho2|(simp only [Int.reduceToNat] at ho2;rw [← Ny101.out] at ho2));have n0_:=Aside0.mk (Kd.R_lower (Kd.R_newM (M:=fun k_=>(w.heap.size≤k_)) ho2 (below_size (by repeat (first|(with_reducible first|exact HB.out|apply below_alloc|apply pw_below_drewN|apply below_drew1)|exact HB.out))) (fun k_ h_=>h_)) (below_size (by repeat (first|(with_reducible first|exact HB.out|apply below_alloc|apply pw_below_drewN|apply below_drew1)|exact HB.out))));have n1_:=Aside0.mk (below_step (by repeat (first|(with_reducible first|exact HB.out|apply below_alloc|apply pw_below_drewN|apply below_drew1)|exact HB.out)) hb);clear HB;have HO103:=n0_;have HB:=n1_;clear n0_ n1_;clear hb ho2)|((with_reducible refine gate_dst (N:=2) rfl ?_);refine Kd.R_lit (Kd.int .i64) _ 3 ?hg (N:=2) ?hd (xs:=([70,90]:List Int)) (inner:=[.int .i64 70,.int .i64 90]) (ok:=fun _=>True) (okp:=fun _=>True) ?hr ?hp (fun _ hk=>hk) trivial (Below.refl _ _) (Nat.le_refl _) (by simp) ?_;(case hd=>rfl);(case hg=>rfl);(case hr=>first|(go_simp;done)|(go_simp;rfl));(case hp=>exact (Reps.one (show Kd.M (Kd.int .i64) _ _ _ 70 [.int .i64 70] from rfl) (Reps.one (show Kd.M (Kd.int .i64) _ _ _ 90 [.int .i64 90] from rfl) (Reps.none _ _))));intro v105 w3 ho4 hb hg_ hnew_;clear hg_ hnew_;(first|rw [← Ny104.out] at ho4|(simp only [Int.reduceToNat] at ho4;rw [← Ny104.out] at ho4));have n0_:=Aside0.mk (Kd.R_elder' (by (with_reducible repeat (first|apply Kd.R_alloc|apply Kd.R_drewN|apply Kd.R_drew));exact HO103.out) (Kd.R_base ho4) hb);have n1_:=Aside0.mk (Kd.R_lower (Kd.R_new' (Kd.R_newM (M:=fun k_=>(w.heap.size≤k_)) ho4 (below_size (by repeat (first|(with_reducible first|exact HB.out|apply below_alloc|apply pw_below_drewN|apply below_drew1)|exact HB.out))) (fun k_ h_=>h_)) (Kd.R_lt (by (with_reducible repeat (first|apply Kd.R_alloc|apply Kd.R_drewN|apply Kd.R_drew));exact HO103.out))) (below_size (by repeat (first|(with_reducible first|exact HB.out|apply below_alloc|apply pw_below_drewN|apply below_drew1)|exact HB.out))));have n2_:=Aside0.mk (below_step (by repeat (first|(with_reducible first|exact HB.out|apply below_alloc|apply pw_below_drewN|apply below_drew1)|exact HB.out)) hb);clear HO103;clear HB;have HO103:=n0_;have HO106:=n1_;have HB:=n2_;clear n0_ n1_ n2_;clear hb ho4;obtain ⟨Ao5,co5,eo5⟩:=Kd.R_slice HO106.out;subst eo5;obtain ⟨Ao6,co6,eo6⟩:=Kd.R_slice HO103.out;subst eo6)|((with_reducible refine gate_dst (N:=4) rfl ?_);refine Kd.N_lit k53 _ 53 ?hg (N':=4) ?hd (xs:=([(⟨(⟨#[112,108,97,110,107]⟩:ByteArray),40,100,50,0,y101,y104⟩:S53)]:List (S53))) (inner:=[.string (⟨#[112,108,97,110,107]⟩:ByteArray),.int .i64 40,.int .i64 100,.int .i64 50,.int .i64 0,.slice Ao6 y101.length co6,.slice Ao5 y104.length co5]) (ok:=(fun k_=>(w.heap.size≤k_))) (okp:=(fun k_=>(w.heap.size≤k_))) ?hr ?hp (fun _ hk=>hk) ((show ∀ k_,w3.heap.size≤k_→(fun k_=>(w.heap.size≤k_)) k_ from fun k_ hk=>(Nat.le_trans (below_size (by repeat (first|(with_reducible first|exact HB.out|apply below_alloc|apply pw_below_drewN|apply below_drew1)|exact HB.out))) hk)) _ (Nat.le_refl _)) (Below.refl _ _) (Nat.le_refl _) (by simp) ?_;(case hd=>rfl);(case hg=>rfl);(case hr=>first|(go_simp;done)|(go_simp;rfl));(case hp=>exact (Reps.c7 (show Kd.FK k53 _ _ (⟨(⟨#[112,108,97,110,107]⟩:ByteArray),40,100,50,0,y101,y104⟩:S53) [.string (⟨#[112,108,97,110,107]⟩:ByteArray),.int .i64 40,.int .i64 100,.int .i64 50,.int .i64 0,.slice Ao6 y101.length co6,.slice Ao5 y104.length co5] from (k53_mkF _ _ (⟨(⟨#[112,108,97,110,107]⟩:ByteArray),40,100,50,0,y101,y104⟩:S53) (Kd.R_reads' (Kd.R_mono (ok':=(fun k_=>(w.heap.size≤k_))) (HO103.out) (fun k_ hk=>hk.1.1))).2.1 (Kd.R_F (Kd.R_mono (ok':=(fun k_=>(w.heap.size≤k_))) (HO103.out) (fun k_ hk=>hk.1.1))) (Kd.R_reads' (Kd.R_mono (ok':=(fun k_=>(w.heap.size≤k_))) (HO106.out) (fun k_ hk=>hk.1.1))).2.1 (Kd.R_F (Kd.R_mono (ok':=(fun k_=>(w.heap.size≤k_))) (HO106.out) (fun k_ hk=>hk.1.1))))) (Reps.none _ _)));intro v108 w7 ho8 hb hg_ hnew_;clear hg_ hnew_;(first|rw [← Ny107.out] at ho8|(simp only [Int.reduceToNat] at ho8;rw [← Ny107.out] at ho8));have n0_:=Aside0.mk (Kd.N_lower ho8 (below_size (by repeat (first|(with_reducible first|exact HB.out|apply below_alloc|apply pw_below_drewN|apply below_drew1)|exact HB.out))));have n1_:=Aside0.mk (below_step (by repeat (first|(with_reducible first|exact HB.out|apply below_alloc|apply pw_below_drewN|apply below_drew1)|exact HB.out)) hb);clear HB;clear HO103;clear HO106;have HO109:=n0_;have HB:=n1_;clear n0_ n1_;clear hb ho8))
 go_ret
 exact ⟨_,by first|rfl|(simp [errW_none,errW_some]<;>rfl)|(simp [*,errW_none,errW_some]<;>rfl),by (with_reducible repeat (first|apply Kd.N_alloc|apply Kd.N_drewN|apply Kd.N_drew));exact HO109.out,by repeat (first|(with_reducible first|exact HB.out|apply below_alloc|apply pw_below_drewN|apply below_drew1)|exact HB.out)⟩
end Go.Proofs.YtojkjhaobjidlaaDoor.P
namespace Go.Proofs.YtojkjhaobjidlaaDoor.P
open Go.RowKit Go.Proofs.YtojkjhaobjidlaaDoorW.PrintWords Go.Proofs.YtojkjhaobjidlaaDoorW.PrintLast Go.Proofs.YtojkjhaobjidlaaDoorW.PrintMore
attribute [local go_sem] max2_int min2_int max_two min_two max_three min_three max_four min_four
attribute [local go_sem] cell_twice
set_option linter.unusedVariables false
set_option linter.unusedSimpArgs false
def sawmilllaw50_awake.f (k:Nat) :Option (Bool):=(sawmilllaw50_plank.f).bind fun t101=>((some (([(⟨0,2000,3,450⟩:S35),(⟨0,2000,5,12500000⟩:S35)]:List (S35)):List (S35))).bind fun y104=>((some (([(⟨100,20⟩:S56),(⟨1000,50⟩:S56)]:List (S56)):List (S56))).bind fun y107=>(if 0 < (y104.length:Int) then ((bill_Amount.f k t101 ((rd_T35 y104 0).f0) ((rd_T35 y104 0).f1) ((rd_T35 y104 0).f2) ((rd_T35 y104 0).f3)).bind fun bt111=>((bill_Amount.f k t101 0 2000 1 62563).bind fun bt113=>((bill_Discount.f k y107 999).bind fun bt115=>((bill_Total.f k t101 y104 y107).bind fun bt117=>((bill_Text.f k t101 y104 y107).bind fun bt119=>(if bt111.1=11 then (if bt111.2=0 then (if bt113.1=501 then (if bt113.2=0 then (if bt115.1=19 then (if bt115.2=0 then (if bt117.1=475011 then (if bt117.2=0 then (if bt119.1.toList=([112,108,97,110,107,32,50,48,48,48,32,51,32,49,49,10,112,108,97,110,107,32,50,48,48,48,32,53,32,53,48,48,48,48,48,10,100,105,115,99,111,117,110,116,32,50,53,48,48,48,10,116,111,116,97,108,32,52,55,53,48,49,49,10]:List UInt8) then (some (bt119.2 == 0)) else (none)) else (none)) else (none)) else (none)) else (none)) else (none)) else (none)) else (none)) else (none))))))) else (none))))
theorem sawmilllaw50_awake.mono:∀ k,LeO (sawmilllaw50_awake.f k ) (sawmilllaw50_awake.f (k+1) ):=by
 intro  k
 unfold sawmilllaw50_awake.f
 repeat' first
   | (with_reducible exact bill_Amount.mono _ _ _ _ _ _)
   | (with_reducible exact bill_Discount.mono _ _ _)
   | (with_reducible exact bill_Text.mono _ _ _ _)
   | (with_reducible exact bill_Total.mono _ _ _ _)
   | (with_reducible exact LeO.refl _)
   | (with_reducible exact LeO.none _)
   | (with_reducible refine LeO.ite ?_ ?_)
   | (with_reducible refine LeO.bind ?_ (fun _=>?_))
   | exact bill_Amount.mono _ _ _ _ _ _
   | exact bill_Discount.mono _ _ _
   | exact bill_Text.mono _ _ _ _
   | exact bill_Total.mono _ _ _ _
   | exact LeO.none _
   | refine LeO.ite ?_ ?_
   | refine LeO.bind ?_ (fun _=>?_)
set_option maxHeartbeats 8000000 in
set_option maxRecDepth 100000 in
theorem sawmilllaw50_awake.calls (k:Nat)  (r:Bool) (w:World) (h:sawmilllaw50_awake.f k =some r) (HG_:Aside0 (Glob w)) :
  Calls Tryd.prog 11 #[] w fun e w'=>e=.returned (.bool r)∧Below w.heap.size w w':=by
 have hu35:=Tryd.underlying35
 have hu56:=Tryd.underlying56
 have HB:=Aside0.mk (Below.refl w.heap.size w)
 have H:((sawmilllaw50_plank.f).bind fun t101=>((some (([(⟨0,2000,3,450⟩:S35),(⟨0,2000,5,12500000⟩:S35)]:List (S35)):List (S35))).bind fun y104=>((some (([(⟨100,20⟩:S56),(⟨1000,50⟩:S56)]:List (S56)):List (S56))).bind fun y107=>(if 0 < (y104.length:Int) then ((bill_Amount.f k t101 ((rd_T35 y104 0).f0) ((rd_T35 y104 0).f1) ((rd_T35 y104 0).f2) ((rd_T35 y104 0).f3)).bind fun bt111=>((bill_Amount.f k t101 0 2000 1 62563).bind fun bt113=>((bill_Discount.f k y107 999).bind fun bt115=>((bill_Total.f k t101 y104 y107).bind fun bt117=>((bill_Text.f k t101 y104 y107).bind fun bt119=>(if bt111.1=11 then (if bt111.2=0 then (if bt113.1=501 then (if bt113.2=0 then (if bt115.1=19 then (if bt115.2=0 then (if bt117.1=475011 then (if bt117.2=0 then (if bt119.1.toList=([112,108,97,110,107,32,50,48,48,48,32,51,32,49,49,10,112,108,97,110,107,32,50,48,48,48,32,53,32,53,48,48,48,48,48,10,100,105,115,99,111,117,110,116,32,50,53,48,48,48,10,116,111,116,97,108,32,52,55,53,48,49,49,10]:List UInt8) then (some (bt119.2 == 0)) else (none)) else (none)) else (none)) else (none)) else (none)) else (none)) else (none)) else (none)) else (none))))))) else (none)))))=some r:=h
 clear h
 replace H:=Option.bind_eq_some_iff.mp H
 obtain ⟨t101,A10,H⟩:=H
 replace H:((some (([(⟨0,2000,3,450⟩:S35),(⟨0,2000,5,12500000⟩:S35)]:List (S35)):List (S35))).bind fun y104=>((some (([(⟨100,20⟩:S56),(⟨1000,50⟩:S56)]:List (S56)):List (S56))).bind fun y107=>(if 0 < (y104.length:Int) then ((bill_Amount.f k t101 ((rd_T35 y104 0).f0) ((rd_T35 y104 0).f1) ((rd_T35 y104 0).f2) ((rd_T35 y104 0).f3)).bind fun bt111=>((bill_Amount.f k t101 0 2000 1 62563).bind fun bt113=>((bill_Discount.f k y107 999).bind fun bt115=>((bill_Total.f k t101 y104 y107).bind fun bt117=>((bill_Text.f k t101 y104 y107).bind fun bt119=>(if bt111.1=11 then (if bt111.2=0 then (if bt113.1=501 then (if bt113.2=0 then (if bt115.1=19 then (if bt115.2=0 then (if bt117.1=475011 then (if bt117.2=0 then (if bt119.1.toList=([112,108,97,110,107,32,50,48,48,48,32,51,32,49,49,10,112,108,97,110,107,32,50,48,48,48,32,53,32,53,48,48,48,48,48,10,100,105,115,99,111,117,110,116,32,50,53,48,48,48,10,116,111,116,97,108,32,52,55,53,48,49,49,10]:List UInt8) then (some (bt119.2 == 0)) else (none)) else (none)) else (none)) else (none)) else (none)) else (none)) else (none)) else (none)) else (none))))))) else (none))))=some r:=H
 have A1:=Aside0.mk A10
 clear A10
 obtain ⟨y104,hy104⟩:∃ y_:List (S35),y_=(([(⟨0,2000,3,450⟩:S35),(⟨0,2000,5,12500000⟩:S35)]:List (S35))):=⟨_,rfl⟩
 replace H:((some (([(⟨100,20⟩:S56),(⟨1000,50⟩:S56)]:List (S56)):List (S56))).bind fun y107=>(if 0 < (y104.length:Int) then ((bill_Amount.f k t101 ((rd_T35 y104 0).f0) ((rd_T35 y104 0).f1) ((rd_T35 y104 0).f2) ((rd_T35 y104 0).f3)).bind fun bt111=>((bill_Amount.f k t101 0 2000 1 62563).bind fun bt113=>((bill_Discount.f k y107 999).bind fun bt115=>((bill_Total.f k t101 y104 y107).bind fun bt117=>((bill_Text.f k t101 y104 y107).bind fun bt119=>(if bt111.1=11 then (if bt111.2=0 then (if bt113.1=501 then (if bt113.2=0 then (if bt115.1=19 then (if bt115.2=0 then (if bt117.1=475011 then (if bt117.2=0 then (if bt119.1.toList=([112,108,97,110,107,32,50,48,48,48,32,51,32,49,49,10,112,108,97,110,107,32,50,48,48,48,32,53,32,53,48,48,48,48,48,10,100,105,115,99,111,117,110,116,32,50,53,48,48,48,10,116,111,116,97,108,32,52,55,53,48,49,49,10]:List UInt8) then (some (bt119.2 == 0)) else (none)) else (none)) else (none)) else (none)) else (none)) else (none)) else (none)) else (none)) else (none))))))) else (none)))=some r:=by first|(rw [hy104];with_reducible exact H)|(have H2_:=(Option.bind_some _ _).symm.trans H;rw [hy104];with_reducible exact H2_)|(have H2_:=(Option.bind_some _ _).symm.trans H;with_reducible exact H2_)|with_reducible exact H|(rw [hy104];exact H)|exact H
 have Ny104:=Aside0.mk hy104
 clear hy104
 obtain ⟨y107,hy107⟩:∃ y_:List (S56),y_=(([(⟨100,20⟩:S56),(⟨1000,50⟩:S56)]:List (S56))):=⟨_,rfl⟩
 replace H:(if 0 < (y104.length:Int) then ((bill_Amount.f k t101 ((rd_T35 y104 0).f0) ((rd_T35 y104 0).f1) ((rd_T35 y104 0).f2) ((rd_T35 y104 0).f3)).bind fun bt111=>((bill_Amount.f k t101 0 2000 1 62563).bind fun bt113=>((bill_Discount.f k y107 999).bind fun bt115=>((bill_Total.f k t101 y104 y107).bind fun bt117=>((bill_Text.f k t101 y104 y107).bind fun bt119=>(if bt111.1=11 then (if bt111.2=0 then (if bt113.1=501 then (if bt113.2=0 then (if bt115.1=19 then (if bt115.2=0 then (if bt117.1=475011 then (if bt117.2=0 then (if bt119.1.toList=([112,108,97,110,107,32,50,48,48,48,32,51,32,49,49,10,112,108,97,110,107,32,50,48,48,48,32,53,32,53,48,48,48,48,48,10,100,105,115,99,111,117,110,116,32,50,53,48,48,48,10,116,111,116,97,108,32,52,55,53,48,49,49,10]:List UInt8) then (some (bt119.2 == 0)) else (none)) else (none)) else (none)) else (none)) else (none)) else (none)) else (none)) else (none)) else (none))))))) else (none))=some r:=by first|(rw [hy107];with_reducible exact H)|(have H2_:=(Option.bind_some _ _).symm.trans H;rw [hy107];with_reducible exact H2_)|(have H2_:=(Option.bind_some _ _).symm.trans H;with_reducible exact H2_)|with_reducible exact H|(rw [hy107];exact H)|exact H
 have Ny107:=Aside0.mk hy107
 clear hy107
 by_cases c2:0 < (y104.length:Int)
 ·rw [if_pos c2] at H
  have c2b0:decide (0 < (y104.length:Int))=true:=decide_eq_true c2
  have c2b1:decide (0 < y104.length)=true:=decide_eq_true (by omega)
  clear c2
  replace H:=Option.bind_eq_some_iff.mp H
  obtain ⟨⟨t111,t112⟩,A30,H⟩:=H
  replace H:((bill_Amount.f k t101 0 2000 1 62563).bind fun bt113=>((bill_Discount.f k y107 999).bind fun bt115=>((bill_Total.f k t101 y104 y107).bind fun bt117=>((bill_Text.f k t101 y104 y107).bind fun bt119=>(if t111=11 then (if t112=0 then (if bt113.1=501 then (if bt113.2=0 then (if bt115.1=19 then (if bt115.2=0 then (if bt117.1=475011 then (if bt117.2=0 then (if bt119.1.toList=([112,108,97,110,107,32,50,48,48,48,32,51,32,49,49,10,112,108,97,110,107,32,50,48,48,48,32,53,32,53,48,48,48,48,48,10,100,105,115,99,111,117,110,116,32,50,53,48,48,48,10,116,111,116,97,108,32,52,55,53,48,49,49,10]:List UInt8) then (some (bt119.2 == 0)) else (none)) else (none)) else (none)) else (none)) else (none)) else (none)) else (none)) else (none)) else (none))))))=some r:=H
  have A3:=Aside0.mk A30
  clear A30
  replace H:=Option.bind_eq_some_iff.mp H
  obtain ⟨⟨t113,t114⟩,A40,H⟩:=H
  replace H:((bill_Discount.f k y107 999).bind fun bt115=>((bill_Total.f k t101 y104 y107).bind fun bt117=>((bill_Text.f k t101 y104 y107).bind fun bt119=>(if t111=11 then (if t112=0 then (if t113=501 then (if t114=0 then (if bt115.1=19 then (if bt115.2=0 then (if bt117.1=475011 then (if bt117.2=0 then (if bt119.1.toList=([112,108,97,110,107,32,50,48,48,48,32,51,32,49,49,10,112,108,97,110,107,32,50,48,48,48,32,53,32,53,48,48,48,48,48,10,100,105,115,99,111,117,110,116,32,50,53,48,48,48,10,116,111,116,97,108,32,52,55,53,48,49,49,10]:List UInt8) then (some (bt119.2 == 0)) else (none)) else (none)) else (none)) else (none)) else (none)) else (none)) else (none)) else (none)) else (none)))))=some r:=H
  have A4:=Aside0.mk A40
  clear A40
  replace H:=Option.bind_eq_some_iff.mp H
  obtain ⟨⟨t115,t116⟩,A50,H⟩:=H
  replace H:((bill_Total.f k t101 y104 y107).bind fun bt117=>((bill_Text.f k t101 y104 y107).bind fun bt119=>(if t111=11 then (if t112=0 then (if t113=501 then (if t114=0 then (if t115=19 then (if t116=0 then (if bt117.1=475011 then (if bt117.2=0 then (if bt119.1.toList=([112,108,97,110,107,32,50,48,48,48,32,51,32,49,49,10,112,108,97,110,107,32,50,48,48,48,32,53,32,53,48,48,48,48,48,10,100,105,115,99,111,117,110,116,32,50,53,48,48,48,10,116,111,116,97,108,32,52,55,53,48,49,49,10]:List UInt8) then (some (bt119.2 == 0)) else (none)) else (none)) else (none)) else (none)) else (none)) else (none)) else (none)) else (none)) else (none))))=some r:=H
  have A5:=Aside0.mk A50
  clear A50
  replace H:=Option.bind_eq_some_iff.mp H
  obtain ⟨⟨t117,t118⟩,A60,H⟩:=H
  replace H:((bill_Text.f k t101 y104 y107).bind fun bt119=>(if t111=11 then (if t112=0 then (if t113=501 then (if t114=0 then (if t115=19 then (if t116=0 then (if t117=475011 then (if t118=0 then (if bt119.1.toList=([112,108,97,110,107,32,50,48,48,48,32,51,32,49,49,10,112,108,97,110,107,32,50,48,48,48,32,53,32,53,48,48,48,48,48,10,100,105,115,99,111,117,110,116,32,50,53,48,48,48,10,116,111,116,97,108,32,52,55,53,48,49,49,10]:List UInt8) then (some (bt119.2 == 0)) else (none)) else (none)) else (none)) else (none)) else (none)) else (none)) else (none)) else (none)) else (none)))=some r:=H
  have A6:=Aside0.mk A60
  clear A60
  replace H:=Option.bind_eq_some_iff.mp H
  obtain ⟨⟨t119,t120⟩,A70,H⟩:=H
  replace H:(if t111=11 then (if t112=0 then (if t113=501 then (if t114=0 then (if t115=19 then (if t116=0 then (if t117=475011 then (if t118=0 then (if t119.toList=([112,108,97,110,107,32,50,48,48,48,32,51,32,49,49,10,112,108,97,110,107,32,50,48,48,48,32,53,32,53,48,48,48,48,48,10,100,105,115,99,111,117,110,116,32,50,53,48,48,48,10,116,111,116,97,108,32,52,55,53,48,49,49,10]:List UInt8) then (some (t120 == 0)) else (none)) else (none)) else (none)) else (none)) else (none)) else (none)) else (none)) else (none)) else (none))=some r:=H
  have A7:=Aside0.mk A70
  clear A70
  by_cases c8:t111=11
  ·rw [if_pos c8] at H
   have c8b0:(t111 == 11)=true:=beq_iff_eq.mpr c8
   have c8b1:(t111 != 11)=false:=bne_eq_false_iff_eq.mpr c8
   clear c8
   by_cases c9:t112=0
   ·rw [if_pos c9] at H
    have c9b0:(t112 == 0)=true:=beq_iff_eq.mpr c9
    have c9b1:(t112 != 0)=false:=bne_eq_false_iff_eq.mpr c9
    clear c9
    by_cases c10:t113=501
    ·rw [if_pos c10] at H
     have c10b0:(t113 == 501)=true:=beq_iff_eq.mpr c10
     have c10b1:(t113 != 501)=false:=bne_eq_false_iff_eq.mpr c10
     clear c10
     by_cases c11:t114=0
     ·rw [if_pos c11] at H
      have c11b0:(t114 == 0)=true:=beq_iff_eq.mpr c11
      have c11b1:(t114 != 0)=false:=bne_eq_false_iff_eq.mpr c11
      clear c11
      by_cases c12:t115=19
      ·rw [if_pos c12] at H
       have c12b0:(t115 == 19)=true:=beq_iff_eq.mpr c12
       have c12b1:(t115 != 19)=false:=bne_eq_false_iff_eq.mpr c12
       clear c12
       by_cases c13:t116=0
       ·rw [if_pos c13] at H
        have c13b0:(t116 == 0)=true:=beq_iff_eq.mpr c13
        have c13b1:(t116 != 0)=false:=bne_eq_false_iff_eq.mpr c13
        clear c13
        by_cases c14:t117=475011
        ·rw [if_pos c14] at H
         have c14b0:(t117 == 475011)=true:=beq_iff_eq.mpr c14
         have c14b1:(t117 != 475011)=false:=bne_eq_false_iff_eq.mpr c14
         clear c14
         by_cases c15:t118=0
         ·rw [if_pos c15] at H
          have c15b0:(t118 == 0)=true:=beq_iff_eq.mpr c15
          have c15b1:(t118 != 0)=false:=bne_eq_false_iff_eq.mpr c15
          clear c15
          by_cases c16:t119.toList=([112,108,97,110,107,32,50,48,48,48,32,51,32,49,49,10,112,108,97,110,107,32,50,48,48,48,32,53,32,53,48,48,48,48,48,10,100,105,115,99,111,117,110,116,32,50,53,48,48,48,10,116,111,116,97,108,32,52,55,53,48,49,49,10]:List UInt8)
          ·rw [if_pos c16] at H
           have c16b0:(t119.toList == ([112,108,97,110,107,32,50,48,48,48,32,51,32,49,49,10,112,108,97,110,107,32,50,48,48,48,32,53,32,53,48,48,48,48,48,10,100,105,115,99,111,117,110,116,32,50,53,48,48,48,10,116,111,116,97,108,32,52,55,53,48,49,49,10]:List UInt8))=true:=beq_iff_eq.mpr c16
           have c16b1:(t119.toList != ([112,108,97,110,107,32,50,48,48,48,32,51,32,49,49,10,112,108,97,110,107,32,50,48,48,48,32,53,32,53,48,48,48,48,48,10,100,105,115,99,111,117,110,116,32,50,53,48,48,48,10,116,111,116,97,108,32,52,55,53,48,49,49,10]:List UInt8))=false:=bne_eq_false_iff_eq.mpr c16
           clear c16
           obtain rfl:=Option.some.inj H
           go_enter Tryd.func11,Tryd.ntmps11
           go_wp2_with (first|((with_reducible refine gate_callee (f:=23) rfl ?_);refine goesL_ (some 14) rfl rfl Tryd.func23 (by kernel_rfl) rfl #[] rfl (by (try simp only [List.map_toArray,List.map_cons,List.map_nil]);first|done|rfl|(simp only [List.length_drop,List.length_take];rfl)) ?_;(with_reducible refine (sawmilllaw50_plank.calls  t101 _ A1.out).mono ?_);rintro e w17 ⟨v102,rfl,ho0,hb⟩;refine ⟨_,rfl,?_⟩;have n0_:=Aside0.mk (Kd.N_lower (Kd.N_mono (ok':=fun k_=>True) ho0 (fun k_ hk_=>trivial)) (below_size (by repeat (first|(with_reducible first|exact HB.out|apply below_alloc|apply pw_below_drewN|apply below_drew1)|exact HB.out))));have n1_:=Aside0.mk (below_step (by repeat (first|(with_reducible first|exact HB.out|apply below_alloc|apply pw_below_drewN|apply below_drew1)|exact HB.out)) hb);clear HB;have HO103:=n0_;have HB:=n1_;clear n0_ n1_;(try clear hb);(try clear hb2);(try clear hk);(try clear hi);(try clear ho0))|((with_reducible refine gate_dst (N:=17) rfl ?_);refine Kd.R_lit k35 _ 35 ?hg (N:=17) ?hd (xs:=([(⟨0,2000,3,450⟩:S35),(⟨0,2000,5,12500000⟩:S35)]:List (S35))) (inner:=[.int .i64 0,.int .i64 2000,.int .i64 3,.int .i64 450,.int .i64 0,.int .i64 2000,.int .i64 5,.int .i64 12500000]) (ok:=fun _=>True) (okp:=fun _=>True) ?hr ?hp (fun _ hk=>hk) trivial (Below.refl _ _) (Nat.le_refl _) (by simp) ?_;(case hd=>rfl);(case hg=>rfl);(case hr=>first|(go_simp;done)|(go_simp;rfl));(case hp=>exact (Reps.c4 (show Kd.M k35 _ _ _ (⟨0,2000,3,450⟩:S35) [.int .i64 0,.int .i64 2000,.int .i64 3,.int .i64 450] from (k35_mkM _ _ _ (⟨0,2000,3,450⟩:S35) )) (Reps.c4 (show Kd.M k35 _ _ _ (⟨0,2000,5,12500000⟩:S35) [.int .i64 0,.int .i64 2000,.int .i64 5,.int .i64 12500000] from (k35_mkM _ _ _ (⟨0,2000,5,12500000⟩:S35) )) (Reps.none _ _))));intro v105 w18 ho19 hb hg_ hnew_;clear hg_ hnew_;(first|rw [← Ny104.out] at ho19|(simp only [Int.reduceToNat] at ho19;rw [← Ny104.out] at ho19));have n0_:=Aside0.mk (Kd.N_elder' (by (with_reducible repeat (first|apply Kd.N_alloc|apply Kd.N_drewN|apply Kd.N_drew));exact HO103.out) (Kd.R_base ho19) hb);have n1_:=Aside0.mk (Kd.R_lower ho19 (below_size (by repeat (first|(with_reducible first|exact HB.out|apply below_alloc|apply pw_below_drewN|apply below_drew1)|exact HB.out))));have n2_:=Aside0.mk (below_step (by repeat (first|(with_reducible first|exact HB.out|apply below_alloc|apply pw_below_drewN|apply below_drew1)|exact HB.out)) hb);clear HO103;clear HB;have HO103:=n0_;have HO106:=n1_;have HB:=n2_;clear n0_ n1_ n2_;clear hb ho19)|((with_reducible refine gate_dst (N:=20) rfl ?_);refine Kd.R_lit k56 _ 56 ?hg (N:=20) ?hd (xs:=([(⟨100,20⟩:S56),(⟨1000,50⟩:S56)]:List (S56))) (inner:=[.int .i64 100,.int .i64 20,.int .i64 1000,.int .i64 50]) (ok:=fun _=>True) (okp:=fun _=>True) ?hr ?hp (fun _ hk=>hk) trivial (Below.refl _ _) (Nat.le_refl _) (by simp) ?_;(case hd=>rfl);(case hg=>rfl);(case hr=>first|(go_simp;done)|(go_simp;rfl));(case hp=>exact (Reps.c2 (show Kd.M k56 _ _ _ (⟨100,20⟩:S56) [.int .i64 100,.int .i64 20] from (k56_mkM _ _ _ (⟨100,20⟩:S56) )) (Reps.c2 (show Kd.M k56 _ _ _ (⟨1000,50⟩:S56) [.int .i64 1000,.int .i64 50] from (k56_mkM _ _ _ (⟨1000,50⟩:S56) )) (Reps.none _ _))));intro v108 w20 ho21 hb hg_ hnew_;clear hg_ hnew_;(first|rw [← Ny107.out] at ho21|(simp only [Int.reduceToNat] at ho21;rw [← Ny107.out] at ho21));have n0_:=Aside0.mk (Kd.N_elder' (by (with_reducible repeat (first|apply Kd.N_alloc|apply Kd.N_drewN|apply Kd.N_drew));exact HO103.out) (Kd.R_base ho21) hb);have n1_:=Aside0.mk (Kd.R_below (by (with_reducible repeat (first|apply Kd.R_alloc|apply Kd.R_drewN|apply Kd.R_drew));exact HO106.out) hb);have n2_:=Aside0.mk (Kd.R_lower ho21 (below_size (by repeat (first|(with_reducible first|exact HB.out|apply below_alloc|apply pw_below_drewN|apply below_drew1)|exact HB.out))));have n3_:=Aside0.mk (below_step (by repeat (first|(with_reducible first|exact HB.out|apply below_alloc|apply pw_below_drewN|apply below_drew1)|exact HB.out)) hb);clear HO103;clear HO106;clear HB;have HO103:=n0_;have HO106:=n1_;have HO109:=n2_;have HB:=n3_;clear n0_ n1_ n2_ n3_;clear hb ho21;obtain ⟨Ao22,co22,eo22⟩:=Kd.R_slice HO106.out;subst eo22;have p110:0≤(0:Int):=(by omega);have q110:0 < (y104.length:Int):=of_decide_eq_true (by first|(with_reducible assumption)|assumption);obtain ⟨ad110,e110,hx110_0,hx110_1,hx110_2,hx110_3⟩:=at_T35 (Kd.R_reads' HO106.out).2.2 0 p110 q110;cases e110;have qi110:(0 < y104.length)=True:=eq_true (by omega);(try rw [show ((0:Int)).toNat=0 from rfl] at hx110_0);(try rw [show 0 * 4=0 from rfl] at hx110_0);(try rw [Addr.add_zero'] at hx110_0);(try rw [show ((0:Int)).toNat=0 from rfl] at hx110_1);(try rw [show 0 * 4=0 from rfl] at hx110_1);(try rw [Addr.add_zero'] at hx110_1);(try rw [show ((0:Int)).toNat=0 from rfl] at hx110_2);(try rw [show 0 * 4=0 from rfl] at hx110_2);(try rw [Addr.add_zero'] at hx110_2);(try rw [show ((0:Int)).toNat=0 from rfl] at hx110_3);(try rw [show 0 * 4=0 from rfl] at hx110_3);(try rw [Addr.add_zero'] at hx110_3);replace p110:=eq_true p110;replace q110:=eq_true q110;obtain ⟨Ao23,co23,eo23⟩:=Kd.N_slice HO103.out;subst eo23)|((with_reducible refine gate_callee (f:=14) rfl ?_);refine goesL_ (some 26) rfl rfl Tryd.func14 (by kernel_rfl) rfl #[.slice Ao23 t101.length co23,.agg #[.int .i64 ((rd_T35 y104 0).f0),.int .i64 ((rd_T35 y104 0).f1),.int .i64 ((rd_T35 y104 0).f2),.int .i64 ((rd_T35 y104 0).f3)]] rfl (by (try simp only [List.map_toArray,List.map_cons,List.map_nil]);first|done|rfl|(simp only [List.length_drop,List.length_take];rfl)) ?_;(with_reducible refine (bill_Amount.calls k _ _ t101 ((rd_T35 y104 0).f0) ((rd_T35 y104 0).f1) ((rd_T35 y104 0).f2) ((rd_T35 y104 0).f3) t111 t112 _ ?side1 ?side2 A3.out).mono ?_);(case side1=>repeat (first|exact (Kd.N_reads' HO103.out).2.2|(with_reducible refine Kd.C_alloc ?_ _)|(with_reducible refine Kd.C_drewN ?_ _)|(with_reducible refine Kd.C_drew ?_)));(case side2=>exact (Kd.N_reads' HO103.out).2.1);rintro e w24 ⟨rfl,hb⟩;refine ⟨_,rfl,?_⟩;have n0_:=Aside0.mk (Kd.N_below (by (with_reducible repeat (first|apply Kd.N_alloc|apply Kd.N_drewN|apply Kd.N_drew));exact HO103.out) hb);have n1_:=Aside0.mk (Kd.R_below (by (with_reducible repeat (first|apply Kd.R_alloc|apply Kd.R_drewN|apply Kd.R_drew));exact HO106.out) hb);have n2_:=Aside0.mk (Kd.R_below (by (with_reducible repeat (first|apply Kd.R_alloc|apply Kd.R_drewN|apply Kd.R_drew));exact HO109.out) hb);have n3_:=Aside0.mk (below_step (by repeat (first|(with_reducible first|exact HB.out|apply below_alloc|apply pw_below_drewN|apply below_drew1)|exact HB.out)) hb);clear HO103;clear HO106;clear HO109;clear HB;have HO103:=n0_;have HO106:=n1_;have HO109:=n2_;have HB:=n3_;clear n0_ n1_ n2_ n3_;(try clear hb);(try clear hb2);(try clear hk);(try clear hi))|((with_reducible refine gate_callee (f:=14) rfl ?_);refine goesL_ (some 32) rfl rfl Tryd.func14 (by kernel_rfl) rfl #[.slice Ao23 t101.length co23,.agg #[.int .i64 0,.int .i64 2000,.int .i64 1,.int .i64 62563]] rfl (by (try simp only [List.map_toArray,List.map_cons,List.map_nil]);first|done|rfl|(simp only [List.length_drop,List.length_take];rfl)) ?_;(with_reducible refine (bill_Amount.calls k _ _ t101 0 2000 1 62563 t113 t114 _ ?side1 ?side2 A4.out).mono ?_);(case side1=>repeat (first|exact (Kd.N_reads' HO103.out).2.2|(with_reducible refine Kd.C_alloc ?_ _)|(with_reducible refine Kd.C_drewN ?_ _)|(with_reducible refine Kd.C_drew ?_)));(case side2=>exact (Kd.N_reads' HO103.out).2.1);rintro e w25 ⟨rfl,hb⟩;refine ⟨_,rfl,?_⟩;have n0_:=Aside0.mk (Kd.N_below (by (with_reducible repeat (first|apply Kd.N_alloc|apply Kd.N_drewN|apply Kd.N_drew));exact HO103.out) hb);have n1_:=Aside0.mk (Kd.R_below (by (with_reducible repeat (first|apply Kd.R_alloc|apply Kd.R_drewN|apply Kd.R_drew));exact HO106.out) hb);have n2_:=Aside0.mk (Kd.R_below (by (with_reducible repeat (first|apply Kd.R_alloc|apply Kd.R_drewN|apply Kd.R_drew));exact HO109.out) hb);have n3_:=Aside0.mk (below_step (by repeat (first|(with_reducible first|exact HB.out|apply below_alloc|apply pw_below_drewN|apply below_drew1)|exact HB.out)) hb);clear HO103;clear HO106;clear HO109;clear HB;have HO103:=n0_;have HO106:=n1_;have HO109:=n2_;have HB:=n3_;clear n0_ n1_ n2_ n3_;(try clear hb);(try clear hb2);(try clear hk);(try clear hi);obtain ⟨Ao26,co26,eo26⟩:=Kd.R_slice HO109.out;subst eo26)|((with_reducible refine gate_callee (f:=16) rfl ?_);refine goesL_ (some 37) rfl rfl Tryd.func16 (by kernel_rfl) rfl #[.slice Ao26 y107.length co26,.int .i64 999] rfl (by (try simp only [List.map_toArray,List.map_cons,List.map_nil]);first|done|rfl|(simp only [List.length_drop,List.length_take];rfl)) ?_;(with_reducible refine (bill_Discount.calls k _ _ y107 999 t115 t116 _ ?side1 ?side2 A5.out).mono ?_);(case side1=>repeat (first|exact (Kd.R_reads' HO109.out).2.2|(with_reducible refine Kd.C_alloc ?_ _)|(with_reducible refine Kd.C_drewN ?_ _)|(with_reducible refine Kd.C_drew ?_)));(case side2=>exact (Kd.R_reads' HO109.out).2.1);rintro e w27 ⟨rfl,hb⟩;refine ⟨_,rfl,?_⟩;have n0_:=Aside0.mk (Kd.N_below (by (with_reducible repeat (first|apply Kd.N_alloc|apply Kd.N_drewN|apply Kd.N_drew));exact HO103.out) hb);have n1_:=Aside0.mk (Kd.R_below (by (with_reducible repeat (first|apply Kd.R_alloc|apply Kd.R_drewN|apply Kd.R_drew));exact HO106.out) hb);have n2_:=Aside0.mk (Kd.R_below (by (with_reducible repeat (first|apply Kd.R_alloc|apply Kd.R_drewN|apply Kd.R_drew));exact HO109.out) hb);have n3_:=Aside0.mk (below_step (by repeat (first|(with_reducible first|exact HB.out|apply below_alloc|apply pw_below_drewN|apply below_drew1)|exact HB.out)) hb);clear HO103;clear HO106;clear HO109;clear HB;have HO103:=n0_;have HO106:=n1_;have HO109:=n2_;have HB:=n3_;clear n0_ n1_ n2_ n3_;(try clear hb);(try clear hb2);(try clear hk);(try clear hi))|((with_reducible refine gate_callee (f:=12) rfl ?_);refine goesL_ (some 44) rfl rfl Tryd.func12 (by kernel_rfl) rfl #[.slice Ao23 t101.length co23,.slice (some ad110) y104.length co22,.slice Ao26 y107.length co26] rfl (by (try simp only [List.map_toArray,List.map_cons,List.map_nil]);first|done|rfl|(simp only [List.length_drop,List.length_take];rfl)) ?_;(with_reducible refine (bill_Total.calls k _ _ t101 _ _ y104 _ _ y107 t117 t118 _ ?side1 ?side2 ?side3 ?side4 ?side5 ?side6 A6.out).mono ?_);(case side1=>repeat (first|exact (Kd.N_reads' HO103.out).2.2|(with_reducible refine Kd.C_alloc ?_ _)|(with_reducible refine Kd.C_drewN ?_ _)|(with_reducible refine Kd.C_drew ?_)));(case side2=>exact (Kd.N_reads' HO103.out).2.1);(case side3=>repeat (first|exact (Kd.R_reads' HO106.out).2.2|(with_reducible refine Kd.C_alloc ?_ _)|(with_reducible refine Kd.C_drewN ?_ _)|(with_reducible refine Kd.C_drew ?_)));(case side4=>exact (Kd.R_reads' HO106.out).2.1);(case side5=>repeat (first|exact (Kd.R_reads' HO109.out).2.2|(with_reducible refine Kd.C_alloc ?_ _)|(with_reducible refine Kd.C_drewN ?_ _)|(with_reducible refine Kd.C_drew ?_)));(case side6=>exact (Kd.R_reads' HO109.out).2.1);rintro e w28 ⟨rfl,hb⟩;refine ⟨_,rfl,?_⟩;have n0_:=Aside0.mk (Kd.N_below (by (with_reducible repeat (first|apply Kd.N_alloc|apply Kd.N_drewN|apply Kd.N_drew));exact HO103.out) hb);have n1_:=Aside0.mk (Kd.R_below (by (with_reducible repeat (first|apply Kd.R_alloc|apply Kd.R_drewN|apply Kd.R_drew));exact HO106.out) hb);have n2_:=Aside0.mk (Kd.R_below (by (with_reducible repeat (first|apply Kd.R_alloc|apply Kd.R_drewN|apply Kd.R_drew));exact HO109.out) hb);have n3_:=Aside0.mk (below_step (by repeat (first|(with_reducible first|exact HB.out|apply below_alloc|apply pw_below_drewN|apply below_drew1)|exact HB.out)) hb);clear HO103;clear HO106;clear HO109;clear HB;have HO103:=n0_;have HO106:=n1_;have HO109:=n2_;have HB:=n3_;clear n0_ n1_ n2_ n3_;(try clear hb);(try clear hb2);(try clear hk);(try clear hi))|((with_reducible refine gate_callee (f:=13) rfl ?_);refine goesL_ (some 51) rfl rfl Tryd.func13 (by kernel_rfl) rfl #[.slice Ao23 t101.length co23,.slice (some ad110) y104.length co22,.slice Ao26 y107.length co26] rfl (by (try simp only [List.map_toArray,List.map_cons,List.map_nil]);first|done|rfl|(simp only [List.length_drop,List.length_take];rfl)) ?_;(with_reducible refine (bill_Text.calls k _ _ t101 _ _ y104 _ _ y107 t119 t120 _ ?side1 ?side2 ?side3 ?side4 ?side5 ?side6 A7.out (glob_at HG_ (by repeat (first|(with_reducible first|exact HB.out|apply below_alloc|apply pw_below_drewN|apply below_drew1|refine below_set ?_ (Aside0.out (by assumption)))|exact HB.out)))).mono ?_);(case side1=>repeat (first|exact (Kd.N_reads' HO103.out).2.2|(with_reducible refine Kd.C_alloc ?_ _)|(with_reducible refine Kd.C_drewN ?_ _)|(with_reducible refine Kd.C_drew ?_)));(case side2=>exact (Kd.N_reads' HO103.out).2.1);(case side3=>repeat (first|exact (Kd.R_reads' HO106.out).2.2|(with_reducible refine Kd.C_alloc ?_ _)|(with_reducible refine Kd.C_drewN ?_ _)|(with_reducible refine Kd.C_drew ?_)));(case side4=>exact (Kd.R_reads' HO106.out).2.1);(case side5=>repeat (first|exact (Kd.R_reads' HO109.out).2.2|(with_reducible refine Kd.C_alloc ?_ _)|(with_reducible refine Kd.C_drewN ?_ _)|(with_reducible refine Kd.C_drew ?_)));(case side6=>exact (Kd.R_reads' HO109.out).2.1);rintro e w29 ⟨rfl,hb⟩;refine ⟨_,rfl,?_⟩;have n0_:=Aside0.mk (Kd.N_below (by (with_reducible repeat (first|apply Kd.N_alloc|apply Kd.N_drewN|apply Kd.N_drew));exact HO103.out) hb);have n1_:=Aside0.mk (Kd.R_below (by (with_reducible repeat (first|apply Kd.R_alloc|apply Kd.R_drewN|apply Kd.R_drew));exact HO106.out) hb);have n2_:=Aside0.mk (Kd.R_below (by (with_reducible repeat (first|apply Kd.R_alloc|apply Kd.R_drewN|apply Kd.R_drew));exact HO109.out) hb);have n3_:=Aside0.mk (below_step (by repeat (first|(with_reducible first|exact HB.out|apply below_alloc|apply pw_below_drewN|apply below_drew1)|exact HB.out)) hb);clear HO103;clear HO106;clear HO109;clear HB;have HO103:=n0_;have HO106:=n1_;have HO109:=n2_;have HB:=n3_;clear n0_ n1_ n2_ n3_;(try clear hb);(try clear hb2);(try clear hk);(try clear hi)))
           go_ret
           exact ⟨by first|rfl|(simp [errW_none,errW_some]<;>rfl)|(simp [*,errW_none,errW_some]<;>rfl),by repeat (first|(with_reducible first|exact HB.out|apply below_alloc|apply pw_below_drewN|apply below_drew1)|exact HB.out)⟩
          ·rw [if_neg c16] at H
           exact absurd H (by simp)
         ·rw [if_neg c15] at H
          exact absurd H (by simp)
        ·rw [if_neg c14] at H
         exact absurd H (by simp)
       ·rw [if_neg c13] at H
        exact absurd H (by simp)
      ·rw [if_neg c12] at H
       exact absurd H (by simp)
     ·rw [if_neg c11] at H
      exact absurd H (by simp)
    ·rw [if_neg c10] at H
     exact absurd H (by simp)
   ·rw [if_neg c9] at H
    exact absurd H (by simp)
  ·rw [if_neg c8] at H
   exact absurd H (by simp)
 ·rw [if_neg c2] at H
  exact absurd H (by simp)
end Go.Proofs.YtojkjhaobjidlaaDoor.P
namespace Go.Proofs.YtojkjhaobjidlaaDoor.P
open Go.RowKit Go.Proofs.YtojkjhaobjidlaaDoorW.PrintWords
set_option maxRecDepth 1000000
theorem awake_200:sawmilllaw50_awake.f 200=some true:=by kernel_rfl
theorem awake_ge (k:Nat):sawmilllaw50_awake.f (200+k)=some true:=by
 induction k with
 | zero=>exact awake_200
 | succ k ih=>exact sawmilllaw50_awake.mono _ _ ih
theorem awake_at (k:Nat) (h:200≤k):sawmilllaw50_awake.f k=some true:=by
 obtain ⟨m,rfl⟩:∃ m,k=200+m:=⟨k - 200,by omega⟩
 exact awake_ge m
end Go.Proofs.YtojkjhaobjidlaaDoor.P
namespace Go.Proofs.YtojkjhaobjidlaaDoor.P
open Go.ChangeShapes Go.WideShapes Go.ChangeAt Go.RowKit
set_option linter.unusedVariables false
theorem own:ownKnob Tryd.prog.godebug=none:=by kernel_rfl
theorem laidOut:laidOutB Tryd.prog=true:=by kernel_rfl
def laid3 : List (String × DataW Unit) := [("math/bits.deBruijn32tab", Rows.laid_math_bits_deBruijn32tab), ("math/bits.deBruijn64tab", Rows.laid_math_bits_deBruijn64tab), ("internal/strconv.uint64pow10", Rows.laid_internal_strconv_uint64pow10)]
set_option maxRecDepth 100000 in
theorem door_met (os:Os) (args:Array Value):laidMetH Tryd.prog laid3 ((World.doorLaid Tryd.prog 38 os).forCall (fun _ _=>0) ⟨#[],args,[]⟩).memory :=
 laidMetH_of_parts3 (fuel:=8) (laidMet_of_run' 8 (by kernel_rfl) (by kernel_rfl)) (by kernel_rfl) (by kernel_rfl)
set_option maxRecDepth 100000 in
theorem glob_of {W:World} (h:laidMetH Tryd.prog laid3 W):Glob W:=by
 rw [MakeChecks.laidMetH_plain _ _ _ (by kernel_rfl)] at h
 have h3:=(h.tail).tail
 exact ⟨Lib.tabIs_of_head (t:=108) (e:=76) (n:=20) gTab (by kernel_rfl) (by kernel_rfl) (by kernel_rfl) (by kernel_rfl) (by kernel_rfl) h3⟩
end Go.Proofs.YtojkjhaobjidlaaDoor.P
namespace Go.Proofs.YtojkjhaobjidlaaDoor.P
open Go.ChangeShapes Go.WideShapes Go.ChangeAt Go.RowKit Go.WideElems Go.Deep Go.Proofs.YtojkjhaobjidlaaDoorW.PrintWords
set_option linter.unusedVariables false
def Opens {α:Type} (d:Kd α) (t:TypeId):Prop:=∀ (H:Type) (enc:TypeId × Value→H) (w:World) (fuel:Nat) (cs:List Value) (x:DataW H × List MemPlace),DataW.trod enc Tryd.prog w 0 (fun _=>true) true fuel t cs=some x→∃ a:α,d.K w a cs
theorem opens_int {t:TypeId} (ht:Tryd.prog.underlying t=some (.int .i64)):Opens (Kd.int .i64) t:=by
 intro H enc w fuel cs x h
 obtain ⟨n,hc,_⟩:=DataW.trod_int ht h
 exact ⟨n,hc⟩
theorem opens_str {t:TypeId} (ht:Tryd.prog.underlying t=some .string):Opens Kd.string t:=by
 intro H enc w fuel cs x h
 obtain ⟨s,hc,_⟩:=DataW.trod_string ht h
 exact ⟨s,hc⟩
theorem opens_slice {α:Type} {d:Kd α} {t e:TypeId} (ht:Tryd.prog.underlying t=some (.slice e)) (hd:Opens d e) (hc:Tryd.prog.cellsOf e=d.sz):Opens (Kd.slice e d) t:=by
 intro H enc w fuel cs x h
 rcases open_slice ht h with ⟨rfl,_⟩|⟨a,len,cap,m,n,D,Pl,rfl,_,hl,hm,em,_,hel⟩
 ·exact ⟨[],none,0,rfl,Nat.le_refl _,rfl,Nat.zero_le _,fun h=>absurd h (by simp)⟩
 ·have hlm:len≤m:=by rw [em];simpa using hl
  have hex:∀ i:Fin len,∃ y:α,∃ cs',w.cells? 0 (a.add (i.val * d.sz)) d.sz=some cs'∧d.K w y cs':=by
   intro i
   obtain ⟨cs',h1,h2⟩:=hel i.val (Nat.lt_of_lt_of_le i.isLt hlm)
   obtain ⟨y,hy⟩:=hd H enc w n cs' _ h2
   rw [hc] at h1
   exact ⟨y,cs',h1,hy⟩
  let f:Fin len→α:=fun i=>Classical.choose (hex i)
  have hf:∀ i:Fin len,∃ cs',w.cells? 0 (a.add (i.val * d.sz)) d.sz=some cs'∧d.K w (f i) cs':=fun i=>Classical.choose_spec (hex i)
  have hlen:(List.ofFn f).length=len:=List.length_ofFn
  refine ⟨List.ofFn f,some a,cap,by rw [hlen],by rw [hlen];exact hl,by rfl,by rw [hlen];exact Nat.le_trans (Nat.le_trans hl hm) (by decide +kernel),?_⟩
  intro _
  refine ⟨a,rfl,?_⟩
  intro j p hp
  have hj:j < len:=by
   rcases Nat.lt_or_ge j len with h|h
   ·exact h
   ·rw [List.getElem?_eq_none (by rw [hlen];exact h)] at hp
    cases hp
  rw [List.getElem?_eq_getElem (by rw [hlen];exact hj)] at hp
  obtain rfl:=Option.some.inj hp
  obtain ⟨cs',h1,h2⟩:=hf ⟨j,hj⟩
  refine ⟨cs',d.K_len h2,by rw [List.getElem_ofFn];exact h2,?_⟩
  intro i u hu
  obtain ⟨_,h3,h4⟩:=World.cells?_some h1
  have hi:i < d.sz:=by
   rcases Nat.lt_or_ge i d.sz with h|h
   ·exact h
   ·rw [List.getElem?_eq_none (by omega)] at hu
    cases hu
  rw [← Go.Deep.add_add]
  exact (h4 i hi).trans hu
theorem opens_fields {H:Type} {enc:TypeId × Value→H} {w:World} {fuel:Nat} {t:TypeId} {fs:Array Field} {cs:List Value} {x:DataW H × List MemPlace} (ht:Tryd.prog.underlying t=some (.struct fs)) (h:DataW.trod enc Tryd.prog w 0 (fun _=>true) true fuel t cs=some x) :
  cs.length=Tryd.prog.cellsOf t∧∀ (i:Nat) (ty off n:Nat) {α:Type} (d:Kd α),(fs[i]?).map (fun f=>(f.type,f.offset))=some (ty,off)→Tryd.prog.cellsOf ty=n→Opens d ty→∃ a:α,d.K w a ((cs.drop off).take n):=by
 obtain ⟨xs,n,rfl,_,hl,hxl,hel⟩:=DataW.trod_struct ht h
 refine ⟨hl,fun i ty off n' α d hf hn hd=>?_⟩
 obtain ⟨f,hf',he⟩:=Option.map_eq_some_iff.mp hf
 clear hf
 have hf:=hf'
 obtain ⟨rfl,rfl⟩:=Prod.mk.inj he
 subst hn
 have hi:i < fs.size:=by
  rcases Nat.lt_or_ge i fs.size with h|h
  ·exact h
  ·rw [Array.getElem?_eq_none h] at hf
   cases hf
 have:=hel i f hf
 rw [List.getElem?_eq_getElem (by omega)] at this
 exact hd H enc w n _ _ this
theorem opens_elems {H:Type} {enc:TypeId × Value→H} {w:World} {fuel n:Nat} {t e:TypeId} {cs:List Value} {x:DataW H × List MemPlace} {α:Type} {d:Kd α} (ht:Tryd.prog.underlying t=some (.array n e)) (hd:Opens d e) (h:DataW.trod enc Tryd.prog w 0 (fun _=>true) true fuel t cs=some x) :
  cs.length=Tryd.prog.cellsOf t∧∀ i,i < n→∃ a:α,d.K w a ((cs.drop (i * Tryd.prog.cellsOf e)).take (Tryd.prog.cellsOf e)):=by
 obtain ⟨xs,m,rfl,_,hl,hxl,hel⟩:=DataW.trod_array ht h
 refine ⟨hl,fun i hi=>?_⟩
 have:=hel i hi
 rw [List.getElem?_eq_getElem (by omega)] at this
 exact hd H enc w m _ _ this
theorem uInt:Tryd.prog.underlying 3=some (.int .i64):=by kernel_rfl
theorem uStr:Tryd.prog.underlying 9=some .string:=by kernel_rfl
theorem cInt:Tryd.prog.cellsOf 3=1:=by kernel_rfl
theorem cStr:Tryd.prog.cellsOf 9=1:=by kernel_rfl
theorem opens_prod:Opens k53 53:=by
 intro H enc w fuel cs x h
 obtain ⟨hl,hf⟩:=opens_fields Tryd.underlying53 h
 rw [show Tryd.prog.cellsOf 53=7 by kernel_rfl] at hl
 obtain ⟨a0,h0⟩:=hf 0 9 0 1 Kd.string (by kernel_rfl) cStr (opens_str uStr)
 obtain ⟨a1,h1⟩:=hf 1 3 1 1 (Kd.int .i64) (by kernel_rfl) cInt (opens_int uInt)
 obtain ⟨a2,h2⟩:=hf 2 3 2 1 (Kd.int .i64) (by kernel_rfl) cInt (opens_int uInt)
 obtain ⟨a3,h3⟩:=hf 3 3 3 1 (Kd.int .i64) (by kernel_rfl) cInt (opens_int uInt)
 obtain ⟨a4,h4⟩:=hf 4 3 4 1 (Kd.int .i64) (by kernel_rfl) cInt (opens_int uInt)
 obtain ⟨a5,h5⟩:=hf 5 51 5 1 (Kd.slice 3 (Kd.int .i64)) (by kernel_rfl) (by kernel_rfl) (opens_slice (by kernel_rfl) (opens_int uInt) (by kernel_rfl))
 obtain ⟨a6,h6⟩:=hf 6 51 6 1 (Kd.slice 3 (Kd.int .i64)) (by kernel_rfl) (by kernel_rfl) (opens_slice (by kernel_rfl) (opens_int uInt) (by kernel_rfl))
 match cs,hl with
 | [c0,c1,c2,c3,c4,c5,c6],_ =>
  obtain rfl:c0=.string a0:=(List.cons.inj h0).1
  obtain rfl:c1=.int .i64 a1:=(List.cons.inj h1).1
  obtain rfl:c2=.int .i64 a2:=(List.cons.inj h2).1
  obtain rfl:c3=.int .i64 a3:=(List.cons.inj h3).1
  obtain rfl:c4=.int .i64 a4:=(List.cons.inj h4).1
  obtain ⟨A5,d5,e5,hl5,hC5⟩:=h5
  obtain rfl:c5=.slice A5 a5.length d5:=(List.cons.inj e5).1
  obtain ⟨A6,d6,e6,hl6,hC6⟩:=h6
  obtain rfl:c6=.slice A6 a6.length d6:=(List.cons.inj e6).1
  exact ⟨⟨a0,a1,a2,a3,a4,a5,a6⟩,k53_mk w ⟨a0,a1,a2,a3,a4,a5,a6⟩ hl5 hC5 hl6 hC6⟩
theorem opens_item:Opens k35 35:=by
 intro H enc w fuel cs x h
 obtain ⟨hl,hf⟩:=opens_fields Tryd.underlying35 h
 rw [show Tryd.prog.cellsOf 35=4 by kernel_rfl] at hl
 obtain ⟨a0,h0⟩:=hf 0 3 0 1 (Kd.int .i64) (by kernel_rfl) cInt (opens_int uInt)
 obtain ⟨a1,h1⟩:=hf 1 3 1 1 (Kd.int .i64) (by kernel_rfl) cInt (opens_int uInt)
 obtain ⟨a2,h2⟩:=hf 2 3 2 1 (Kd.int .i64) (by kernel_rfl) cInt (opens_int uInt)
 obtain ⟨a3,h3⟩:=hf 3 3 3 1 (Kd.int .i64) (by kernel_rfl) cInt (opens_int uInt)
 match cs,hl with
 | [c0,c1,c2,c3],_ =>
  obtain rfl:c0=.int .i64 a0:=(List.cons.inj h0).1
  obtain rfl:c1=.int .i64 a1:=(List.cons.inj h1).1
  obtain rfl:c2=.int .i64 a2:=(List.cons.inj h2).1
  obtain rfl:c3=.int .i64 a3:=(List.cons.inj h3).1
  exact ⟨⟨a0,a1,a2,a3⟩,k35_mk w ⟨a0,a1,a2,a3⟩⟩
theorem opens_tier:Opens k56 56:=by
 intro H enc w fuel cs x h
 obtain ⟨hl,hf⟩:=opens_fields Tryd.underlying56 h
 rw [show Tryd.prog.cellsOf 56=2 by kernel_rfl] at hl
 obtain ⟨a0,h0⟩:=hf 0 3 0 1 (Kd.int .i64) (by kernel_rfl) cInt (opens_int uInt)
 obtain ⟨a1,h1⟩:=hf 1 3 1 1 (Kd.int .i64) (by kernel_rfl) cInt (opens_int uInt)
 match cs,hl with
 | [c0,c1],_ =>
  obtain rfl:c0=.int .i64 a0:=(List.cons.inj h0).1
  obtain rfl:c1=.int .i64 a1:=(List.cons.inj h1).1
  exact ⟨⟨a0,a1⟩,k56_mk w ⟨a0,a1⟩⟩
theorem opens_prods:Opens (Kd.slice 53 k53) 22:=opens_slice (by kernel_rfl) opens_prod (by kernel_rfl)
theorem opens_items:Opens (Kd.slice 35 k35) 23:=opens_slice (by kernel_rfl) opens_item (by kernel_rfl)
theorem opens_tiers:Opens (Kd.slice 56 k56) 24:=opens_slice (by kernel_rfl) opens_tier (by kernel_rfl)
theorem opens_inv (H:Type) (enc:TypeId × Value→H) (w:World) (fuel:Nat) (cs:List Value) (x:DataW H × List MemPlace) (h:DataW.trod enc Tryd.prog w 0 (fun _=>true) true fuel 26 cs=some x):∃ (a0:List S53) (A0:Option Addr) (c0:Nat) (_:a0.length≤c0) (_:Kd.C k53 w A0 a0.length a0) (a1:List S35) (A1:Option Addr) (c1:Nat) (_:a1.length≤c1) (_:Kd.C k35 w A1 a1.length a1) (a2:List S56) (A2:Option Addr) (c2:Nat) (_:a2.length≤c2) (_:Kd.C k56 w A2 a2.length a2),cs=[.slice A0 a0.length c0,.slice A1 a1.length c1,.slice A2 a2.length c2]:=by
 obtain ⟨hl,hf⟩:=opens_fields Tryd.underlying26 h
 rw [show Tryd.prog.cellsOf 26=3 by kernel_rfl] at hl
 obtain ⟨a0,h0⟩:=hf 0 22 0 1 (Kd.slice 53 k53) (by kernel_rfl) (by kernel_rfl) opens_prods
 obtain ⟨a1,h1⟩:=hf 1 23 1 1 (Kd.slice 35 k35) (by kernel_rfl) (by kernel_rfl) opens_items
 obtain ⟨a2,h2⟩:=hf 2 24 2 1 (Kd.slice 56 k56) (by kernel_rfl) (by kernel_rfl) opens_tiers
 match cs,hl with
 | [c0,c1,c2],_ =>
  obtain ⟨A0,d0,e0,l0,g0⟩:=h0
  obtain ⟨A1,d1,e1,l1,g1⟩:=h1
  obtain ⟨A2,d2,e2,l2,g2⟩:=h2
  obtain rfl:c0=.slice A0 a0.length d0:=(List.cons.inj e0).1
  obtain rfl:c1=.slice A1 a1.length d1:=(List.cons.inj e1).1
  obtain rfl:c2=.slice A2 a2.length d2:=(List.cons.inj e2).1
  exact ⟨a0,A0,d0,l0,g0,a1,A1,d1,l1,g1,a2,A2,d2,l2,g2,rfl⟩
end Go.Proofs.YtojkjhaobjidlaaDoor.P
namespace Go.Proofs.YtojkjhaobjidlaaDoor.P
open Go.ChangeShapes Go.WideShapes Go.ChangeAt Go.RowKit Go.Proofs.YtojkjhaobjidlaaDoorW.PrintWords
set_option linter.unusedVariables false
theorem okWide_array {P:Program} {w:World} {r:Reach} {base:Nat} {t e:TypeId} {n:Nat} {v:Value} (ht:P.underlying t=some (.array n e)) (h:Value.okWide P w r base t v):∃ cs,v=.agg cs∧cs.size=P.cellsOf t:=by
 simp only [Value.okWide,ht] at h
 obtain ⟨cs,h1,h2,_⟩:=h
 exact ⟨cs,h1,h2⟩
theorem ui2:Tryd.prog.underlying 49=some (.array 2 3):=by kernel_rfl
theorem opens_i2 (H:Type) (enc:TypeId × Value→H) (w:World) (fuel:Nat) (cs:List Value) (x:DataW H × List MemPlace) (h:DataW.trod enc Tryd.prog w 0 (fun _=>true) true fuel 49 cs=some x):∃ a b:Int,cs=[.int .i64 a,.int .i64 b]:=by
 obtain ⟨hl,hf⟩:=opens_elems ui2 (opens_int uInt) h
 rw [show Tryd.prog.cellsOf 49=2 by kernel_rfl] at hl
 rw [cInt] at hf
 obtain ⟨a0,h0⟩:=hf 0 (by decide)
 obtain ⟨a1,h1⟩:=hf 1 (by decide)
 match cs,hl with
 | [c0,c1],_ =>
  obtain rfl:c0=.int .i64 a0:=(List.cons.inj h0).1
  obtain rfl:c1=.int .i64 a1:=(List.cons.inj h1).1
  exact ⟨a0,a1,rfl⟩
end Go.Proofs.YtojkjhaobjidlaaDoor.P
