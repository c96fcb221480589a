/-
  Walks and plain laws on the way to the statement BillTotals; no conditions.
-/
import Derived.Test.YtojkjhaobjidlaaDoorMb2
import Derived.Test.YtojkjhaobjidlaaDoorQBillTotals1
import Derived.Test.YtojkjhaobjidlaaDoorMb3
namespace Go.Proofs.YtojkjhaobjidlaaDoor.P
open Go.RowKit Go.Proofs.YtojkjhaobjidlaaDoorW.PrintWords Go.Proofs.YtojkjhaobjidlaaDoorW.PrintLast Go.Proofs.YtojkjhaobjidlaaDoorW.PrintMore
attribute [local go_sem] qbG qbH qbO qbP qbC qbD qbI qbJ
attribute [local go_sem] qbB
set_option linter.unusedVariables false
set_option linter.unusedSimpArgs false
def sawmillref19_Price.l0:Nat→Int→Int→ByteArray→Int→Int→Int→Int→List Int→List Int→Option (Int × Bool)
 | 0,_,_,_,_,_,_,_,_,_=>none
 | k+1,x1,x6,x102000,x102001,x102002,x102003,x102004,x102005,x102006=>if x6 < (x102005.length:Int) then (if 0≤x6 then (if (rd x102005 x6)=x1 then (if x6 ≥ (x102006.length:Int) then (some (0,false)) else (if x6 < (x102006.length:Int) then (some (rd x102006 x6,true)) else (none))) else (sawmillref19_Price.l0 k x1 (wrap64 (x6+1)) x102000 x102001 x102002 x102003 x102004 x102005 x102006)) else (none)) else (some (0,false))
def sawmillref19_Price.f (k:Nat) (a0_0:ByteArray) (a0_1:Int) (a0_2:Int) (a0_3:Int) (a0_4:Int) (l0_5:List Int) (l0_6:List Int) (a1:Int):Option (Int × Bool):=sawmillref19_Price.l0 k a1 0 a0_0 a0_1 a0_2 a0_3 a0_4 l0_5 l0_6
set_option maxHeartbeats 8000000 in
set_option maxRecDepth 100000 in
theorem sawmillref19_Price.calls (k:Nat) (a0_0:ByteArray) (a0_1:Int) (a0_2:Int) (a0_3:Int) (a0_4:Int) (A0_5:Option Addr) (c0_5:Nat) (l0_5:List Int) (A0_6:Option Addr) (c0_6:Nat) (l0_6:List Int) (a1:Int) (r1:Int) (r2:Bool) (w:World) (hr0_5:Kd.C (Kd.int .i64) w A0_5 l0_5.length l0_5) (hc0_5:l0_5.length≤c0_5) (hr0_6:Kd.C (Kd.int .i64) w A0_6 l0_6.length l0_6) (hc0_6:l0_6.length≤c0_6) (h:sawmillref19_Price.f k a0_0 a0_1 a0_2 a0_3 a0_4 l0_5 l0_6 a1=some (r1,r2)) :
  Calls Tryd.prog 32 #[.agg #[.string a0_0,.int .i64 a0_1,.int .i64 a0_2,.int .i64 a0_3,.int .i64 a0_4,.slice A0_5 l0_5.length c0_5,.slice A0_6 l0_6.length c0_6],.int .i64 a1] w fun e w'=>e=.returned (.tuple #[.int .i64 r1,.bool r2])∧Below w.heap.size w w':=by
 have hu53:=Tryd.underlying53
 have HR0_5:=Aside0.mk hr0_5
 have HC0_5:=Aside0.mk hc0_5
 clear hr0_5 hc0_5
 have HR0_6:=Aside0.mk hr0_6
 have HC0_6:=Aside0.mk hc0_6
 clear hr0_6 hc0_6
 have HB:=Aside0.mk (Below.refl w.heap.size w)
 have H:(sawmillref19_Price.l0 k a1 0 a0_0 a0_1 a0_2 a0_3 a0_4 l0_5 l0_6)=some (r1,r2):=h
 clear h
 have H':=Aside0.mk H
 clear H
 go_enter Tryd.func32,Tryd.ntmps32
 go_wp2_with (first|((with_reducible refine qaV (N:=2) rfl ?_);refine qaT ?hg (N:=2) ?hd (cs:=#[.string a0_0,.int .i64 a0_1,.int .i64 a0_2,.int .i64 a0_3,.int .i64 a0_4,.slice A0_5 l0_5.length c0_5,.slice A0_6 l0_6.length c0_6]) (t:=53) ?hr ?_;(case hd=>rfl);(case hg=>rfl);(case hr=>first|(go_simp;done)|(go_simp;rfl));intro gb101 hg w3 hbox hb;have n0_:=Aside0.mk (qaH (by repeat (first|(with_reducible first|exact HB.out|apply qaD|apply qaB|apply qaE)|exact HB.out)) hb);have n1_:=Aside0.mk (hbox);have n2_:=Aside0.mk ((by rw [hg];exact (qaN (by repeat (first|(with_reducible first|exact HB.out|apply qaD|apply qaB|apply qaE)|exact HB.out))):w.heap.size≤gb101));have n3_:=Aside0.mk ((by rw [hg];exact (qaN (by repeat (first|(with_reducible first|exact HB.out|apply qaD|apply qaB|apply qaE)|exact HB.out))):w.heap.size≤gb101));clear HB;have HB:=n0_;have BK101:=n1_;have GW101:=n2_;have GE101:=n3_;clear n0_ n1_ n2_ n3_;clear hb hbox hg))
 go_loopg [6] k (fun kq v6 w'=>∃ (x6_1:Int),v6=.int .i64 x6_1∧Aside0 (sawmillref19_Price.l0 kq a1 x6_1 a0_0 a0_1 a0_2 a0_3 a0_4 l0_5 l0_6=some (r1,r2))∧Aside0 (kq≤k)∧Aside0 (w'.heap[gb101]?=some (.cells #[.string a0_0,.int .i64 a0_1,.int .i64 a0_2,.int .i64 a0_3,.int .i64 a0_4,(.slice A0_5 l0_5.length c0_5),(.slice A0_6 l0_6.length c0_6)] 53 (0,0)))∧Aside0 (Below w.heap.size w w'))
 case atStart=>exact ⟨(0),(by first|rfl|(simp;done)|(simp [*];done)),H',⟨Nat.le_refl _⟩,⟨by (with_reducible repeat (first|refine qaJ ?_ _|refine qaK ?_|refine qaI ?_ _));exact BK101.out⟩,⟨by repeat (first|(with_reducible first|exact HB.out|apply qaD|apply qaB|apply qaE|refine qaG ?_ GE101.out)|exact HB.out)⟩⟩
 case round =>
  clear H'
  try clear p2
  try clear c3
  obtain ⟨x6_1,rfl,HA,HK1,BK101,HB⟩:=hrel
  cases gk with
  | zero=>exact absurd HA.out (by simp [sawmillref19_Price.l0])
  | succ k1 =>
   have H:=HA.out
   clear HA
   simp only [sawmillref19_Price.l0] at H
   by_cases c4:x6_1 < (l0_5.length:Int)
   ·rw [if_pos c4] at H
    have c4b0:decide (x6_1 < (l0_5.length:Int))=true:=decide_eq_true c4
    clear c4
    by_cases c5:0≤x6_1
    ·rw [if_pos c5] at H
     have c5b0:decide (0≤x6_1)=true:=decide_eq_true c5
     clear c5
     by_cases c6:(rd l0_5 x6_1)=a1
     ·rw [if_pos c6] at H
      have c6b0:((rd l0_5 x6_1) == a1)=true:=beq_iff_eq.mpr c6
      have c6b1:((rd l0_5 x6_1) != a1)=false:=bne_eq_false_iff_eq.mpr c6
      clear c6
      by_cases c7:x6_1 ≥ (l0_6.length:Int)
      ·rw [if_pos c7] at H
       have c7b0:decide ((l0_6.length:Int)≤x6_1)=true:=decide_eq_true c7
       clear c7
       simp only [Option.some.injEq,Prod.mk.injEq] at H
       obtain ⟨rfl,rfl⟩:=H
       have hcz8_0:wr.cell? ⟨gb101,0,none⟩=some (.string a0_0):=(qaC BK101.out 0).trans rfl
       have hcz8_1:wr.cell? ⟨gb101,1,none⟩=some (.int .i64 a0_1):=(qaC BK101.out 1).trans rfl
       have hcz8_2:wr.cell? ⟨gb101,2,none⟩=some (.int .i64 a0_2):=(qaC BK101.out 2).trans rfl
       have hcz8_3:wr.cell? ⟨gb101,3,none⟩=some (.int .i64 a0_3):=(qaC BK101.out 3).trans rfl
       have hcz8_4:wr.cell? ⟨gb101,4,none⟩=some (.int .i64 a0_4):=(qaC BK101.out 4).trans rfl
       have hcz8_5:wr.cell? ⟨gb101,5,none⟩=some (.slice A0_5 l0_5.length c0_5):=(qaC BK101.out 5).trans rfl
       have hcz8_6:wr.cell? ⟨gb101,6,none⟩=some (.slice A0_6 l0_6.length c0_6):=(qaC BK101.out 6).trans rfl
       have hfz8_0:=qaA BK101.out 0
       have hfz8_1:=qaA BK101.out 1
       have hfz8_2:=qaA BK101.out 2
       have hfz8_3:=qaA BK101.out 3
       have hfz8_4:=qaA BK101.out 4
       have hfz8_5:=qaA BK101.out 5
       have hfz8_6:=qaA BK101.out 6
       have p102:0≤(x6_1:Int):=of_decide_eq_true (by first|(with_reducible assumption)|assumption)
       have q102:x6_1 < (l0_5.length:Int):=of_decide_eq_true (by first|(with_reducible assumption)|assumption)
       obtain ⟨ad102,e102,hx102_0⟩:=Kd.at_int HR0_5.out x6_1 p102 q102
       cases e102
       replace hx102_0:=(HB.out.cell (World.block_lt_of_cell? w _ hx102_0)).trans hx102_0
       replace p102:=eq_true p102
       replace q102:=eq_true q102
       go_wp2
       go_ret2
       exact ⟨by first|rfl|(simp [qaL,qaM]<;>rfl)|(simp [*,qaL,qaM]<;>rfl),by repeat (first|(with_reducible first|exact HB.out|apply qaD|apply qaB|apply qaE|refine qaG ?_ GE101.out)|exact HB.out)⟩
      ·rw [if_neg c7] at H
       have c7b0:decide ((l0_6.length:Int)≤x6_1)=false:=decide_eq_false c7
       clear c7
       by_cases c9:x6_1 < (l0_6.length:Int)
       ·rw [if_pos c9] at H
        have c9b0:decide (x6_1 < (l0_6.length:Int))=true:=decide_eq_true c9
        clear c9
        simp only [Option.some.injEq,Prod.mk.injEq] at H
        obtain ⟨rfl,rfl⟩:=H
        have hcz10_0:wr.cell? ⟨gb101,0,none⟩=some (.string a0_0):=(qaC BK101.out 0).trans rfl
        have hcz10_1:wr.cell? ⟨gb101,1,none⟩=some (.int .i64 a0_1):=(qaC BK101.out 1).trans rfl
        have hcz10_2:wr.cell? ⟨gb101,2,none⟩=some (.int .i64 a0_2):=(qaC BK101.out 2).trans rfl
        have hcz10_3:wr.cell? ⟨gb101,3,none⟩=some (.int .i64 a0_3):=(qaC BK101.out 3).trans rfl
        have hcz10_4:wr.cell? ⟨gb101,4,none⟩=some (.int .i64 a0_4):=(qaC BK101.out 4).trans rfl
        have hcz10_5:wr.cell? ⟨gb101,5,none⟩=some (.slice A0_5 l0_5.length c0_5):=(qaC BK101.out 5).trans rfl
        have hcz10_6:wr.cell? ⟨gb101,6,none⟩=some (.slice A0_6 l0_6.length c0_6):=(qaC BK101.out 6).trans rfl
        have hfz10_0:=qaA BK101.out 0
        have hfz10_1:=qaA BK101.out 1
        have hfz10_2:=qaA BK101.out 2
        have hfz10_3:=qaA BK101.out 3
        have hfz10_4:=qaA BK101.out 4
        have hfz10_5:=qaA BK101.out 5
        have hfz10_6:=qaA BK101.out 6
        have p102:0≤(x6_1:Int):=of_decide_eq_true (by first|(with_reducible assumption)|assumption)
        have q102:x6_1 < (l0_5.length:Int):=of_decide_eq_true (by first|(with_reducible assumption)|assumption)
        obtain ⟨ad102,e102,hx102_0⟩:=Kd.at_int HR0_5.out x6_1 p102 q102
        cases e102
        replace hx102_0:=(HB.out.cell (World.block_lt_of_cell? w _ hx102_0)).trans hx102_0
        replace p102:=eq_true p102
        replace q102:=eq_true q102
        have p103:0≤(x6_1:Int):=of_decide_eq_true (by first|(with_reducible assumption)|assumption)
        have q103:x6_1 < (l0_6.length:Int):=of_decide_eq_true (by first|(with_reducible assumption)|assumption)
        obtain ⟨ad103,e103,hx103_0⟩:=Kd.at_int HR0_6.out x6_1 p103 q103
        cases e103
        replace hx103_0:=(HB.out.cell (World.block_lt_of_cell? w _ hx103_0)).trans hx103_0
        replace p103:=eq_true p103
        replace q103:=eq_true q103
        go_wp2
        go_ret2
        exact ⟨by first|rfl|(simp [qaL,qaM]<;>rfl)|(simp [*,qaL,qaM]<;>rfl),by repeat (first|(with_reducible first|exact HB.out|apply qaD|apply qaB|apply qaE|refine qaG ?_ GE101.out)|exact HB.out)⟩
       ·rw [if_neg c9] at H
        exact absurd H (by simp)
     ·rw [if_neg c6] at H
      have c6b0:((rd l0_5 x6_1) == a1)=false:=beq_eq_false_iff_ne.mpr c6
      have c6b1:((rd l0_5 x6_1) != a1)=true:=bne_iff_ne.mpr c6
      have H':=Aside0.mk H
      clear H
      have hcz11_0:wr.cell? ⟨gb101,0,none⟩=some (.string a0_0):=(qaC BK101.out 0).trans rfl
      have hcz11_1:wr.cell? ⟨gb101,1,none⟩=some (.int .i64 a0_1):=(qaC BK101.out 1).trans rfl
      have hcz11_2:wr.cell? ⟨gb101,2,none⟩=some (.int .i64 a0_2):=(qaC BK101.out 2).trans rfl
      have hcz11_3:wr.cell? ⟨gb101,3,none⟩=some (.int .i64 a0_3):=(qaC BK101.out 3).trans rfl
      have hcz11_4:wr.cell? ⟨gb101,4,none⟩=some (.int .i64 a0_4):=(qaC BK101.out 4).trans rfl
      have hcz11_5:wr.cell? ⟨gb101,5,none⟩=some (.slice A0_5 l0_5.length c0_5):=(qaC BK101.out 5).trans rfl
      have hcz11_6:wr.cell? ⟨gb101,6,none⟩=some (.slice A0_6 l0_6.length c0_6):=(qaC BK101.out 6).trans rfl
      have hfz11_0:=qaA BK101.out 0
      have hfz11_1:=qaA BK101.out 1
      have hfz11_2:=qaA BK101.out 2
      have hfz11_3:=qaA BK101.out 3
      have hfz11_4:=qaA BK101.out 4
      have hfz11_5:=qaA BK101.out 5
      have hfz11_6:=qaA BK101.out 6
      have p102:0≤(x6_1:Int):=of_decide_eq_true (by first|(with_reducible assumption)|assumption)
      have q102:x6_1 < (l0_5.length:Int):=of_decide_eq_true (by first|(with_reducible assumption)|assumption)
      obtain ⟨ad102,e102,hx102_0⟩:=Kd.at_int HR0_5.out x6_1 p102 q102
      cases e102
      replace hx102_0:=(HB.out.cell (World.block_lt_of_cell? w _ hx102_0)).trans hx102_0
      replace p102:=eq_true p102
      replace q102:=eq_true q102
      go_wp2
      go_roundg k1
      case measure=>have:=HK1.out;omega
      case rel=>exact ⟨(wrap64 (x6_1+1)),(by first|rfl|(simp;done)|(simp [*];done)),H',⟨by have:=HK1.out;omega⟩,⟨by (with_reducible repeat (first|refine qaJ ?_ _|refine qaK ?_|refine qaI ?_ _));exact BK101.out⟩,⟨by repeat (first|(with_reducible first|exact HB.out|apply qaD|apply qaB|apply qaE|refine qaG ?_ GE101.out)|exact HB.out)⟩⟩
    ·rw [if_neg c5] at H
     exact absurd H (by simp)
   ·rw [if_neg c4] at H
    have c4b0:decide (x6_1 < (l0_5.length:Int))=false:=decide_eq_false c4
    clear c4
    simp only [Option.some.injEq,Prod.mk.injEq] at H
    obtain ⟨rfl,rfl⟩:=H
    have hcz12_0:wr.cell? ⟨gb101,0,none⟩=some (.string a0_0):=(qaC BK101.out 0).trans rfl
    have hcz12_1:wr.cell? ⟨gb101,1,none⟩=some (.int .i64 a0_1):=(qaC BK101.out 1).trans rfl
    have hcz12_2:wr.cell? ⟨gb101,2,none⟩=some (.int .i64 a0_2):=(qaC BK101.out 2).trans rfl
    have hcz12_3:wr.cell? ⟨gb101,3,none⟩=some (.int .i64 a0_3):=(qaC BK101.out 3).trans rfl
    have hcz12_4:wr.cell? ⟨gb101,4,none⟩=some (.int .i64 a0_4):=(qaC BK101.out 4).trans rfl
    have hcz12_5:wr.cell? ⟨gb101,5,none⟩=some (.slice A0_5 l0_5.length c0_5):=(qaC BK101.out 5).trans rfl
    have hcz12_6:wr.cell? ⟨gb101,6,none⟩=some (.slice A0_6 l0_6.length c0_6):=(qaC BK101.out 6).trans rfl
    have hfz12_0:=qaA BK101.out 0
    have hfz12_1:=qaA BK101.out 1
    have hfz12_2:=qaA BK101.out 2
    have hfz12_3:=qaA BK101.out 3
    have hfz12_4:=qaA BK101.out 4
    have hfz12_5:=qaA BK101.out 5
    have hfz12_6:=qaA BK101.out 6
    go_wp2
    go_ret2
    exact ⟨by first|rfl|(simp [qaL,qaM]<;>rfl)|(simp [*,qaL,qaM]<;>rfl),by repeat (first|(with_reducible first|exact HB.out|apply qaD|apply qaB|apply qaE|refine qaG ?_ GE101.out)|exact HB.out)⟩
end Go.Proofs.YtojkjhaobjidlaaDoor.P
namespace Go.Proofs.YtojkjhaobjidlaaDoor.P
open Go.RowKit Go.Proofs.YtojkjhaobjidlaaDoorW.PrintWords Go.Proofs.YtojkjhaobjidlaaDoorW.PrintLast Go.Proofs.YtojkjhaobjidlaaDoorW.PrintMore
attribute [local go_sem] qbG qbH qbO qbP qbC qbD qbI qbJ
attribute [local go_sem] qbB
set_option linter.unusedVariables false
set_option linter.unusedSimpArgs false
def sawmillref19_Volume.f (a0_0:ByteArray) (a0_1:Int) (a0_2:Int) (a0_3:Int) (a0_4:Int) (l0_5:List Int) (l0_6:List Int) (a1:Int):Option (Int):=(sawmillref19_sized.f a0_0 a0_1 a0_2 a0_3 a0_4 l0_5 l0_6).bind fun t102=>(if t102=true then (if a1 < 1 then (some 0) else (if a1 > 20000 then (some 0) else (some (wrap64 ((wrap64 (a0_1 * a0_2)) * a1))))) else (some 0))
set_option maxHeartbeats 8000000 in
set_option maxRecDepth 100000 in
theorem sawmillref19_Volume.calls (a0_0:ByteArray) (a0_1:Int) (a0_2:Int) (a0_3:Int) (a0_4:Int) (A0_5:Option Addr) (c0_5:Nat) (l0_5:List Int) (A0_6:Option Addr) (c0_6:Nat) (l0_6:List Int) (a1:Int) (r:Int) (w:World) (hr0_5:Kd.C (Kd.int .i64) w A0_5 l0_5.length l0_5) (hc0_5:l0_5.length≤c0_5) (hr0_6:Kd.C (Kd.int .i64) w A0_6 l0_6.length l0_6) (hc0_6:l0_6.length≤c0_6) (h:sawmillref19_Volume.f a0_0 a0_1 a0_2 a0_3 a0_4 l0_5 l0_6 a1=some r) :
  Calls Tryd.prog 33 #[.agg #[.string a0_0,.int .i64 a0_1,.int .i64 a0_2,.int .i64 a0_3,.int .i64 a0_4,.slice A0_5 l0_5.length c0_5,.slice A0_6 l0_6.length c0_6],.int .i64 a1] w fun e w'=>e=.returned (.int .i64 r)∧Below w.heap.size w w':=by
 have hu53:=Tryd.underlying53
 have HR0_5:=Aside0.mk hr0_5
 have HC0_5:=Aside0.mk hc0_5
 clear hr0_5 hc0_5
 have HR0_6:=Aside0.mk hr0_6
 have HC0_6:=Aside0.mk hc0_6
 clear hr0_6 hc0_6
 have HB:=Aside0.mk (Below.refl w.heap.size w)
 have H:((sawmillref19_sized.f a0_0 a0_1 a0_2 a0_3 a0_4 l0_5 l0_6).bind fun t102=>(if t102=true then (if a1 < 1 then (some 0) else (if a1 > 20000 then (some 0) else (some (wrap64 ((wrap64 (a0_1 * a0_2)) * a1))))) else (some 0)))=some r:=h
 clear h
 replace H:=Option.bind_eq_some_iff.mp H
 obtain ⟨t102,A30,H⟩:=H
 replace H:(if t102=true then (if a1 < 1 then (some 0) else (if a1 > 20000 then (some 0) else (some (wrap64 ((wrap64 (a0_1 * a0_2)) * a1))))) else (some 0))=some r:=H
 have A3:=Aside0.mk A30
 clear A30
 by_cases c4:t102=true
 ·subst c4
  have H1:(if a1 < 1 then (some 0) else (if a1 > 20000 then (some 0) else (some (wrap64 ((wrap64 (a0_1 * a0_2)) * a1)))))=some r:=by rw [if_pos rfl] at H;exact H
  clear H
  have H:=H1
  clear H1
  by_cases c5:a1 < 1
  ·rw [if_pos c5] at H
   have c5b0:decide (a1 < 1)=true:=decide_eq_true c5
   clear c5
   obtain rfl:=Option.some.inj H
   go_enter Tryd.func33,Tryd.ntmps33
   go_wp2_with (first|((with_reducible refine qaV (N:=2) rfl ?_);refine qaT ?hg (N:=2) ?hd (cs:=#[.string a0_0,.int .i64 a0_1,.int .i64 a0_2,.int .i64 a0_3,.int .i64 a0_4,.slice A0_5 l0_5.length c0_5,.slice A0_6 l0_6.length c0_6]) (t:=53) ?hr ?_;(case hd=>rfl);(case hg=>rfl);(case hr=>first|(go_simp;done)|(go_simp;rfl));intro gb101 hg w6 hbox hb;have n0_:=Aside0.mk (qaH (by repeat (first|(with_reducible first|exact HB.out|apply qaD|apply qaB|apply qaE)|exact HB.out)) hb);have n1_:=Aside0.mk (hbox);have n2_:=Aside0.mk ((by rw [hg];exact (qaN (by repeat (first|(with_reducible first|exact HB.out|apply qaD|apply qaB|apply qaE)|exact HB.out))):w.heap.size≤gb101));have n3_:=Aside0.mk ((by rw [hg];exact (qaN (by repeat (first|(with_reducible first|exact HB.out|apply qaD|apply qaB|apply qaE)|exact HB.out))):w.heap.size≤gb101));clear HB;have HB:=n0_;have BK101:=n1_;have GW101:=n2_;have GE101:=n3_;clear n0_ n1_ n2_ n3_;clear hb hbox hg;have hcz7_0:w6.cell? ⟨gb101,0,none⟩=some (.string a0_0):=(qaC BK101.out 0).trans rfl;have hcz7_1:w6.cell? ⟨gb101,1,none⟩=some (.int .i64 a0_1):=(qaC BK101.out 1).trans rfl;have hcz7_2:w6.cell? ⟨gb101,2,none⟩=some (.int .i64 a0_2):=(qaC BK101.out 2).trans rfl;have hcz7_3:w6.cell? ⟨gb101,3,none⟩=some (.int .i64 a0_3):=(qaC BK101.out 3).trans rfl;have hcz7_4:w6.cell? ⟨gb101,4,none⟩=some (.int .i64 a0_4):=(qaC BK101.out 4).trans rfl;have hcz7_5:w6.cell? ⟨gb101,5,none⟩=some (.slice A0_5 l0_5.length c0_5):=(qaC BK101.out 5).trans rfl;have hcz7_6:w6.cell? ⟨gb101,6,none⟩=some (.slice A0_6 l0_6.length c0_6):=(qaC BK101.out 6).trans rfl;have hfz7_0:=qaA BK101.out 0;have hfz7_1:=qaA BK101.out 1;have hfz7_2:=qaA BK101.out 2;have hfz7_3:=qaA BK101.out 3;have hfz7_4:=qaA BK101.out 4;have hfz7_5:=qaA BK101.out 5;have hfz7_6:=qaA BK101.out 6)|((with_reducible refine qaS (f:=48) rfl ?_);refine qbE (some 6) rfl rfl Tryd.func48 (by kernel_rfl) rfl #[.agg #[.string a0_0,.int .i64 a0_1,.int .i64 a0_2,.int .i64 a0_3,.int .i64 a0_4,.slice A0_5 l0_5.length c0_5,.slice A0_6 l0_6.length c0_6]] rfl (by (try simp only [List.map_toArray,List.map_cons,List.map_nil]);first|done|rfl|(simp only [List.length_drop,List.length_take];rfl)) ?_;(with_reducible refine (sawmillref19_sized.calls a0_0 a0_1 a0_2 a0_3 a0_4 _ _ l0_5 _ _ l0_6 true _ ?side1 ?side2 ?side3 ?side4 A3.out).mono ?_);(case side1=>repeat (first|exact (Kd.C_below HR0_5.out HB.out)|(with_reducible refine Kd.C_alloc ?_ _)|(with_reducible refine Kd.C_drewN ?_ _)|(with_reducible refine Kd.C_drew ?_)));(case side2=>exact HC0_5.out);(case side3=>repeat (first|exact (Kd.C_below HR0_6.out HB.out)|(with_reducible refine Kd.C_alloc ?_ _)|(with_reducible refine Kd.C_drewN ?_ _)|(with_reducible refine Kd.C_drew ?_)));(case side4=>exact HC0_6.out);rintro e w8 ⟨rfl,hb⟩;refine ⟨_,rfl,?_⟩;have n0_:=Aside0.mk (qaQ (g:=gb101) (o:=.cells #[.string a0_0,.int .i64 a0_1,.int .i64 a0_2,.int .i64 a0_3,.int .i64 a0_4,.slice A0_5 l0_5.length c0_5,.slice A0_6 l0_6.length c0_6] 53 (0,0)) (by (with_reducible repeat (first|refine qaJ ?_ _|refine qaK ?_|refine qaI ?_ _));exact BK101.out) hb);have n1_:=Aside0.mk (qaH (by repeat (first|(with_reducible first|exact HB.out|apply qaD|apply qaB|apply qaE|refine qaG ?_ GE101.out)|exact HB.out)) hb);clear BK101;clear HB;have BK101:=n0_;have HB:=n1_;clear n0_ n1_;(try clear hb);(try clear hb2);(try clear hk);(try clear hi)))
   go_ret
   exact ⟨by first|rfl|(simp [qaL,qaM]<;>rfl)|(simp [*,qaL,qaM]<;>rfl),by repeat (first|(with_reducible first|exact HB.out|apply qaD|apply qaB|apply qaE|refine qaG ?_ GE101.out)|exact HB.out)⟩
  ·rw [if_neg c5] at H
   have c5b0:decide (a1 < 1)=false:=decide_eq_false c5
   clear c5
   by_cases c9:a1 > 20000
   ·rw [if_pos c9] at H
    have c9b0:decide (20000 < a1)=true:=decide_eq_true c9
    clear c9
    obtain rfl:=Option.some.inj H
    go_enter Tryd.func33,Tryd.ntmps33
    go_wp2_with (first|((with_reducible refine qaV (N:=2) rfl ?_);refine qaT ?hg (N:=2) ?hd (cs:=#[.string a0_0,.int .i64 a0_1,.int .i64 a0_2,.int .i64 a0_3,.int .i64 a0_4,.slice A0_5 l0_5.length c0_5,.slice A0_6 l0_6.length c0_6]) (t:=53) ?hr ?_;(case hd=>rfl);(case hg=>rfl);(case hr=>first|(go_simp;done)|(go_simp;rfl));intro gb101 hg w10 hbox hb;have n0_:=Aside0.mk (qaH (by repeat (first|(with_reducible first|exact HB.out|apply qaD|apply qaB|apply qaE)|exact HB.out)) hb);have n1_:=Aside0.mk (hbox);have n2_:=Aside0.mk ((by rw [hg];exact (qaN (by repeat (first|(with_reducible first|exact HB.out|apply qaD|apply qaB|apply qaE)|exact HB.out))):w.heap.size≤gb101));have n3_:=Aside0.mk ((by rw [hg];exact (qaN (by repeat (first|(with_reducible first|exact HB.out|apply qaD|apply qaB|apply qaE)|exact HB.out))):w.heap.size≤gb101));clear HB;have HB:=n0_;have BK101:=n1_;have GW101:=n2_;have GE101:=n3_;clear n0_ n1_ n2_ n3_;clear hb hbox hg;have hcz11_0:w10.cell? ⟨gb101,0,none⟩=some (.string a0_0):=(qaC BK101.out 0).trans rfl;have hcz11_1:w10.cell? ⟨gb101,1,none⟩=some (.int .i64 a0_1):=(qaC BK101.out 1).trans rfl;have hcz11_2:w10.cell? ⟨gb101,2,none⟩=some (.int .i64 a0_2):=(qaC BK101.out 2).trans rfl;have hcz11_3:w10.cell? ⟨gb101,3,none⟩=some (.int .i64 a0_3):=(qaC BK101.out 3).trans rfl;have hcz11_4:w10.cell? ⟨gb101,4,none⟩=some (.int .i64 a0_4):=(qaC BK101.out 4).trans rfl;have hcz11_5:w10.cell? ⟨gb101,5,none⟩=some (.slice A0_5 l0_5.length c0_5):=(qaC BK101.out 5).trans rfl;have hcz11_6:w10.cell? ⟨gb101,6,none⟩=some (.slice A0_6 l0_6.length c0_6):=(qaC BK101.out 6).trans rfl;have hfz11_0:=qaA BK101.out 0;have hfz11_1:=qaA BK101.out 1;have hfz11_2:=qaA BK101.out 2;have hfz11_3:=qaA BK101.out 3;have hfz11_4:=qaA BK101.out 4;have hfz11_5:=qaA BK101.out 5;have hfz11_6:=qaA BK101.out 6)|((with_reducible refine qaS (f:=48) rfl ?_);refine qbE (some 6) rfl rfl Tryd.func48 (by kernel_rfl) rfl #[.agg #[.string a0_0,.int .i64 a0_1,.int .i64 a0_2,.int .i64 a0_3,.int .i64 a0_4,.slice A0_5 l0_5.length c0_5,.slice A0_6 l0_6.length c0_6]] rfl (by (try simp only [List.map_toArray,List.map_cons,List.map_nil]);first|done|rfl|(simp only [List.length_drop,List.length_take];rfl)) ?_;(with_reducible refine (sawmillref19_sized.calls a0_0 a0_1 a0_2 a0_3 a0_4 _ _ l0_5 _ _ l0_6 true _ ?side1 ?side2 ?side3 ?side4 A3.out).mono ?_);(case side1=>repeat (first|exact (Kd.C_below HR0_5.out HB.out)|(with_reducible refine Kd.C_alloc ?_ _)|(with_reducible refine Kd.C_drewN ?_ _)|(with_reducible refine Kd.C_drew ?_)));(case side2=>exact HC0_5.out);(case side3=>repeat (first|exact (Kd.C_below HR0_6.out HB.out)|(with_reducible refine Kd.C_alloc ?_ _)|(with_reducible refine Kd.C_drewN ?_ _)|(with_reducible refine Kd.C_drew ?_)));(case side4=>exact HC0_6.out);rintro e w12 ⟨rfl,hb⟩;refine ⟨_,rfl,?_⟩;have n0_:=Aside0.mk (qaQ (g:=gb101) (o:=.cells #[.string a0_0,.int .i64 a0_1,.int .i64 a0_2,.int .i64 a0_3,.int .i64 a0_4,.slice A0_5 l0_5.length c0_5,.slice A0_6 l0_6.length c0_6] 53 (0,0)) (by (with_reducible repeat (first|refine qaJ ?_ _|refine qaK ?_|refine qaI ?_ _));exact BK101.out) hb);have n1_:=Aside0.mk (qaH (by repeat (first|(with_reducible first|exact HB.out|apply qaD|apply qaB|apply qaE|refine qaG ?_ GE101.out)|exact HB.out)) hb);clear BK101;clear HB;have BK101:=n0_;have HB:=n1_;clear n0_ n1_;(try clear hb);(try clear hb2);(try clear hk);(try clear hi)))
    go_ret
    exact ⟨by first|rfl|(simp [qaL,qaM]<;>rfl)|(simp [*,qaL,qaM]<;>rfl),by repeat (first|(with_reducible first|exact HB.out|apply qaD|apply qaB|apply qaE|refine qaG ?_ GE101.out)|exact HB.out)⟩
   ·rw [if_neg c9] at H
    have c9b0:decide (20000 < a1)=false:=decide_eq_false c9
    clear c9
    obtain rfl:=Option.some.inj H
    go_enter Tryd.func33,Tryd.ntmps33
    go_wp2_with (first|((with_reducible refine qaV (N:=2) rfl ?_);refine qaT ?hg (N:=2) ?hd (cs:=#[.string a0_0,.int .i64 a0_1,.int .i64 a0_2,.int .i64 a0_3,.int .i64 a0_4,.slice A0_5 l0_5.length c0_5,.slice A0_6 l0_6.length c0_6]) (t:=53) ?hr ?_;(case hd=>rfl);(case hg=>rfl);(case hr=>first|(go_simp;done)|(go_simp;rfl));intro gb101 hg w13 hbox hb;have n0_:=Aside0.mk (qaH (by repeat (first|(with_reducible first|exact HB.out|apply qaD|apply qaB|apply qaE)|exact HB.out)) hb);have n1_:=Aside0.mk (hbox);have n2_:=Aside0.mk ((by rw [hg];exact (qaN (by repeat (first|(with_reducible first|exact HB.out|apply qaD|apply qaB|apply qaE)|exact HB.out))):w.heap.size≤gb101));have n3_:=Aside0.mk ((by rw [hg];exact (qaN (by repeat (first|(with_reducible first|exact HB.out|apply qaD|apply qaB|apply qaE)|exact HB.out))):w.heap.size≤gb101));clear HB;have HB:=n0_;have BK101:=n1_;have GW101:=n2_;have GE101:=n3_;clear n0_ n1_ n2_ n3_;clear hb hbox hg;have hcz14_0:w13.cell? ⟨gb101,0,none⟩=some (.string a0_0):=(qaC BK101.out 0).trans rfl;have hcz14_1:w13.cell? ⟨gb101,1,none⟩=some (.int .i64 a0_1):=(qaC BK101.out 1).trans rfl;have hcz14_2:w13.cell? ⟨gb101,2,none⟩=some (.int .i64 a0_2):=(qaC BK101.out 2).trans rfl;have hcz14_3:w13.cell? ⟨gb101,3,none⟩=some (.int .i64 a0_3):=(qaC BK101.out 3).trans rfl;have hcz14_4:w13.cell? ⟨gb101,4,none⟩=some (.int .i64 a0_4):=(qaC BK101.out 4).trans rfl;have hcz14_5:w13.cell? ⟨gb101,5,none⟩=some (.slice A0_5 l0_5.length c0_5):=(qaC BK101.out 5).trans rfl;have hcz14_6:w13.cell? ⟨gb101,6,none⟩=some (.slice A0_6 l0_6.length c0_6):=(qaC BK101.out 6).trans rfl;have hfz14_0:=qaA BK101.out 0;have hfz14_1:=qaA BK101.out 1;have hfz14_2:=qaA BK101.out 2;have hfz14_3:=qaA BK101.out 3;have hfz14_4:=qaA BK101.out 4;have hfz14_5:=qaA BK101.out 5;have hfz14_6:=qaA BK101.out 6)|((with_reducible refine qaS (f:=48) rfl ?_);refine qbE (some 6) rfl rfl Tryd.func48 (by kernel_rfl) rfl #[.agg #[.string a0_0,.int .i64 a0_1,.int .i64 a0_2,.int .i64 a0_3,.int .i64 a0_4,.slice A0_5 l0_5.length c0_5,.slice A0_6 l0_6.length c0_6]] rfl (by (try simp only [List.map_toArray,List.map_cons,List.map_nil]);first|done|rfl|(simp only [List.length_drop,List.length_take];rfl)) ?_;(with_reducible refine (sawmillref19_sized.calls a0_0 a0_1 a0_2 a0_3 a0_4 _ _ l0_5 _ _ l0_6 true _ ?side1 ?side2 ?side3 ?side4 A3.out).mono ?_);(case side1=>repeat (first|exact (Kd.C_below HR0_5.out HB.out)|(with_reducible refine Kd.C_alloc ?_ _)|(with_reducible refine Kd.C_drewN ?_ _)|(with_reducible refine Kd.C_drew ?_)));(case side2=>exact HC0_5.out);(case side3=>repeat (first|exact (Kd.C_below HR0_6.out HB.out)|(with_reducible refine Kd.C_alloc ?_ _)|(with_reducible refine Kd.C_drewN ?_ _)|(with_reducible refine Kd.C_drew ?_)));(case side4=>exact HC0_6.out);rintro e w15 ⟨rfl,hb⟩;refine ⟨_,rfl,?_⟩;have n0_:=Aside0.mk (qaQ (g:=gb101) (o:=.cells #[.string a0_0,.int .i64 a0_1,.int .i64 a0_2,.int .i64 a0_3,.int .i64 a0_4,.slice A0_5 l0_5.length c0_5,.slice A0_6 l0_6.length c0_6] 53 (0,0)) (by (with_reducible repeat (first|refine qaJ ?_ _|refine qaK ?_|refine qaI ?_ _));exact BK101.out) hb);have n1_:=Aside0.mk (qaH (by repeat (first|(with_reducible first|exact HB.out|apply qaD|apply qaB|apply qaE|refine qaG ?_ GE101.out)|exact HB.out)) hb);clear BK101;clear HB;have BK101:=n0_;have HB:=n1_;clear n0_ n1_;(try clear hb);(try clear hb2);(try clear hk);(try clear hi);have hcz16_0:w15.cell? ⟨gb101,0,none⟩=some (.string a0_0):=(qaC BK101.out 0).trans rfl;have hcz16_1:w15.cell? ⟨gb101,1,none⟩=some (.int .i64 a0_1):=(qaC BK101.out 1).trans rfl;have hcz16_2:w15.cell? ⟨gb101,2,none⟩=some (.int .i64 a0_2):=(qaC BK101.out 2).trans rfl;have hcz16_3:w15.cell? ⟨gb101,3,none⟩=some (.int .i64 a0_3):=(qaC BK101.out 3).trans rfl;have hcz16_4:w15.cell? ⟨gb101,4,none⟩=some (.int .i64 a0_4):=(qaC BK101.out 4).trans rfl;have hcz16_5:w15.cell? ⟨gb101,5,none⟩=some (.slice A0_5 l0_5.length c0_5):=(qaC BK101.out 5).trans rfl;have hcz16_6:w15.cell? ⟨gb101,6,none⟩=some (.slice A0_6 l0_6.length c0_6):=(qaC BK101.out 6).trans rfl;have hfz16_0:=qaA BK101.out 0;have hfz16_1:=qaA BK101.out 1;have hfz16_2:=qaA BK101.out 2;have hfz16_3:=qaA BK101.out 3;have hfz16_4:=qaA BK101.out 4;have hfz16_5:=qaA BK101.out 5;have hfz16_6:=qaA BK101.out 6))
    go_ret
    exact ⟨by first|rfl|(simp [qaL,qaM]<;>rfl)|(simp [*,qaL,qaM]<;>rfl),by repeat (first|(with_reducible first|exact HB.out|apply qaD|apply qaB|apply qaE|refine qaG ?_ GE101.out)|exact HB.out)⟩
 ·replace c4:=Bool.eq_false_iff.mpr c4
  subst c4
  have H1:(some 0)=some r:=by rw [if_neg (show ¬ (false=true) by decide)] at H;exact H
  clear H
  have H:=H1
  clear H1
  obtain rfl:=Option.some.inj H
  go_enter Tryd.func33,Tryd.ntmps33
  go_wp2_with (first|((with_reducible refine qaV (N:=2) rfl ?_);refine qaT ?hg (N:=2) ?hd (cs:=#[.string a0_0,.int .i64 a0_1,.int .i64 a0_2,.int .i64 a0_3,.int .i64 a0_4,.slice A0_5 l0_5.length c0_5,.slice A0_6 l0_6.length c0_6]) (t:=53) ?hr ?_;(case hd=>rfl);(case hg=>rfl);(case hr=>first|(go_simp;done)|(go_simp;rfl));intro gb101 hg w17 hbox hb;have n0_:=Aside0.mk (qaH (by repeat (first|(with_reducible first|exact HB.out|apply qaD|apply qaB|apply qaE)|exact HB.out)) hb);have n1_:=Aside0.mk (hbox);have n2_:=Aside0.mk ((by rw [hg];exact (qaN (by repeat (first|(with_reducible first|exact HB.out|apply qaD|apply qaB|apply qaE)|exact HB.out))):w.heap.size≤gb101));have n3_:=Aside0.mk ((by rw [hg];exact (qaN (by repeat (first|(with_reducible first|exact HB.out|apply qaD|apply qaB|apply qaE)|exact HB.out))):w.heap.size≤gb101));clear HB;have HB:=n0_;have BK101:=n1_;have GW101:=n2_;have GE101:=n3_;clear n0_ n1_ n2_ n3_;clear hb hbox hg;have hcz18_0:w17.cell? ⟨gb101,0,none⟩=some (.string a0_0):=(qaC BK101.out 0).trans rfl;have hcz18_1:w17.cell? ⟨gb101,1,none⟩=some (.int .i64 a0_1):=(qaC BK101.out 1).trans rfl;have hcz18_2:w17.cell? ⟨gb101,2,none⟩=some (.int .i64 a0_2):=(qaC BK101.out 2).trans rfl;have hcz18_3:w17.cell? ⟨gb101,3,none⟩=some (.int .i64 a0_3):=(qaC BK101.out 3).trans rfl;have hcz18_4:w17.cell? ⟨gb101,4,none⟩=some (.int .i64 a0_4):=(qaC BK101.out 4).trans rfl;have hcz18_5:w17.cell? ⟨gb101,5,none⟩=some (.slice A0_5 l0_5.length c0_5):=(qaC BK101.out 5).trans rfl;have hcz18_6:w17.cell? ⟨gb101,6,none⟩=some (.slice A0_6 l0_6.length c0_6):=(qaC BK101.out 6).trans rfl;have hfz18_0:=qaA BK101.out 0;have hfz18_1:=qaA BK101.out 1;have hfz18_2:=qaA BK101.out 2;have hfz18_3:=qaA BK101.out 3;have hfz18_4:=qaA BK101.out 4;have hfz18_5:=qaA BK101.out 5;have hfz18_6:=qaA BK101.out 6)|((with_reducible refine qaS (f:=48) rfl ?_);refine qbE (some 6) rfl rfl Tryd.func48 (by kernel_rfl) rfl #[.agg #[.string a0_0,.int .i64 a0_1,.int .i64 a0_2,.int .i64 a0_3,.int .i64 a0_4,.slice A0_5 l0_5.length c0_5,.slice A0_6 l0_6.length c0_6]] rfl (by (try simp only [List.map_toArray,List.map_cons,List.map_nil]);first|done|rfl|(simp only [List.length_drop,List.length_take];rfl)) ?_;(with_reducible refine (sawmillref19_sized.calls a0_0 a0_1 a0_2 a0_3 a0_4 _ _ l0_5 _ _ l0_6 false _ ?side1 ?side2 ?side3 ?side4 A3.out).mono ?_);(case side1=>repeat (first|exact (Kd.C_below HR0_5.out HB.out)|(with_reducible refine Kd.C_alloc ?_ _)|(with_reducible refine Kd.C_drewN ?_ _)|(with_reducible refine Kd.C_drew ?_)));(case side2=>exact HC0_5.out);(case side3=>repeat (first|exact (Kd.C_below HR0_6.out HB.out)|(with_reducible refine Kd.C_alloc ?_ _)|(with_reducible refine Kd.C_drewN ?_ _)|(with_reducible refine Kd.C_drew ?_)));(case side4=>exact HC0_6.out);rintro e w19 ⟨rfl,hb⟩;refine ⟨_,rfl,?_⟩;have n0_:=Aside0.mk (qaQ (g:=gb101) (o:=.cells #[.string a0_0,.int .i64 a0_1,.int .i64 a0_2,.int .i64 a0_3,.int .i64 a0_4,.slice A0_5 l0_5.length c0_5,.slice A0_6 l0_6.length c0_6] 53 (0,0)) (by (with_reducible repeat (first|refine qaJ ?_ _|refine qaK ?_|refine qaI ?_ _));exact BK101.out) hb);have n1_:=Aside0.mk (qaH (by repeat (first|(with_reducible first|exact HB.out|apply qaD|apply qaB|apply qaE|refine qaG ?_ GE101.out)|exact HB.out)) hb);clear BK101;clear HB;have BK101:=n0_;have HB:=n1_;clear n0_ n1_;(try clear hb);(try clear hb2);(try clear hk);(try clear hi)))
  go_ret
  exact ⟨by first|rfl|(simp [qaL,qaM]<;>rfl)|(simp [*,qaL,qaM]<;>rfl),by repeat (first|(with_reducible first|exact HB.out|apply qaD|apply qaB|apply qaE|refine qaG ?_ GE101.out)|exact HB.out)⟩
end Go.Proofs.YtojkjhaobjidlaaDoor.P
namespace Go.Proofs.YtojkjhaobjidlaaDoor.P
open Go.RowKit Go.Proofs.YtojkjhaobjidlaaDoorW.PrintWords Go.Proofs.YtojkjhaobjidlaaDoorW.PrintLast Go.Proofs.YtojkjhaobjidlaaDoorW.PrintMore
attribute [local go_sem] qbG qbH qbO qbP qbC qbD qbI qbJ
attribute [local go_sem] qbB
set_option linter.unusedVariables false
set_option linter.unusedSimpArgs false
def sawmillref50_Amount.j0:Nat→List (S53)→Bool→Int→Int→Int→Int→Option (Int × Int)
 | 0,_,_,_,_,_,_=>none
 | k+1,x0,x24,x102000,x102001,x102002,x102003=>if x24=true then (some (0,8)) else (if 0≤x102000 then (if x102000 < (x0.length:Int) then ((sawmillref19_Price.f k ((qaF x0 x102000).f0) ((qaF x0 x102000).f1) ((qaF x0 x102000).f2) ((qaF x0 x102000).f3) ((qaF x0 x102000).f4) ((qaF x0 x102000).f5) ((qaF x0 x102000).f6) x102001).bind fun bt104=>(if bt104.2=true then (if x102002 < 0 then (some (0,9)) else (if x102002 > 200 then (some (0,9)) else (if x102003 < 0 then (some (0,9)) else (if x102003 > 1000000000 then (some (0,9)) else ((sawmillref19_Volume.f ((qaF x0 x102000).f0) ((qaF x0 x102000).f1) ((qaF x0 x102000).f2) ((qaF x0 x102000).f3) ((qaF x0 x102000).f4) ((qaF x0 x102000).f5) ((qaF x0 x102000).f6) x102001).bind fun t107=>(some (wrap64 ((wrap64 ((wrap64 (Int.tdiv (wrap64 (t107 * x102002)) 1000000000)) * x102003))+(wrap64 (Int.tdiv (wrap64 ((wrap64 ((Int.tmod (wrap64 (t107 * x102002)) 1000000000) * x102003))+500000000)) 1000000000))),0))))))) else (some (0,20)))) else (none)) else (none))
def sawmillref50_Amount.f (k:Nat) (l0:List (S53)) (a1_0:Int) (a1_1:Int) (a1_2:Int) (a1_3:Int):Option (Int × Int):=(sawmillref19_Check.f k l0).bind fun t102=>(if t102=0 then (if a1_0 < 0 then (sawmillref50_Amount.j0 k l0 true a1_0 a1_1 a1_2 a1_3) else (sawmillref50_Amount.j0 k l0 (decide (a1_0 ≥ (l0.length:Int))) a1_0 a1_1 a1_2 a1_3)) else (some (0,t102)))
def sawmillref50_Amount.T6:Bool × List (List Nat × List Nat):=(true,[([],[]),([],[]),([1],[1]),([0,2],[0,2]),([3],[3]),([],[]),([5],[5]),([4,6],[4,6]),([7],[7]),([8],[8]),([8],[8]),([9,7,0,1,2,3,4,5,6,7,8,9],[9]),([10,11,0,1,2,3,4,5,6,7,8,9,10,11],[10])])
def sawmillref50_Amount.B6:List Nat:=[0,0,2,7,15,0,32,127,255,511,511,1023,4095]
theorem sawmillref50_Amount.tab6:rtab .any (opsOf Tryd.f15 6)=sawmillref50_Amount.T6:=by kernel_rfl
theorem sawmillref50_Amount.bits6:waitsOk sawmillref50_Amount.T6.2 sawmillref50_Amount.B6=true:=by kernel_rfl
def sawmillref50_Amount.T11:Bool × List (List Nat × List Nat):=(true,[([],[]),([],[]),([1],[1]),([0,2],[0,2]),([3],[3]),([],[]),([5],[5]),([4,6],[4,6]),([],[]),([8],[8]),([7,9],[7,9]),([10,7,0,1,2,3,4,5,6,7,8,9,10],[10])])
def sawmillref50_Amount.B11:List Nat:=[0,0,2,7,15,0,32,127,0,256,1023,2047]
theorem sawmillref50_Amount.tab11:rtab .any (opsOf Tryd.f15 11)=sawmillref50_Amount.T11:=by kernel_rfl
theorem sawmillref50_Amount.bits11:waitsOk sawmillref50_Amount.T11.2 sawmillref50_Amount.B11=true:=by kernel_rfl
set_option maxHeartbeats 8000000 in
set_option maxRecDepth 100000 in
theorem sawmillref50_Amount.calls (k:Nat) (A0:Option Addr) (c0:Nat) (l0:List (S53)) (a1_0:Int) (a1_1:Int) (a1_2:Int) (a1_3:Int) (r1:Int) (r2:Int) (w:World) (hr0:Kd.C k53 w A0 l0.length l0) (hc0:l0.length≤c0) (h:sawmillref50_Amount.f k l0 a1_0 a1_1 a1_2 a1_3=some (r1,r2)) :
  Calls Tryd.prog 15 #[.slice A0 l0.length c0,.agg #[.int .i64 a1_0,.int .i64 a1_1,.int .i64 a1_2,.int .i64 a1_3]] w fun e w'=>e=.returned (.tuple #[.int .i64 r1,.int .i64 r2])∧Below w.heap.size w w':=by
 have hu38:=Tryd.underlying38
 have hu53:=Tryd.underlying53
 have HR0:=Aside0.mk hr0
 have HC0:=Aside0.mk hc0
 clear hr0 hc0
 have HB:=Aside0.mk (Below.refl w.heap.size w)
 have H:((sawmillref19_Check.f k l0).bind fun t102=>(if t102=0 then (if a1_0 < 0 then (sawmillref50_Amount.j0 k l0 true a1_0 a1_1 a1_2 a1_3) else (sawmillref50_Amount.j0 k l0 (decide (a1_0 ≥ (l0.length:Int))) a1_0 a1_1 a1_2 a1_3)) else (some (0,t102))))=some (r1,r2):=h
 clear h
 replace H:=Option.bind_eq_some_iff.mp H
 obtain ⟨t102,A30,H⟩:=H
 replace H:(if t102=0 then (if a1_0 < 0 then (sawmillref50_Amount.j0 k l0 true a1_0 a1_1 a1_2 a1_3) else (sawmillref50_Amount.j0 k l0 (decide (a1_0 ≥ (l0.length:Int))) a1_0 a1_1 a1_2 a1_3)) else (some (0,t102)))=some (r1,r2):=H
 have A3:=Aside0.mk A30
 clear A30
 by_cases c4:t102=0
 ·rw [if_pos c4] at H
  have c4b0:(t102 == 0)=true:=beq_iff_eq.mpr c4
  have c4b1:(t102 != 0)=false:=bne_eq_false_iff_eq.mpr c4
  clear c4
  have HC5:=Aside0.mk H
  clear H
  go_enter Tryd.func15,Tryd.ntmps15
  go_upto_region 4 with (first|((with_reducible refine qaV (N:=3) rfl ?_);(try (refine gate_guard (by rfl) ?_;dsimp only));refine qaT ?hg (N:=3) ?hd (cs:=#[.int .i64 a1_0,.int .i64 a1_1,.int .i64 a1_2,.int .i64 a1_3]) (t:=38) ?hr ?_;(case hd=>rfl);(case hg=>rfl);(case hr=>first|(go_simp;done)|(go_simp;rfl));intro gb101 hg w6 hbox hb;have n0_:=Aside0.mk (qaH (by repeat (first|(with_reducible first|exact HB.out|apply qaD|apply qaB|apply qaE)|exact HB.out)) hb);have n1_:=Aside0.mk (hbox);have n2_:=Aside0.mk ((by rw [hg];exact (qaN (by repeat (first|(with_reducible first|exact HB.out|apply qaD|apply qaB|apply qaE)|exact HB.out))):w.heap.size≤gb101));have n3_:=Aside0.mk ((by rw [hg];exact (qaN (by repeat (first|(with_reducible first|exact HB.out|apply qaD|apply qaB|apply qaE)|exact HB.out))):w.heap.size≤gb101));clear HB;have HB:=n0_;have BK101:=n1_;have GW101:=n2_;have GE101:=n3_;clear n0_ n1_ n2_ n3_;clear hb hbox hg)|((with_reducible refine qaS (f:=31) rfl ?_);refine qbE (some 11) rfl rfl Tryd.func31 (by kernel_rfl) rfl #[.slice A0 l0.length c0] rfl (by (try simp only [List.map_toArray,List.map_cons,List.map_nil]);first|done|rfl|(simp only [List.length_drop,List.length_take];rfl)) ?_;(with_reducible refine (sawmillref19_Check.calls k _ _ l0 t102 _ ?side1 ?side2 A3.out).mono ?_);(case side1=>repeat (first|exact (Kd.C_below HR0.out HB.out)|(with_reducible refine Kd.C_alloc ?_ _)|(with_reducible refine Kd.C_drewN ?_ _)|(with_reducible refine Kd.C_drew ?_)));(case side2=>exact HC0.out);rintro e w7 ⟨rfl,hb⟩;refine ⟨_,rfl,?_⟩;have n0_:=Aside0.mk (qaQ (g:=gb101) (o:=.cells #[.int .i64 a1_0,.int .i64 a1_1,.int .i64 a1_2,.int .i64 a1_3] 38 (0,0)) (by (with_reducible repeat (first|refine qaJ ?_ _|refine qaK ?_|refine qaI ?_ _));exact BK101.out) hb);have n1_:=Aside0.mk (qaH (by repeat (first|(with_reducible first|exact HB.out|apply qaD|apply qaB|apply qaE|refine qaG ?_ GE101.out)|exact HB.out)) hb);clear BK101;clear HB;have BK101:=n0_;have HB:=n1_;clear n0_ n1_;(try clear hb);(try clear hb2);(try clear hk);(try clear hi)))
  (try simp only [Act.put,List.setIfInBounds_toArray,List.set_cons_zero,List.set_cons_succ])
  go_cut [24] (fun v24 wc=>∃ (kq:Nat) (x24_4:Bool),v24=.bool x24_4∧Aside0 (sawmillref50_Amount.j0 kq l0 x24_4 a1_0 a1_1 a1_2 a1_3=some (r1,r2))∧Aside0 (kq≤k)∧Aside0 (wc.heap[gb101]?=some (.cells #[.int .i64 a1_0,.int .i64 a1_1,.int .i64 a1_2,.int .i64 a1_3] 38 (0,0)))∧Aside0 (Below w.heap.size w wc))
  case first =>
   have H:=HC5.out
   clear HC5
   by_cases c8:a1_0 < 0
   ·rw [if_pos c8] at H
    have c8b0:decide (a1_0 < 0)=true:=decide_eq_true c8
    clear c8
    (first|rw [c8b0]|(simp only [qaO,qaP];rw [c8b0])|skip)
    have H':=Aside0.mk H
    clear H
    have hcz9_0:w7.cell? ⟨gb101,0,none⟩=some (.int .i64 a1_0):=(qaC BK101.out 0).trans rfl
    have hcz9_1:w7.cell? ⟨gb101,1,none⟩=some (.int .i64 a1_1):=(qaC BK101.out 1).trans rfl
    have hcz9_2:w7.cell? ⟨gb101,2,none⟩=some (.int .i64 a1_2):=(qaC BK101.out 2).trans rfl
    have hcz9_3:w7.cell? ⟨gb101,3,none⟩=some (.int .i64 a1_3):=(qaC BK101.out 3).trans rfl
    have hfz9_0:=qaA BK101.out 0
    have hfz9_1:=qaA BK101.out 1
    have hfz9_2:=qaA BK101.out 2
    have hfz9_3:=qaA BK101.out 3
    go_wp2
    go_meet
    case rel=>exact ⟨_,(true),(by first|rfl|(simp;done)|(simp [*];done)),H',⟨by first|omega|exact Nat.le_refl _⟩,⟨by (with_reducible repeat (first|refine qaJ ?_ _|refine qaK ?_|refine qaI ?_ _));exact BK101.out⟩,⟨by repeat (first|(with_reducible first|exact HB.out|apply qaD|apply qaB|apply qaE|refine qaG ?_ GE101.out)|exact HB.out)⟩⟩
   ·rw [if_neg c8] at H
    have c8b0:decide (a1_0 < 0)=false:=decide_eq_false c8
    clear c8
    (first|rw [c8b0]|(simp only [qaO,qaP];rw [c8b0])|skip)
    have H':=Aside0.mk H
    clear H
    have hcz10_0:w7.cell? ⟨gb101,0,none⟩=some (.int .i64 a1_0):=(qaC BK101.out 0).trans rfl
    have hcz10_1:w7.cell? ⟨gb101,1,none⟩=some (.int .i64 a1_1):=(qaC BK101.out 1).trans rfl
    have hcz10_2:w7.cell? ⟨gb101,2,none⟩=some (.int .i64 a1_2):=(qaC BK101.out 2).trans rfl
    have hcz10_3:w7.cell? ⟨gb101,3,none⟩=some (.int .i64 a1_3):=(qaC BK101.out 3).trans rfl
    have hfz10_0:=qaA BK101.out 0
    have hfz10_1:=qaA BK101.out 1
    have hfz10_2:=qaA BK101.out 2
    have hfz10_3:=qaA BK101.out 3
    go_wp2
    go_meet
    case rel=>exact ⟨_,(decide (a1_0 ≥ (l0.length:Int))),(by first|rfl|(simp;done)|(simp [*];done)),H',⟨by first|omega|exact Nat.le_refl _⟩,⟨by (with_reducible repeat (first|refine qaJ ?_ _|refine qaK ?_|refine qaI ?_ _));exact BK101.out⟩,⟨by repeat (first|(with_reducible first|exact HB.out|apply qaD|apply qaB|apply qaE|refine qaG ?_ GE101.out)|exact HB.out)⟩⟩
  case rest =>
   clear HC5
   try clear c1
   try clear p2
   try clear c3
   try clear c4
   try clear c4b0
   try clear c4b1
   try clear c8
   try clear c8b0
   try clear hcz10_0
   try clear hcz10_1
   try clear hcz10_2
   try clear hcz10_3
   try clear hcz9_0
   try clear hcz9_1
   try clear hcz9_2
   try clear hcz9_3
   try clear hfz10_0
   try clear hfz10_1
   try clear hfz10_2
   try clear hfz10_3
   try clear hfz9_0
   try clear hfz9_1
   try clear hfz9_2
   try clear hfz9_3
   obtain ⟨kq,x24_4,rfl,HA,HJ4,BK101,HB⟩:=hcut
   cases kq with
   | zero=>exact absurd HA.out (by simp [sawmillref50_Amount.j0])
   | succ kj4 =>
    have H:=HA.out
    clear HA
    simp only [sawmillref50_Amount.j0] at H
    by_cases c11:x24_4=true
    ·subst c11
     have H1:(some (0,8))=some (r1,r2):=by rw [if_pos rfl] at H;exact H
     clear H
     have H:=H1
     clear H1
     simp only [Option.some.injEq,Prod.mk.injEq] at H
     obtain ⟨rfl,rfl⟩:=H
     go_wp2
     go_ret2
     exact ⟨by first|rfl|(simp [qaL,qaM]<;>rfl)|(simp [*,qaL,qaM]<;>rfl),by repeat (first|(with_reducible first|exact HB.out|apply qaD|apply qaB|apply qaE|refine qaG ?_ GE101.out)|exact HB.out)⟩
    ·replace c11:=Bool.eq_false_iff.mpr c11
     subst c11
     have H1:(if 0≤a1_0 then (if a1_0 < (l0.length:Int) then ((sawmillref19_Price.f kj4 ((qaF l0 a1_0).f0) ((qaF l0 a1_0).f1) ((qaF l0 a1_0).f2) ((qaF l0 a1_0).f3) ((qaF l0 a1_0).f4) ((qaF l0 a1_0).f5) ((qaF l0 a1_0).f6) a1_1).bind fun bt104=>(if bt104.2=true then (if a1_2 < 0 then (some (0,9)) else (if a1_2 > 200 then (some (0,9)) else (if a1_3 < 0 then (some (0,9)) else (if a1_3 > 1000000000 then (some (0,9)) else ((sawmillref19_Volume.f ((qaF l0 a1_0).f0) ((qaF l0 a1_0).f1) ((qaF l0 a1_0).f2) ((qaF l0 a1_0).f3) ((qaF l0 a1_0).f4) ((qaF l0 a1_0).f5) ((qaF l0 a1_0).f6) a1_1).bind fun t107=>(some (wrap64 ((wrap64 ((wrap64 (Int.tdiv (wrap64 (t107 * a1_2)) 1000000000)) * a1_3))+(wrap64 (Int.tdiv (wrap64 ((wrap64 ((Int.tmod (wrap64 (t107 * a1_2)) 1000000000) * a1_3))+500000000)) 1000000000))),0))))))) else (some (0,20)))) else (none)) else (none))=some (r1,r2):=by rw [if_neg (show ¬ (false=true) by decide)] at H;exact H
     clear H
     have H:=H1
     clear H1
     by_cases c12:0≤a1_0
     ·rw [if_pos c12] at H
      have c12b0:decide (0≤a1_0)=true:=decide_eq_true c12
      clear c12
      by_cases c13:a1_0 < (l0.length:Int)
      ·rw [if_pos c13] at H
       have c13b0:decide (a1_0 < (l0.length:Int))=true:=decide_eq_true c13
       clear c13
       replace H:=Option.bind_eq_some_iff.mp H
       obtain ⟨⟨t104,t105⟩,A140,H⟩:=H
       replace H:(if t105=true then (if a1_2 < 0 then (some (0,9)) else (if a1_2 > 200 then (some (0,9)) else (if a1_3 < 0 then (some (0,9)) else (if a1_3 > 1000000000 then (some (0,9)) else ((sawmillref19_Volume.f ((qaF l0 a1_0).f0) ((qaF l0 a1_0).f1) ((qaF l0 a1_0).f2) ((qaF l0 a1_0).f3) ((qaF l0 a1_0).f4) ((qaF l0 a1_0).f5) ((qaF l0 a1_0).f6) a1_1).bind fun t107=>(some (wrap64 ((wrap64 ((wrap64 (Int.tdiv (wrap64 (t107 * a1_2)) 1000000000)) * a1_3))+(wrap64 (Int.tdiv (wrap64 ((wrap64 ((Int.tmod (wrap64 (t107 * a1_2)) 1000000000) * a1_3))+500000000)) 1000000000))),0))))))) else (some (0,20)))=some (r1,r2):=H
       have A14:=Aside0.mk A140
       clear A140
       by_cases c15:t105=true
       ·subst c15
        have H1:(if a1_2 < 0 then (some (0,9)) else (if a1_2 > 200 then (some (0,9)) else (if a1_3 < 0 then (some (0,9)) else (if a1_3 > 1000000000 then (some (0,9)) else ((sawmillref19_Volume.f ((qaF l0 a1_0).f0) ((qaF l0 a1_0).f1) ((qaF l0 a1_0).f2) ((qaF l0 a1_0).f3) ((qaF l0 a1_0).f4) ((qaF l0 a1_0).f5) ((qaF l0 a1_0).f6) a1_1).bind fun t107=>(some (wrap64 ((wrap64 ((wrap64 (Int.tdiv (wrap64 (t107 * a1_2)) 1000000000)) * a1_3))+(wrap64 (Int.tdiv (wrap64 ((wrap64 ((Int.tmod (wrap64 (t107 * a1_2)) 1000000000) * a1_3))+500000000)) 1000000000))),0)))))))=some (r1,r2):=by rw [if_pos rfl] at H;exact H
        clear H
        have H:=H1
        clear H1
        by_cases c16:a1_2 < 0
        ·rw [if_pos c16] at H
         have c16b0:decide (a1_2 < 0)=true:=decide_eq_true c16
         clear c16
         simp only [Option.some.injEq,Prod.mk.injEq] at H
         obtain ⟨rfl,rfl⟩:=H
         try go_wp2
         have n0_:=Aside0.mk (qaK BK101.out)
         have n1_:=Aside0.mk (qaE HB.out)
         clear BK101
         clear HB
         have BK101:=n0_
         have HB:=n1_
         clear n0_ n1_
         have p103:0≤(a1_0:Int):=of_decide_eq_true (by first|(with_reducible assumption)|assumption)
         have q103:a1_0 < (l0.length:Int):=of_decide_eq_true (by first|(with_reducible assumption)|assumption)
         obtain ⟨ad103,A103_5,c103_5,A103_6,c103_6,e103,hx103_0,hx103_1,hx103_2,hx103_3,hx103_4,hx103_5,hx103_6,hl103_5,hi103_5,hl103_6,hi103_6⟩:=at_T53 HR0.out a1_0 p103 q103
         have hw103_6:=hx103_6
         have hw103_5:=hx103_5
         have hw103_4:=hx103_4
         have hw103_3:=hx103_3
         have hw103_2:=hx103_2
         have hw103_1:=hx103_1
         have hw103_0:=hx103_0
         cases e103
         replace hx103_0:=(HB.out.cell (World.block_lt_of_cell? w _ hx103_0)).trans hx103_0
         replace hx103_1:=(HB.out.cell (World.block_lt_of_cell? w _ hx103_1)).trans hx103_1
         replace hx103_2:=(HB.out.cell (World.block_lt_of_cell? w _ hx103_2)).trans hx103_2
         replace hx103_3:=(HB.out.cell (World.block_lt_of_cell? w _ hx103_3)).trans hx103_3
         replace hx103_4:=(HB.out.cell (World.block_lt_of_cell? w _ hx103_4)).trans hx103_4
         replace hx103_5:=(HB.out.cell (World.block_lt_of_cell? w _ hx103_5)).trans hx103_5
         replace hx103_6:=(HB.out.cell (World.block_lt_of_cell? w _ hx103_6)).trans hx103_6
         have HR103_5:=Aside0.mk hi103_5
         have HC103_5:=Aside0.mk hl103_5
         clear hi103_5 hl103_5
         have HR103_6:=Aside0.mk hi103_6
         have HC103_6:=Aside0.mk hl103_6
         clear hi103_6 hl103_6
         replace p103:=eq_true p103
         replace q103:=eq_true q103
         refine start_ (n:=13) (S:=fun w'=>w'.cell? ⟨gb101,0,none⟩=some (.int .i64 a1_0)∧w'.cell? ⟨gb101,1,none⟩=some (.int .i64 a1_1)∧w'.cell? ⟨gb101,2,none⟩=some (.int .i64 a1_2)∧w'.cell? ⟨gb101,3,none⟩=some (.int .i64 a1_3)∧w'.cell? (ad103.add ((a1_0).toNat * 7))=some (.string ((qaF l0 a1_0).f0))∧w'.cell? ⟨(ad103.add ((a1_0).toNat * 7)).block,(ad103.add ((a1_0).toNat * 7)).off+1,none⟩=some (.int .i64 ((qaF l0 a1_0).f1))∧w'.cell? ⟨(ad103.add ((a1_0).toNat * 7)).block,(ad103.add ((a1_0).toNat * 7)).off+2,none⟩=some (.int .i64 ((qaF l0 a1_0).f2))∧w'.cell? ⟨(ad103.add ((a1_0).toNat * 7)).block,(ad103.add ((a1_0).toNat * 7)).off+3,none⟩=some (.int .i64 ((qaF l0 a1_0).f3))∧w'.cell? ⟨(ad103.add ((a1_0).toNat * 7)).block,(ad103.add ((a1_0).toNat * 7)).off+4,none⟩=some (.int .i64 ((qaF l0 a1_0).f4))∧w'.cell? ⟨(ad103.add ((a1_0).toNat * 7)).block,(ad103.add ((a1_0).toNat * 7)).off+5,none⟩=some (.slice A103_5 ((qaF l0 a1_0).f5).length c103_5)∧w'.cell? ⟨(ad103.add ((a1_0).toNat * 7)).block,(ad103.add ((a1_0).toNat * 7)).off+6,none⟩=some (.slice A103_6 ((qaF l0 a1_0).f6).length c103_6)) (ds:=[]) (bitsA 13 0) (by kernel_rfl) rfl rfl ⟨(qaC BK101.out 0).trans rfl,(qaC BK101.out 1).trans rfl,(qaC BK101.out 2).trans rfl,(qaC BK101.out 3).trans rfl,((HB.out.cell (World.block_lt_of_cell? w _ hw103_0)).trans hw103_0),((HB.out.cell (World.block_lt_of_cell? w _ hw103_1)).trans hw103_1),((HB.out.cell (World.block_lt_of_cell? w _ hw103_2)).trans hw103_2),((HB.out.cell (World.block_lt_of_cell? w _ hw103_3)).trans hw103_3),((HB.out.cell (World.block_lt_of_cell? w _ hw103_4)).trans hw103_4),((HB.out.cell (World.block_lt_of_cell? w _ hw103_5)).trans hw103_5),((HB.out.cell (World.block_lt_of_cell? w _ hw103_6)).trans hw103_6)⟩ (fun hHeld=>?_);refine qbN sawmillref50_Amount.tab6 sawmillref50_Amount.bits6 (fun HT_ HW_=>?_)
         generalize wc.drew=w17 at BK101 HB HR103_5 HR103_6 hx103_0 hx103_1 hx103_2 hx103_3 hx103_4 hx103_5 hx103_6 hHeld ⊢
         refine qaU (i:=0) (N:=some 26) (v:=?_) (a':=?_) #[true,false,false,false,false,false,false,false,false,false,false,false,false] rfl rfl (qaR HT_.out (by kernel_rfl)) (fun _ _ _ h=>h) (Or.inl ⟨by rfl,?_⟩) ?_ ?_
         rotate_left;(intro w';go_simp;with_reducible rfl);rotate_left;(simp only [Act.put,List.setIfInBounds_toArray,List.set_cons_zero,List.set_cons_succ,qaO,qaP];rfl)
         refine qaU (i:=1) (N:=some 27) (v:=?_) (a':=?_) #[true,true,false,false,false,false,false,false,false,false,false,false,false] rfl rfl (qaR HT_.out (by kernel_rfl)) (fun _ _ _ h=>h) (Or.inl ⟨by rfl,?_⟩) ?_ ?_
         rotate_left;(intro w';go_simp;with_reducible rfl);rotate_left;(simp only [Act.put,List.setIfInBounds_toArray,List.set_cons_zero,List.set_cons_succ,qaO,qaP];rfl)
         refine qaU (i:=5) (N:=some 31) (v:=?_) (a':=?_) #[true,true,false,false,false,true,false,false,false,false,false,false,false] rfl rfl (qaR HT_.out (by kernel_rfl)) (fun _ _ _ h=>h) (Or.inl ⟨by rfl,?_⟩) ?_ ?_
         rotate_left;(intro w';go_simp;with_reducible rfl);rotate_left;(simp only [Act.put,List.setIfInBounds_toArray,List.set_cons_zero,List.set_cons_succ,qaO,qaP];rfl)
         refine take_ (i:=2) (N:=some 28) (v:=?_) (a':=?_) (bitsA 13 39) rfl rfl (qaX HT_.out HW_.out (by kernel_rfl)) (fun _ _ _ h=>h) (Or.inl ⟨by rfl,?_⟩) hHeld ?_ ?_
         rotate_left;(rintro w' ⟨s0,s1,s2,s3,s4,s5,s6,s7,s8,s9,s10⟩;go_simp;with_reducible rfl);rotate_left;(simp only [Act.put,List.setIfInBounds_toArray,List.set_cons_zero,List.set_cons_succ,qaO,qaP];rfl)
         refine qaU (i:=3) (N:=some 29) (v:=?_) (a':=?_) #[true,true,true,true,false,true,false,false,false,false,false,false,false] rfl rfl (qaR HT_.out (by kernel_rfl)) (fun _ _ _ h=>h) (Or.inl ⟨by rfl,?_⟩) ?_ ?_
         rotate_left;(intro w';go_simp;with_reducible rfl);rotate_left;(simp only [Act.put,List.setIfInBounds_toArray,List.set_cons_zero,List.set_cons_succ,qaO,qaP];rfl)
         refine take_ (i:=4) (N:=some 30) (v:=?_) (a':=?_) (bitsA 13 63) rfl rfl (qaX HT_.out HW_.out (by kernel_rfl)) (fun _ _ _ h=>h) (Or.inl ⟨by rfl,?_⟩) hHeld ?_ ?_
         rotate_left;(rintro w' ⟨s0,s1,s2,s3,s4,s5,s6,s7,s8,s9,s10⟩;go_simp;with_reducible rfl);rotate_left;(simp only [Act.put,List.setIfInBounds_toArray,List.set_cons_zero,List.set_cons_succ,qaO,qaP];rfl)
         refine take_ (i:=6) (N:=some 32) (v:=?_) (a':=?_) (bitsA 13 127) rfl rfl (qaX HT_.out HW_.out (by kernel_rfl)) (fun _ _ _ h=>h) (Or.inl ⟨by rfl,?_⟩) hHeld ?_ ?_
         rotate_left;(rintro w' ⟨s0,s1,s2,s3,s4,s5,s6,s7,s8,s9,s10⟩;go_simp;with_reducible rfl);rotate_left;(simp only [Act.put,List.setIfInBounds_toArray,List.set_cons_zero,List.set_cons_succ,qaO,qaP];rfl)
         refine one_ (i:=7) (N:=some 33) (bitsA 13 255) rfl rfl (qbM HT_.out (by kernel_rfl)) (by decide) (fun K hK=>?_)
         refine goes_ Tryd.func32 (by kernel_rfl) rfl #[.agg #[.string ((qaF l0 a1_0).f0),.int .i64 ((qaF l0 a1_0).f1),.int .i64 ((qaF l0 a1_0).f2),.int .i64 ((qaF l0 a1_0).f3),.int .i64 ((qaF l0 a1_0).f4),.slice A103_5 ((qaF l0 a1_0).f5).length c103_5,.slice A103_6 ((qaF l0 a1_0).f6).length c103_6],.int .i64 a1_1] (by rfl) rfl rfl (by (try simp only [List.map_toArray,List.map_cons,List.map_nil]);first|done|rfl|(simp only [List.length_drop,List.length_take];rfl)) ?_
         with_reducible refine (sawmillref19_Price.calls kj4 ((qaF l0 a1_0).f0) ((qaF l0 a1_0).f1) ((qaF l0 a1_0).f2) ((qaF l0 a1_0).f3) ((qaF l0 a1_0).f4) _ _ ((qaF l0 a1_0).f5) _ _ ((qaF l0 a1_0).f6) a1_1 t104 true _ ?side1 ?side2 ?side3 ?side4 A14.out).mono ?_
         (case side1=>repeat (first|exact (Kd.C_below HR103_5.out HB.out)|(with_reducible refine Kd.C_alloc ?_ _)|(with_reducible refine Kd.C_drewN ?_ _)|(with_reducible refine Kd.C_drew ?_)))
         (case side2=>exact HC103_5.out)
         (case side3=>repeat (first|exact (Kd.C_below HR103_6.out HB.out)|(with_reducible refine Kd.C_alloc ?_ _)|(with_reducible refine Kd.C_drewN ?_ _)|(with_reducible refine Kd.C_drew ?_)))
         (case side4=>exact HC103_6.out)
         rintro e w18 ⟨rfl,hb⟩
         refine ⟨_,rfl,?_⟩
         have n0_:=Aside0.mk (qaQ (g:=gb101) (o:=.cells #[.int .i64 a1_0,.int .i64 a1_1,.int .i64 a1_2,.int .i64 a1_3] 38 (0,0)) (by (with_reducible repeat (first|refine qaJ ?_ _|refine qaK ?_|refine qaI ?_ _));exact BK101.out) hb)
         have n1_:=Aside0.mk (qaH (by repeat (first|(with_reducible first|exact HB.out|apply qaD|apply qaB|apply qaE|refine qaG ?_ GE101.out)|exact HB.out)) hb)
         clear BK101
         clear HB
         have BK101:=n0_
         have HB:=n1_
         clear n0_ n1_
         (try clear hb)
         (try clear hb2)
         (try clear hk)
         (try clear hi)
         refine hK.out _ _ ⟨(qaC BK101.out 0).trans rfl,(qaC BK101.out 1).trans rfl,(qaC BK101.out 2).trans rfl,(qaC BK101.out 3).trans rfl,((HB.out.cell (World.block_lt_of_cell? w _ hw103_0)).trans hw103_0),((HB.out.cell (World.block_lt_of_cell? w _ hw103_1)).trans hw103_1),((HB.out.cell (World.block_lt_of_cell? w _ hw103_2)).trans hw103_2),((HB.out.cell (World.block_lt_of_cell? w _ hw103_3)).trans hw103_3),((HB.out.cell (World.block_lt_of_cell? w _ hw103_4)).trans hw103_4),((HB.out.cell (World.block_lt_of_cell? w _ hw103_5)).trans hw103_5),((HB.out.cell (World.block_lt_of_cell? w _ hw103_6)).trans hw103_6)⟩ (fun hHeld=>?_)
         clear hK K
         refine norm_ (a':=?_) ?_ ?_
         rotate_left
         ·show Act.put _ (some 33) _=_
          simp only [Act.put,List.setIfInBounds_toArray,List.set_cons_zero,List.set_cons_succ,qaO,qaP]
          rfl
         refine qaU (i:=8) (N:=some 25) (v:=?_) (a':=?_) #[true,true,true,true,true,true,true,true,true,false,false,false,false] rfl rfl (qaR HT_.out (by kernel_rfl)) (fun _ _ _ h=>h) (Or.inl ⟨by rfl,?_⟩) ?_ ?_
         rotate_left;(intro w';go_simp;with_reducible rfl);rotate_left;(simp only [Act.put,List.setIfInBounds_toArray,List.set_cons_zero,List.set_cons_succ,qaO,qaP];rfl)
         refine qaU (i:=9) (N:=some 34) (v:=?_) (a':=?_) #[true,true,true,true,true,true,true,true,true,true,false,false,false] rfl rfl (qaR HT_.out (by kernel_rfl)) (fun _ _ _ h=>h) (Or.inl ⟨by rfl,?_⟩) ?_ ?_
         rotate_left;(intro w';go_simp;with_reducible rfl);rotate_left;(simp only [Act.put,List.setIfInBounds_toArray,List.set_cons_zero,List.set_cons_succ,qaO,qaP];rfl)
         refine qaU (i:=10) (N:=some 35) (v:=?_) (a':=?_) #[true,true,true,true,true,true,true,true,true,true,true,false,false] rfl rfl (qaR HT_.out (by kernel_rfl)) (fun _ _ _ h=>h) (Or.inl ⟨by rfl,?_⟩) ?_ ?_
         rotate_left;(intro w';go_simp;with_reducible rfl);rotate_left;(simp only [Act.put,List.setIfInBounds_toArray,List.set_cons_zero,List.set_cons_succ,qaO,qaP];rfl)
         refine qaU (i:=11) (N:=some 7) (v:=?_) (a':=?_) #[true,true,true,true,true,true,true,true,true,true,true,true,false] rfl rfl (qaR HT_.out (by kernel_rfl)) (fun _ _ _ h=>h) (Or.inl ⟨by rfl,?_⟩) ?_ ?_
         rotate_left;(intro w';go_simp;with_reducible rfl);rotate_left;(simp only [Act.put,List.setIfInBounds_toArray,List.set_cons_zero,List.set_cons_succ,qaO,qaP];rfl)
         refine qaU (i:=12) (N:=some 8) (v:=?_) (a':=?_) #[true,true,true,true,true,true,true,true,true,true,true,true,true] rfl rfl (qaR HT_.out (by kernel_rfl)) (fun _ _ _ h=>h) (Or.inl ⟨by rfl,?_⟩) ?_ ?_
         rotate_left;(intro w';go_simp;with_reducible rfl);rotate_left;(simp only [Act.put,List.setIfInBounds_toArray,List.set_cons_zero,List.set_cons_succ,qaO,qaP];rfl)
         refine done_ (done_of HT_.out (by kernel_rfl)) ?_
         have hcz19_0:w18.cell? ⟨gb101,0,none⟩=some (.int .i64 a1_0):=(qaC BK101.out 0).trans rfl
         have hcz19_1:w18.cell? ⟨gb101,1,none⟩=some (.int .i64 a1_1):=(qaC BK101.out 1).trans rfl
         have hcz19_2:w18.cell? ⟨gb101,2,none⟩=some (.int .i64 a1_2):=(qaC BK101.out 2).trans rfl
         have hcz19_3:w18.cell? ⟨gb101,3,none⟩=some (.int .i64 a1_3):=(qaC BK101.out 3).trans rfl
         have hfz19_0:=qaA BK101.out 0
         have hfz19_1:=qaA BK101.out 1
         have hfz19_2:=qaA BK101.out 2
         have hfz19_3:=qaA BK101.out 3
         try go_wp2
         go_ret2
         exact ⟨by first|rfl|(simp [qaL,qaM]<;>rfl)|(simp [*,qaL,qaM]<;>rfl),by repeat (first|(with_reducible first|exact HB.out|apply qaD|apply qaB|apply qaE|refine qaG ?_ GE101.out)|exact HB.out)⟩
        ·rw [if_neg c16] at H
         have c16b0:decide (a1_2 < 0)=false:=decide_eq_false c16
         clear c16
         by_cases c20:a1_2 > 200
         ·rw [if_pos c20] at H
          have c20b0:decide (200 < a1_2)=true:=decide_eq_true c20
          clear c20
          simp only [Option.some.injEq,Prod.mk.injEq] at H
          obtain ⟨rfl,rfl⟩:=H
          try go_wp2
          have n0_:=Aside0.mk (qaK BK101.out)
          have n1_:=Aside0.mk (qaE HB.out)
          clear BK101
          clear HB
          have BK101:=n0_
          have HB:=n1_
          clear n0_ n1_
          have p103:0≤(a1_0:Int):=of_decide_eq_true (by first|(with_reducible assumption)|assumption)
          have q103:a1_0 < (l0.length:Int):=of_decide_eq_true (by first|(with_reducible assumption)|assumption)
          obtain ⟨ad103,A103_5,c103_5,A103_6,c103_6,e103,hx103_0,hx103_1,hx103_2,hx103_3,hx103_4,hx103_5,hx103_6,hl103_5,hi103_5,hl103_6,hi103_6⟩:=at_T53 HR0.out a1_0 p103 q103
          have hw103_6:=hx103_6
          have hw103_5:=hx103_5
          have hw103_4:=hx103_4
          have hw103_3:=hx103_3
          have hw103_2:=hx103_2
          have hw103_1:=hx103_1
          have hw103_0:=hx103_0
          cases e103
          replace hx103_0:=(HB.out.cell (World.block_lt_of_cell? w _ hx103_0)).trans hx103_0
          replace hx103_1:=(HB.out.cell (World.block_lt_of_cell? w _ hx103_1)).trans hx103_1
          replace hx103_2:=(HB.out.cell (World.block_lt_of_cell? w _ hx103_2)).trans hx103_2
          replace hx103_3:=(HB.out.cell (World.block_lt_of_cell? w _ hx103_3)).trans hx103_3
          replace hx103_4:=(HB.out.cell (World.block_lt_of_cell? w _ hx103_4)).trans hx103_4
          replace hx103_5:=(HB.out.cell (World.block_lt_of_cell? w _ hx103_5)).trans hx103_5
          replace hx103_6:=(HB.out.cell (World.block_lt_of_cell? w _ hx103_6)).trans hx103_6
          have HR103_5:=Aside0.mk hi103_5
          have HC103_5:=Aside0.mk hl103_5
          clear hi103_5 hl103_5
          have HR103_6:=Aside0.mk hi103_6
          have HC103_6:=Aside0.mk hl103_6
          clear hi103_6 hl103_6
          replace p103:=eq_true p103
          replace q103:=eq_true q103
          refine start_ (n:=13) (S:=fun w'=>w'.cell? ⟨gb101,0,none⟩=some (.int .i64 a1_0)∧w'.cell? ⟨gb101,1,none⟩=some (.int .i64 a1_1)∧w'.cell? ⟨gb101,2,none⟩=some (.int .i64 a1_2)∧w'.cell? ⟨gb101,3,none⟩=some (.int .i64 a1_3)∧w'.cell? (ad103.add ((a1_0).toNat * 7))=some (.string ((qaF l0 a1_0).f0))∧w'.cell? ⟨(ad103.add ((a1_0).toNat * 7)).block,(ad103.add ((a1_0).toNat * 7)).off+1,none⟩=some (.int .i64 ((qaF l0 a1_0).f1))∧w'.cell? ⟨(ad103.add ((a1_0).toNat * 7)).block,(ad103.add ((a1_0).toNat * 7)).off+2,none⟩=some (.int .i64 ((qaF l0 a1_0).f2))∧w'.cell? ⟨(ad103.add ((a1_0).toNat * 7)).block,(ad103.add ((a1_0).toNat * 7)).off+3,none⟩=some (.int .i64 ((qaF l0 a1_0).f3))∧w'.cell? ⟨(ad103.add ((a1_0).toNat * 7)).block,(ad103.add ((a1_0).toNat * 7)).off+4,none⟩=some (.int .i64 ((qaF l0 a1_0).f4))∧w'.cell? ⟨(ad103.add ((a1_0).toNat * 7)).block,(ad103.add ((a1_0).toNat * 7)).off+5,none⟩=some (.slice A103_5 ((qaF l0 a1_0).f5).length c103_5)∧w'.cell? ⟨(ad103.add ((a1_0).toNat * 7)).block,(ad103.add ((a1_0).toNat * 7)).off+6,none⟩=some (.slice A103_6 ((qaF l0 a1_0).f6).length c103_6)) (ds:=[]) (bitsA 13 0) (by kernel_rfl) rfl rfl ⟨(qaC BK101.out 0).trans rfl,(qaC BK101.out 1).trans rfl,(qaC BK101.out 2).trans rfl,(qaC BK101.out 3).trans rfl,((HB.out.cell (World.block_lt_of_cell? w _ hw103_0)).trans hw103_0),((HB.out.cell (World.block_lt_of_cell? w _ hw103_1)).trans hw103_1),((HB.out.cell (World.block_lt_of_cell? w _ hw103_2)).trans hw103_2),((HB.out.cell (World.block_lt_of_cell? w _ hw103_3)).trans hw103_3),((HB.out.cell (World.block_lt_of_cell? w _ hw103_4)).trans hw103_4),((HB.out.cell (World.block_lt_of_cell? w _ hw103_5)).trans hw103_5),((HB.out.cell (World.block_lt_of_cell? w _ hw103_6)).trans hw103_6)⟩ (fun hHeld=>?_);refine qbN sawmillref50_Amount.tab6 sawmillref50_Amount.bits6 (fun HT_ HW_=>?_)
          generalize wc.drew=w21 at BK101 HB HR103_5 HR103_6 hx103_0 hx103_1 hx103_2 hx103_3 hx103_4 hx103_5 hx103_6 hHeld ⊢
          refine qaU (i:=0) (N:=some 26) (v:=?_) (a':=?_) #[true,false,false,false,false,false,false,false,false,false,false,false,false] rfl rfl (qaR HT_.out (by kernel_rfl)) (fun _ _ _ h=>h) (Or.inl ⟨by rfl,?_⟩) ?_ ?_
          rotate_left;(intro w';go_simp;with_reducible rfl);rotate_left;(simp only [Act.put,List.setIfInBounds_toArray,List.set_cons_zero,List.set_cons_succ,qaO,qaP];rfl)
          refine qaU (i:=1) (N:=some 27) (v:=?_) (a':=?_) #[true,true,false,false,false,false,false,false,false,false,false,false,false] rfl rfl (qaR HT_.out (by kernel_rfl)) (fun _ _ _ h=>h) (Or.inl ⟨by rfl,?_⟩) ?_ ?_
          rotate_left;(intro w';go_simp;with_reducible rfl);rotate_left;(simp only [Act.put,List.setIfInBounds_toArray,List.set_cons_zero,List.set_cons_succ,qaO,qaP];rfl)
          refine qaU (i:=5) (N:=some 31) (v:=?_) (a':=?_) #[true,true,false,false,false,true,false,false,false,false,false,false,false] rfl rfl (qaR HT_.out (by kernel_rfl)) (fun _ _ _ h=>h) (Or.inl ⟨by rfl,?_⟩) ?_ ?_
          rotate_left;(intro w';go_simp;with_reducible rfl);rotate_left;(simp only [Act.put,List.setIfInBounds_toArray,List.set_cons_zero,List.set_cons_succ,qaO,qaP];rfl)
          refine take_ (i:=2) (N:=some 28) (v:=?_) (a':=?_) (bitsA 13 39) rfl rfl (qaX HT_.out HW_.out (by kernel_rfl)) (fun _ _ _ h=>h) (Or.inl ⟨by rfl,?_⟩) hHeld ?_ ?_
          rotate_left;(rintro w' ⟨s0,s1,s2,s3,s4,s5,s6,s7,s8,s9,s10⟩;go_simp;with_reducible rfl);rotate_left;(simp only [Act.put,List.setIfInBounds_toArray,List.set_cons_zero,List.set_cons_succ,qaO,qaP];rfl)
          refine qaU (i:=3) (N:=some 29) (v:=?_) (a':=?_) #[true,true,true,true,false,true,false,false,false,false,false,false,false] rfl rfl (qaR HT_.out (by kernel_rfl)) (fun _ _ _ h=>h) (Or.inl ⟨by rfl,?_⟩) ?_ ?_
          rotate_left;(intro w';go_simp;with_reducible rfl);rotate_left;(simp only [Act.put,List.setIfInBounds_toArray,List.set_cons_zero,List.set_cons_succ,qaO,qaP];rfl)
          refine take_ (i:=4) (N:=some 30) (v:=?_) (a':=?_) (bitsA 13 63) rfl rfl (qaX HT_.out HW_.out (by kernel_rfl)) (fun _ _ _ h=>h) (Or.inl ⟨by rfl,?_⟩) hHeld ?_ ?_
          rotate_left;(rintro w' ⟨s0,s1,s2,s3,s4,s5,s6,s7,s8,s9,s10⟩;go_simp;with_reducible rfl);rotate_left;(simp only [Act.put,List.setIfInBounds_toArray,List.set_cons_zero,List.set_cons_succ,qaO,qaP];rfl)
          refine take_ (i:=6) (N:=some 32) (v:=?_) (a':=?_) (bitsA 13 127) rfl rfl (qaX HT_.out HW_.out (by kernel_rfl)) (fun _ _ _ h=>h) (Or.inl ⟨by rfl,?_⟩) hHeld ?_ ?_
          rotate_left;(rintro w' ⟨s0,s1,s2,s3,s4,s5,s6,s7,s8,s9,s10⟩;go_simp;with_reducible rfl);rotate_left;(simp only [Act.put,List.setIfInBounds_toArray,List.set_cons_zero,List.set_cons_succ,qaO,qaP];rfl)
          refine one_ (i:=7) (N:=some 33) (bitsA 13 255) rfl rfl (qbM HT_.out (by kernel_rfl)) (by decide) (fun K hK=>?_)
          refine goes_ Tryd.func32 (by kernel_rfl) rfl #[.agg #[.string ((qaF l0 a1_0).f0),.int .i64 ((qaF l0 a1_0).f1),.int .i64 ((qaF l0 a1_0).f2),.int .i64 ((qaF l0 a1_0).f3),.int .i64 ((qaF l0 a1_0).f4),.slice A103_5 ((qaF l0 a1_0).f5).length c103_5,.slice A103_6 ((qaF l0 a1_0).f6).length c103_6],.int .i64 a1_1] (by rfl) rfl rfl (by (try simp only [List.map_toArray,List.map_cons,List.map_nil]);first|done|rfl|(simp only [List.length_drop,List.length_take];rfl)) ?_
          with_reducible refine (sawmillref19_Price.calls kj4 ((qaF l0 a1_0).f0) ((qaF l0 a1_0).f1) ((qaF l0 a1_0).f2) ((qaF l0 a1_0).f3) ((qaF l0 a1_0).f4) _ _ ((qaF l0 a1_0).f5) _ _ ((qaF l0 a1_0).f6) a1_1 t104 true _ ?side1 ?side2 ?side3 ?side4 A14.out).mono ?_
          (case side1=>repeat (first|exact (Kd.C_below HR103_5.out HB.out)|(with_reducible refine Kd.C_alloc ?_ _)|(with_reducible refine Kd.C_drewN ?_ _)|(with_reducible refine Kd.C_drew ?_)))
          (case side2=>exact HC103_5.out)
          (case side3=>repeat (first|exact (Kd.C_below HR103_6.out HB.out)|(with_reducible refine Kd.C_alloc ?_ _)|(with_reducible refine Kd.C_drewN ?_ _)|(with_reducible refine Kd.C_drew ?_)))
          (case side4=>exact HC103_6.out)
          rintro e w22 ⟨rfl,hb⟩
          refine ⟨_,rfl,?_⟩
          have n0_:=Aside0.mk (qaQ (g:=gb101) (o:=.cells #[.int .i64 a1_0,.int .i64 a1_1,.int .i64 a1_2,.int .i64 a1_3] 38 (0,0)) (by (with_reducible repeat (first|refine qaJ ?_ _|refine qaK ?_|refine qaI ?_ _));exact BK101.out) hb)
          have n1_:=Aside0.mk (qaH (by repeat (first|(with_reducible first|exact HB.out|apply qaD|apply qaB|apply qaE|refine qaG ?_ GE101.out)|exact HB.out)) hb)
          clear BK101
          clear HB
          have BK101:=n0_
          have HB:=n1_
          clear n0_ n1_
          (try clear hb)
          (try clear hb2)
          (try clear hk)
          (try clear hi)
          refine hK.out _ _ ⟨(qaC BK101.out 0).trans rfl,(qaC BK101.out 1).trans rfl,(qaC BK101.out 2).trans rfl,(qaC BK101.out 3).trans rfl,((HB.out.cell (World.block_lt_of_cell? w _ hw103_0)).trans hw103_0),((HB.out.cell (World.block_lt_of_cell? w _ hw103_1)).trans hw103_1),((HB.out.cell (World.block_lt_of_cell? w _ hw103_2)).trans hw103_2),((HB.out.cell (World.block_lt_of_cell? w _ hw103_3)).trans hw103_3),((HB.out.cell (World.block_lt_of_cell? w _ hw103_4)).trans hw103_4),((HB.out.cell (World.block_lt_of_cell? w _ hw103_5)).trans hw103_5),((HB.out.cell (World.block_lt_of_cell? w _ hw103_6)).trans hw103_6)⟩ (fun hHeld=>?_)
          clear hK K
          refine norm_ (a':=?_) ?_ ?_
          rotate_left
          ·show Act.put _ (some 33) _=_
           simp only [Act.put,List.setIfInBounds_toArray,List.set_cons_zero,List.set_cons_succ,qaO,qaP]
           rfl
          refine qaU (i:=8) (N:=some 25) (v:=?_) (a':=?_) #[true,true,true,true,true,true,true,true,true,false,false,false,false] rfl rfl (qaR HT_.out (by kernel_rfl)) (fun _ _ _ h=>h) (Or.inl ⟨by rfl,?_⟩) ?_ ?_
          rotate_left;(intro w';go_simp;with_reducible rfl);rotate_left;(simp only [Act.put,List.setIfInBounds_toArray,List.set_cons_zero,List.set_cons_succ,qaO,qaP];rfl)
          refine qaU (i:=9) (N:=some 34) (v:=?_) (a':=?_) #[true,true,true,true,true,true,true,true,true,true,false,false,false] rfl rfl (qaR HT_.out (by kernel_rfl)) (fun _ _ _ h=>h) (Or.inl ⟨by rfl,?_⟩) ?_ ?_
          rotate_left;(intro w';go_simp;with_reducible rfl);rotate_left;(simp only [Act.put,List.setIfInBounds_toArray,List.set_cons_zero,List.set_cons_succ,qaO,qaP];rfl)
          refine qaU (i:=10) (N:=some 35) (v:=?_) (a':=?_) #[true,true,true,true,true,true,true,true,true,true,true,false,false] rfl rfl (qaR HT_.out (by kernel_rfl)) (fun _ _ _ h=>h) (Or.inl ⟨by rfl,?_⟩) ?_ ?_
          rotate_left;(intro w';go_simp;with_reducible rfl);rotate_left;(simp only [Act.put,List.setIfInBounds_toArray,List.set_cons_zero,List.set_cons_succ,qaO,qaP];rfl)
          refine qaU (i:=11) (N:=some 7) (v:=?_) (a':=?_) #[true,true,true,true,true,true,true,true,true,true,true,true,false] rfl rfl (qaR HT_.out (by kernel_rfl)) (fun _ _ _ h=>h) (Or.inl ⟨by rfl,?_⟩) ?_ ?_
          rotate_left;(intro w';go_simp;with_reducible rfl);rotate_left;(simp only [Act.put,List.setIfInBounds_toArray,List.set_cons_zero,List.set_cons_succ,qaO,qaP];rfl)
          refine qaU (i:=12) (N:=some 8) (v:=?_) (a':=?_) #[true,true,true,true,true,true,true,true,true,true,true,true,true] rfl rfl (qaR HT_.out (by kernel_rfl)) (fun _ _ _ h=>h) (Or.inl ⟨by rfl,?_⟩) ?_ ?_
          rotate_left;(intro w';go_simp;with_reducible rfl);rotate_left;(simp only [Act.put,List.setIfInBounds_toArray,List.set_cons_zero,List.set_cons_succ,qaO,qaP];rfl)
          refine done_ (done_of HT_.out (by kernel_rfl)) ?_
          have hcz23_0:w22.cell? ⟨gb101,0,none⟩=some (.int .i64 a1_0):=(qaC BK101.out 0).trans rfl
          have hcz23_1:w22.cell? ⟨gb101,1,none⟩=some (.int .i64 a1_1):=(qaC BK101.out 1).trans rfl
          have hcz23_2:w22.cell? ⟨gb101,2,none⟩=some (.int .i64 a1_2):=(qaC BK101.out 2).trans rfl
          have hcz23_3:w22.cell? ⟨gb101,3,none⟩=some (.int .i64 a1_3):=(qaC BK101.out 3).trans rfl
          have hfz23_0:=qaA BK101.out 0
          have hfz23_1:=qaA BK101.out 1
          have hfz23_2:=qaA BK101.out 2
          have hfz23_3:=qaA BK101.out 3
          try go_wp2
          go_ret2
          exact ⟨by first|rfl|(simp [qaL,qaM]<;>rfl)|(simp [*,qaL,qaM]<;>rfl),by repeat (first|(with_reducible first|exact HB.out|apply qaD|apply qaB|apply qaE|refine qaG ?_ GE101.out)|exact HB.out)⟩
         ·rw [if_neg c20] at H
          have c20b0:decide (200 < a1_2)=false:=decide_eq_false c20
          clear c20
          by_cases c24:a1_3 < 0
          ·rw [if_pos c24] at H
           have c24b0:decide (a1_3 < 0)=true:=decide_eq_true c24
           clear c24
           simp only [Option.some.injEq,Prod.mk.injEq] at H
           obtain ⟨rfl,rfl⟩:=H
           try go_wp2
           have n0_:=Aside0.mk (qaK BK101.out)
           have n1_:=Aside0.mk (qaE HB.out)
           clear BK101
           clear HB
           have BK101:=n0_
           have HB:=n1_
           clear n0_ n1_
           have p103:0≤(a1_0:Int):=of_decide_eq_true (by first|(with_reducible assumption)|assumption)
           have q103:a1_0 < (l0.length:Int):=of_decide_eq_true (by first|(with_reducible assumption)|assumption)
           obtain ⟨ad103,A103_5,c103_5,A103_6,c103_6,e103,hx103_0,hx103_1,hx103_2,hx103_3,hx103_4,hx103_5,hx103_6,hl103_5,hi103_5,hl103_6,hi103_6⟩:=at_T53 HR0.out a1_0 p103 q103
           have hw103_6:=hx103_6
           have hw103_5:=hx103_5
           have hw103_4:=hx103_4
           have hw103_3:=hx103_3
           have hw103_2:=hx103_2
           have hw103_1:=hx103_1
           have hw103_0:=hx103_0
           cases e103
           replace hx103_0:=(HB.out.cell (World.block_lt_of_cell? w _ hx103_0)).trans hx103_0
           replace hx103_1:=(HB.out.cell (World.block_lt_of_cell? w _ hx103_1)).trans hx103_1
           replace hx103_2:=(HB.out.cell (World.block_lt_of_cell? w _ hx103_2)).trans hx103_2
           replace hx103_3:=(HB.out.cell (World.block_lt_of_cell? w _ hx103_3)).trans hx103_3
           replace hx103_4:=(HB.out.cell (World.block_lt_of_cell? w _ hx103_4)).trans hx103_4
           replace hx103_5:=(HB.out.cell (World.block_lt_of_cell? w _ hx103_5)).trans hx103_5
           replace hx103_6:=(HB.out.cell (World.block_lt_of_cell? w _ hx103_6)).trans hx103_6
           have HR103_5:=Aside0.mk hi103_5
           have HC103_5:=Aside0.mk hl103_5
           clear hi103_5 hl103_5
           have HR103_6:=Aside0.mk hi103_6
           have HC103_6:=Aside0.mk hl103_6
           clear hi103_6 hl103_6
           replace p103:=eq_true p103
           replace q103:=eq_true q103
           refine start_ (n:=13) (S:=fun w'=>w'.cell? ⟨gb101,0,none⟩=some (.int .i64 a1_0)∧w'.cell? ⟨gb101,1,none⟩=some (.int .i64 a1_1)∧w'.cell? ⟨gb101,2,none⟩=some (.int .i64 a1_2)∧w'.cell? ⟨gb101,3,none⟩=some (.int .i64 a1_3)∧w'.cell? (ad103.add ((a1_0).toNat * 7))=some (.string ((qaF l0 a1_0).f0))∧w'.cell? ⟨(ad103.add ((a1_0).toNat * 7)).block,(ad103.add ((a1_0).toNat * 7)).off+1,none⟩=some (.int .i64 ((qaF l0 a1_0).f1))∧w'.cell? ⟨(ad103.add ((a1_0).toNat * 7)).block,(ad103.add ((a1_0).toNat * 7)).off+2,none⟩=some (.int .i64 ((qaF l0 a1_0).f2))∧w'.cell? ⟨(ad103.add ((a1_0).toNat * 7)).block,(ad103.add ((a1_0).toNat * 7)).off+3,none⟩=some (.int .i64 ((qaF l0 a1_0).f3))∧w'.cell? ⟨(ad103.add ((a1_0).toNat * 7)).block,(ad103.add ((a1_0).toNat * 7)).off+4,none⟩=some (.int .i64 ((qaF l0 a1_0).f4))∧w'.cell? ⟨(ad103.add ((a1_0).toNat * 7)).block,(ad103.add ((a1_0).toNat * 7)).off+5,none⟩=some (.slice A103_5 ((qaF l0 a1_0).f5).length c103_5)∧w'.cell? ⟨(ad103.add ((a1_0).toNat * 7)).block,(ad103.add ((a1_0).toNat * 7)).off+6,none⟩=some (.slice A103_6 ((qaF l0 a1_0).f6).length c103_6)) (ds:=[]) (bitsA 13 0) (by kernel_rfl) rfl rfl ⟨(qaC BK101.out 0).trans rfl,(qaC BK101.out 1).trans rfl,(qaC BK101.out 2).trans rfl,(qaC BK101.out 3).trans rfl,((HB.out.cell (World.block_lt_of_cell? w _ hw103_0)).trans hw103_0),((HB.out.cell (World.block_lt_of_cell? w _ hw103_1)).trans hw103_1),((HB.out.cell (World.block_lt_of_cell? w _ hw103_2)).trans hw103_2),((HB.out.cell (World.block_lt_of_cell? w _ hw103_3)).trans hw103_3),((HB.out.cell (World.block_lt_of_cell? w _ hw103_4)).trans hw103_4),((HB.out.cell (World.block_lt_of_cell? w _ hw103_5)).trans hw103_5),((HB.out.cell (World.block_lt_of_cell? w _ hw103_6)).trans hw103_6)⟩ (fun hHeld=>?_);refine qbN sawmillref50_Amount.tab6 sawmillref50_Amount.bits6 (fun HT_ HW_=>?_)
           generalize wc.drew=w25 at BK101 HB HR103_5 HR103_6 hx103_0 hx103_1 hx103_2 hx103_3 hx103_4 hx103_5 hx103_6 hHeld ⊢
           refine qaU (i:=0) (N:=some 26) (v:=?_) (a':=?_) #[true,false,false,false,false,false,false,false,false,false,false,false,false] rfl rfl (qaR HT_.out (by kernel_rfl)) (fun _ _ _ h=>h) (Or.inl ⟨by rfl,?_⟩) ?_ ?_
           rotate_left;(intro w';go_simp;with_reducible rfl);rotate_left;(simp only [Act.put,List.setIfInBounds_toArray,List.set_cons_zero,List.set_cons_succ,qaO,qaP];rfl)
           refine qaU (i:=1) (N:=some 27) (v:=?_) (a':=?_) #[true,true,false,false,false,false,false,false,false,false,false,false,false] rfl rfl (qaR HT_.out (by kernel_rfl)) (fun _ _ _ h=>h) (Or.inl ⟨by rfl,?_⟩) ?_ ?_
           rotate_left;(intro w';go_simp;with_reducible rfl);rotate_left;(simp only [Act.put,List.setIfInBounds_toArray,List.set_cons_zero,List.set_cons_succ,qaO,qaP];rfl)
           refine qaU (i:=5) (N:=some 31) (v:=?_) (a':=?_) #[true,true,false,false,false,true,false,false,false,false,false,false,false] rfl rfl (qaR HT_.out (by kernel_rfl)) (fun _ _ _ h=>h) (Or.inl ⟨by rfl,?_⟩) ?_ ?_
           rotate_left;(intro w';go_simp;with_reducible rfl);rotate_left;(simp only [Act.put,List.setIfInBounds_toArray,List.set_cons_zero,List.set_cons_succ,qaO,qaP];rfl)
           refine take_ (i:=2) (N:=some 28) (v:=?_) (a':=?_) (bitsA 13 39) rfl rfl (qaX HT_.out HW_.out (by kernel_rfl)) (fun _ _ _ h=>h) (Or.inl ⟨by rfl,?_⟩) hHeld ?_ ?_
           rotate_left;(rintro w' ⟨s0,s1,s2,s3,s4,s5,s6,s7,s8,s9,s10⟩;go_simp;with_reducible rfl);rotate_left;(simp only [Act.put,List.setIfInBounds_toArray,List.set_cons_zero,List.set_cons_succ,qaO,qaP];rfl)
           refine qaU (i:=3) (N:=some 29) (v:=?_) (a':=?_) #[true,true,true,true,false,true,false,false,false,false,false,false,false] rfl rfl (qaR HT_.out (by kernel_rfl)) (fun _ _ _ h=>h) (Or.inl ⟨by rfl,?_⟩) ?_ ?_
           rotate_left;(intro w';go_simp;with_reducible rfl);rotate_left;(simp only [Act.put,List.setIfInBounds_toArray,List.set_cons_zero,List.set_cons_succ,qaO,qaP];rfl)
           refine take_ (i:=4) (N:=some 30) (v:=?_) (a':=?_) (bitsA 13 63) rfl rfl (qaX HT_.out HW_.out (by kernel_rfl)) (fun _ _ _ h=>h) (Or.inl ⟨by rfl,?_⟩) hHeld ?_ ?_
           rotate_left;(rintro w' ⟨s0,s1,s2,s3,s4,s5,s6,s7,s8,s9,s10⟩;go_simp;with_reducible rfl);rotate_left;(simp only [Act.put,List.setIfInBounds_toArray,List.set_cons_zero,List.set_cons_succ,qaO,qaP];rfl)
           refine take_ (i:=6) (N:=some 32) (v:=?_) (a':=?_) (bitsA 13 127) rfl rfl (qaX HT_.out HW_.out (by kernel_rfl)) (fun _ _ _ h=>h) (Or.inl ⟨by rfl,?_⟩) hHeld ?_ ?_
           rotate_left;(rintro w' ⟨s0,s1,s2,s3,s4,s5,s6,s7,s8,s9,s10⟩;go_simp;with_reducible rfl);rotate_left;(simp only [Act.put,List.setIfInBounds_toArray,List.set_cons_zero,List.set_cons_succ,qaO,qaP];rfl)
           refine one_ (i:=7) (N:=some 33) (bitsA 13 255) rfl rfl (qbM HT_.out (by kernel_rfl)) (by decide) (fun K hK=>?_)
           refine goes_ Tryd.func32 (by kernel_rfl) rfl #[.agg #[.string ((qaF l0 a1_0).f0),.int .i64 ((qaF l0 a1_0).f1),.int .i64 ((qaF l0 a1_0).f2),.int .i64 ((qaF l0 a1_0).f3),.int .i64 ((qaF l0 a1_0).f4),.slice A103_5 ((qaF l0 a1_0).f5).length c103_5,.slice A103_6 ((qaF l0 a1_0).f6).length c103_6],.int .i64 a1_1] (by rfl) rfl rfl (by (try simp only [List.map_toArray,List.map_cons,List.map_nil]);first|done|rfl|(simp only [List.length_drop,List.length_take];rfl)) ?_
           with_reducible refine (sawmillref19_Price.calls kj4 ((qaF l0 a1_0).f0) ((qaF l0 a1_0).f1) ((qaF l0 a1_0).f2) ((qaF l0 a1_0).f3) ((qaF l0 a1_0).f4) _ _ ((qaF l0 a1_0).f5) _ _ ((qaF l0 a1_0).f6) a1_1 t104 true _ ?side1 ?side2 ?side3 ?side4 A14.out).mono ?_
           (case side1=>repeat (first|exact (Kd.C_below HR103_5.out HB.out)|(with_reducible refine Kd.C_alloc ?_ _)|(with_reducible refine Kd.C_drewN ?_ _)|(with_reducible refine Kd.C_drew ?_)))
           (case side2=>exact HC103_5.out)
           (case side3=>repeat (first|exact (Kd.C_below HR103_6.out HB.out)|(with_reducible refine Kd.C_alloc ?_ _)|(with_reducible refine Kd.C_drewN ?_ _)|(with_reducible refine Kd.C_drew ?_)))
           (case side4=>exact HC103_6.out)
           rintro e w26 ⟨rfl,hb⟩
           refine ⟨_,rfl,?_⟩
           have n0_:=Aside0.mk (qaQ (g:=gb101) (o:=.cells #[.int .i64 a1_0,.int .i64 a1_1,.int .i64 a1_2,.int .i64 a1_3] 38 (0,0)) (by (with_reducible repeat (first|refine qaJ ?_ _|refine qaK ?_|refine qaI ?_ _));exact BK101.out) hb)
           have n1_:=Aside0.mk (qaH (by repeat (first|(with_reducible first|exact HB.out|apply qaD|apply qaB|apply qaE|refine qaG ?_ GE101.out)|exact HB.out)) hb)
           clear BK101
           clear HB
           have BK101:=n0_
           have HB:=n1_
           clear n0_ n1_
           (try clear hb)
           (try clear hb2)
           (try clear hk)
           (try clear hi)
           refine hK.out _ _ ⟨(qaC BK101.out 0).trans rfl,(qaC BK101.out 1).trans rfl,(qaC BK101.out 2).trans rfl,(qaC BK101.out 3).trans rfl,((HB.out.cell (World.block_lt_of_cell? w _ hw103_0)).trans hw103_0),((HB.out.cell (World.block_lt_of_cell? w _ hw103_1)).trans hw103_1),((HB.out.cell (World.block_lt_of_cell? w _ hw103_2)).trans hw103_2),((HB.out.cell (World.block_lt_of_cell? w _ hw103_3)).trans hw103_3),((HB.out.cell (World.block_lt_of_cell? w _ hw103_4)).trans hw103_4),((HB.out.cell (World.block_lt_of_cell? w _ hw103_5)).trans hw103_5),((HB.out.cell (World.block_lt_of_cell? w _ hw103_6)).trans hw103_6)⟩ (fun hHeld=>?_)
           clear hK K
           refine norm_ (a':=?_) ?_ ?_
           rotate_left
           ·show Act.put _ (some 33) _=_
            simp only [Act.put,List.setIfInBounds_toArray,List.set_cons_zero,List.set_cons_succ,qaO,qaP]
            rfl
           refine qaU (i:=8) (N:=some 25) (v:=?_) (a':=?_) #[true,true,true,true,true,true,true,true,true,false,false,false,false] rfl rfl (qaR HT_.out (by kernel_rfl)) (fun _ _ _ h=>h) (Or.inl ⟨by rfl,?_⟩) ?_ ?_
           rotate_left;(intro w';go_simp;with_reducible rfl);rotate_left;(simp only [Act.put,List.setIfInBounds_toArray,List.set_cons_zero,List.set_cons_succ,qaO,qaP];rfl)
           refine qaU (i:=9) (N:=some 34) (v:=?_) (a':=?_) #[true,true,true,true,true,true,true,true,true,true,false,false,false] rfl rfl (qaR HT_.out (by kernel_rfl)) (fun _ _ _ h=>h) (Or.inl ⟨by rfl,?_⟩) ?_ ?_
           rotate_left;(intro w';go_simp;with_reducible rfl);rotate_left;(simp only [Act.put,List.setIfInBounds_toArray,List.set_cons_zero,List.set_cons_succ,qaO,qaP];rfl)
           refine qaU (i:=10) (N:=some 35) (v:=?_) (a':=?_) #[true,true,true,true,true,true,true,true,true,true,true,false,false] rfl rfl (qaR HT_.out (by kernel_rfl)) (fun _ _ _ h=>h) (Or.inl ⟨by rfl,?_⟩) ?_ ?_
           rotate_left;(intro w';go_simp;with_reducible rfl);rotate_left;(simp only [Act.put,List.setIfInBounds_toArray,List.set_cons_zero,List.set_cons_succ,qaO,qaP];rfl)
           refine qaU (i:=11) (N:=some 7) (v:=?_) (a':=?_) #[true,true,true,true,true,true,true,true,true,true,true,true,false] rfl rfl (qaR HT_.out (by kernel_rfl)) (fun _ _ _ h=>h) (Or.inl ⟨by rfl,?_⟩) ?_ ?_
           rotate_left;(intro w';go_simp;with_reducible rfl);rotate_left;(simp only [Act.put,List.setIfInBounds_toArray,List.set_cons_zero,List.set_cons_succ,qaO,qaP];rfl)
           refine qaU (i:=12) (N:=some 8) (v:=?_) (a':=?_) #[true,true,true,true,true,true,true,true,true,true,true,true,true] rfl rfl (qaR HT_.out (by kernel_rfl)) (fun _ _ _ h=>h) (Or.inl ⟨by rfl,?_⟩) ?_ ?_
           rotate_left;(intro w';go_simp;with_reducible rfl);rotate_left;(simp only [Act.put,List.setIfInBounds_toArray,List.set_cons_zero,List.set_cons_succ,qaO,qaP];rfl)
           refine done_ (done_of HT_.out (by kernel_rfl)) ?_
           have hcz27_0:w26.cell? ⟨gb101,0,none⟩=some (.int .i64 a1_0):=(qaC BK101.out 0).trans rfl
           have hcz27_1:w26.cell? ⟨gb101,1,none⟩=some (.int .i64 a1_1):=(qaC BK101.out 1).trans rfl
           have hcz27_2:w26.cell? ⟨gb101,2,none⟩=some (.int .i64 a1_2):=(qaC BK101.out 2).trans rfl
           have hcz27_3:w26.cell? ⟨gb101,3,none⟩=some (.int .i64 a1_3):=(qaC BK101.out 3).trans rfl
           have hfz27_0:=qaA BK101.out 0
           have hfz27_1:=qaA BK101.out 1
           have hfz27_2:=qaA BK101.out 2
           have hfz27_3:=qaA BK101.out 3
           try go_wp2
           go_ret2
           exact ⟨by first|rfl|(simp [qaL,qaM]<;>rfl)|(simp [*,qaL,qaM]<;>rfl),by repeat (first|(with_reducible first|exact HB.out|apply qaD|apply qaB|apply qaE|refine qaG ?_ GE101.out)|exact HB.out)⟩
          ·rw [if_neg c24] at H
           have c24b0:decide (a1_3 < 0)=false:=decide_eq_false c24
           clear c24
           by_cases c28:a1_3 > 1000000000
           ·rw [if_pos c28] at H
            have c28b0:decide (1000000000 < a1_3)=true:=decide_eq_true c28
            clear c28
            simp only [Option.some.injEq,Prod.mk.injEq] at H
            obtain ⟨rfl,rfl⟩:=H
            try go_wp2
            have n0_:=Aside0.mk (qaK BK101.out)
            have n1_:=Aside0.mk (qaE HB.out)
            clear BK101
            clear HB
            have BK101:=n0_
            have HB:=n1_
            clear n0_ n1_
            have p103:0≤(a1_0:Int):=of_decide_eq_true (by first|(with_reducible assumption)|assumption)
            have q103:a1_0 < (l0.length:Int):=of_decide_eq_true (by first|(with_reducible assumption)|assumption)
            obtain ⟨ad103,A103_5,c103_5,A103_6,c103_6,e103,hx103_0,hx103_1,hx103_2,hx103_3,hx103_4,hx103_5,hx103_6,hl103_5,hi103_5,hl103_6,hi103_6⟩:=at_T53 HR0.out a1_0 p103 q103
            have hw103_6:=hx103_6
            have hw103_5:=hx103_5
            have hw103_4:=hx103_4
            have hw103_3:=hx103_3
            have hw103_2:=hx103_2
            have hw103_1:=hx103_1
            have hw103_0:=hx103_0
            cases e103
            replace hx103_0:=(HB.out.cell (World.block_lt_of_cell? w _ hx103_0)).trans hx103_0
            replace hx103_1:=(HB.out.cell (World.block_lt_of_cell? w _ hx103_1)).trans hx103_1
            replace hx103_2:=(HB.out.cell (World.block_lt_of_cell? w _ hx103_2)).trans hx103_2
            replace hx103_3:=(HB.out.cell (World.block_lt_of_cell? w _ hx103_3)).trans hx103_3
            replace hx103_4:=(HB.out.cell (World.block_lt_of_cell? w _ hx103_4)).trans hx103_4
            replace hx103_5:=(HB.out.cell (World.block_lt_of_cell? w _ hx103_5)).trans hx103_5
            replace hx103_6:=(HB.out.cell (World.block_lt_of_cell? w _ hx103_6)).trans hx103_6
            have HR103_5:=Aside0.mk hi103_5
            have HC103_5:=Aside0.mk hl103_5
            clear hi103_5 hl103_5
            have HR103_6:=Aside0.mk hi103_6
            have HC103_6:=Aside0.mk hl103_6
            clear hi103_6 hl103_6
            replace p103:=eq_true p103
            replace q103:=eq_true q103
            refine start_ (n:=13) (S:=fun w'=>w'.cell? ⟨gb101,0,none⟩=some (.int .i64 a1_0)∧w'.cell? ⟨gb101,1,none⟩=some (.int .i64 a1_1)∧w'.cell? ⟨gb101,2,none⟩=some (.int .i64 a1_2)∧w'.cell? ⟨gb101,3,none⟩=some (.int .i64 a1_3)∧w'.cell? (ad103.add ((a1_0).toNat * 7))=some (.string ((qaF l0 a1_0).f0))∧w'.cell? ⟨(ad103.add ((a1_0).toNat * 7)).block,(ad103.add ((a1_0).toNat * 7)).off+1,none⟩=some (.int .i64 ((qaF l0 a1_0).f1))∧w'.cell? ⟨(ad103.add ((a1_0).toNat * 7)).block,(ad103.add ((a1_0).toNat * 7)).off+2,none⟩=some (.int .i64 ((qaF l0 a1_0).f2))∧w'.cell? ⟨(ad103.add ((a1_0).toNat * 7)).block,(ad103.add ((a1_0).toNat * 7)).off+3,none⟩=some (.int .i64 ((qaF l0 a1_0).f3))∧w'.cell? ⟨(ad103.add ((a1_0).toNat * 7)).block,(ad103.add ((a1_0).toNat * 7)).off+4,none⟩=some (.int .i64 ((qaF l0 a1_0).f4))∧w'.cell? ⟨(ad103.add ((a1_0).toNat * 7)).block,(ad103.add ((a1_0).toNat * 7)).off+5,none⟩=some (.slice A103_5 ((qaF l0 a1_0).f5).length c103_5)∧w'.cell? ⟨(ad103.add ((a1_0).toNat * 7)).block,(ad103.add ((a1_0).toNat * 7)).off+6,none⟩=some (.slice A103_6 ((qaF l0 a1_0).f6).length c103_6)) (ds:=[]) (bitsA 13 0) (by kernel_rfl) rfl rfl ⟨(qaC BK101.out 0).trans rfl,(qaC BK101.out 1).trans rfl,(qaC BK101.out 2).trans rfl,(qaC BK101.out 3).trans rfl,((HB.out.cell (World.block_lt_of_cell? w _ hw103_0)).trans hw103_0),((HB.out.cell (World.block_lt_of_cell? w _ hw103_1)).trans hw103_1),((HB.out.cell (World.block_lt_of_cell? w _ hw103_2)).trans hw103_2),((HB.out.cell (World.block_lt_of_cell? w _ hw103_3)).trans hw103_3),((HB.out.cell (World.block_lt_of_cell? w _ hw103_4)).trans hw103_4),((HB.out.cell (World.block_lt_of_cell? w _ hw103_5)).trans hw103_5),((HB.out.cell (World.block_lt_of_cell? w _ hw103_6)).trans hw103_6)⟩ (fun hHeld=>?_);refine qbN sawmillref50_Amount.tab6 sawmillref50_Amount.bits6 (fun HT_ HW_=>?_)
            generalize wc.drew=w29 at BK101 HB HR103_5 HR103_6 hx103_0 hx103_1 hx103_2 hx103_3 hx103_4 hx103_5 hx103_6 hHeld ⊢
            refine qaU (i:=0) (N:=some 26) (v:=?_) (a':=?_) #[true,false,false,false,false,false,false,false,false,false,false,false,false] rfl rfl (qaR HT_.out (by kernel_rfl)) (fun _ _ _ h=>h) (Or.inl ⟨by rfl,?_⟩) ?_ ?_
            rotate_left;(intro w';go_simp;with_reducible rfl);rotate_left;(simp only [Act.put,List.setIfInBounds_toArray,List.set_cons_zero,List.set_cons_succ,qaO,qaP];rfl)
            refine qaU (i:=1) (N:=some 27) (v:=?_) (a':=?_) #[true,true,false,false,false,false,false,false,false,false,false,false,false] rfl rfl (qaR HT_.out (by kernel_rfl)) (fun _ _ _ h=>h) (Or.inl ⟨by rfl,?_⟩) ?_ ?_
            rotate_left;(intro w';go_simp;with_reducible rfl);rotate_left;(simp only [Act.put,List.setIfInBounds_toArray,List.set_cons_zero,List.set_cons_succ,qaO,qaP];rfl)
            refine qaU (i:=5) (N:=some 31) (v:=?_) (a':=?_) #[true,true,false,false,false,true,false,false,false,false,false,false,false] rfl rfl (qaR HT_.out (by kernel_rfl)) (fun _ _ _ h=>h) (Or.inl ⟨by rfl,?_⟩) ?_ ?_
            rotate_left;(intro w';go_simp;with_reducible rfl);rotate_left;(simp only [Act.put,List.setIfInBounds_toArray,List.set_cons_zero,List.set_cons_succ,qaO,qaP];rfl)
            refine take_ (i:=2) (N:=some 28) (v:=?_) (a':=?_) (bitsA 13 39) rfl rfl (qaX HT_.out HW_.out (by kernel_rfl)) (fun _ _ _ h=>h) (Or.inl ⟨by rfl,?_⟩) hHeld ?_ ?_
            rotate_left;(rintro w' ⟨s0,s1,s2,s3,s4,s5,s6,s7,s8,s9,s10⟩;go_simp;with_reducible rfl);rotate_left;(simp only [Act.put,List.setIfInBounds_toArray,List.set_cons_zero,List.set_cons_succ,qaO,qaP];rfl)
            refine qaU (i:=3) (N:=some 29) (v:=?_) (a':=?_) #[true,true,true,true,false,true,false,false,false,false,false,false,false] rfl rfl (qaR HT_.out (by kernel_rfl)) (fun _ _ _ h=>h) (Or.inl ⟨by rfl,?_⟩) ?_ ?_
            rotate_left;(intro w';go_simp;with_reducible rfl);rotate_left;(simp only [Act.put,List.setIfInBounds_toArray,List.set_cons_zero,List.set_cons_succ,qaO,qaP];rfl)
            refine take_ (i:=4) (N:=some 30) (v:=?_) (a':=?_) (bitsA 13 63) rfl rfl (qaX HT_.out HW_.out (by kernel_rfl)) (fun _ _ _ h=>h) (Or.inl ⟨by rfl,?_⟩) hHeld ?_ ?_
            rotate_left;(rintro w' ⟨s0,s1,s2,s3,s4,s5,s6,s7,s8,s9,s10⟩;go_simp;with_reducible rfl);rotate_left;(simp only [Act.put,List.setIfInBounds_toArray,List.set_cons_zero,List.set_cons_succ,qaO,qaP];rfl)
            refine take_ (i:=6) (N:=some 32) (v:=?_) (a':=?_) (bitsA 13 127) rfl rfl (qaX HT_.out HW_.out (by kernel_rfl)) (fun _ _ _ h=>h) (Or.inl ⟨by rfl,?_⟩) hHeld ?_ ?_
            rotate_left;(rintro w' ⟨s0,s1,s2,s3,s4,s5,s6,s7,s8,s9,s10⟩;go_simp;with_reducible rfl);rotate_left;(simp only [Act.put,List.setIfInBounds_toArray,List.set_cons_zero,List.set_cons_succ,qaO,qaP];rfl)
            refine one_ (i:=7) (N:=some 33) (bitsA 13 255) rfl rfl (qbM HT_.out (by kernel_rfl)) (by decide) (fun K hK=>?_)
            refine goes_ Tryd.func32 (by kernel_rfl) rfl #[.agg #[.string ((qaF l0 a1_0).f0),.int .i64 ((qaF l0 a1_0).f1),.int .i64 ((qaF l0 a1_0).f2),.int .i64 ((qaF l0 a1_0).f3),.int .i64 ((qaF l0 a1_0).f4),.slice A103_5 ((qaF l0 a1_0).f5).length c103_5,.slice A103_6 ((qaF l0 a1_0).f6).length c103_6],.int .i64 a1_1] (by rfl) rfl rfl (by (try simp only [List.map_toArray,List.map_cons,List.map_nil]);first|done|rfl|(simp only [List.length_drop,List.length_take];rfl)) ?_
            with_reducible refine (sawmillref19_Price.calls kj4 ((qaF l0 a1_0).f0) ((qaF l0 a1_0).f1) ((qaF l0 a1_0).f2) ((qaF l0 a1_0).f3) ((qaF l0 a1_0).f4) _ _ ((qaF l0 a1_0).f5) _ _ ((qaF l0 a1_0).f6) a1_1 t104 true _ ?side1 ?side2 ?side3 ?side4 A14.out).mono ?_
            (case side1=>repeat (first|exact (Kd.C_below HR103_5.out HB.out)|(with_reducible refine Kd.C_alloc ?_ _)|(with_reducible refine Kd.C_drewN ?_ _)|(with_reducible refine Kd.C_drew ?_)))
            (case side2=>exact HC103_5.out)
            (case side3=>repeat (first|exact (Kd.C_below HR103_6.out HB.out)|(with_reducible refine Kd.C_alloc ?_ _)|(with_reducible refine Kd.C_drewN ?_ _)|(with_reducible refine Kd.C_drew ?_)))
            (case side4=>exact HC103_6.out)
            rintro e w30 ⟨rfl,hb⟩
            refine ⟨_,rfl,?_⟩
            have n0_:=Aside0.mk (qaQ (g:=gb101) (o:=.cells #[.int .i64 a1_0,.int .i64 a1_1,.int .i64 a1_2,.int .i64 a1_3] 38 (0,0)) (by (with_reducible repeat (first|refine qaJ ?_ _|refine qaK ?_|refine qaI ?_ _));exact BK101.out) hb)
            have n1_:=Aside0.mk (qaH (by repeat (first|(with_reducible first|exact HB.out|apply qaD|apply qaB|apply qaE|refine qaG ?_ GE101.out)|exact HB.out)) hb)
            clear BK101
            clear HB
            have BK101:=n0_
            have HB:=n1_
            clear n0_ n1_
            (try clear hb)
            (try clear hb2)
            (try clear hk)
            (try clear hi)
            refine hK.out _ _ ⟨(qaC BK101.out 0).trans rfl,(qaC BK101.out 1).trans rfl,(qaC BK101.out 2).trans rfl,(qaC BK101.out 3).trans rfl,((HB.out.cell (World.block_lt_of_cell? w _ hw103_0)).trans hw103_0),((HB.out.cell (World.block_lt_of_cell? w _ hw103_1)).trans hw103_1),((HB.out.cell (World.block_lt_of_cell? w _ hw103_2)).trans hw103_2),((HB.out.cell (World.block_lt_of_cell? w _ hw103_3)).trans hw103_3),((HB.out.cell (World.block_lt_of_cell? w _ hw103_4)).trans hw103_4),((HB.out.cell (World.block_lt_of_cell? w _ hw103_5)).trans hw103_5),((HB.out.cell (World.block_lt_of_cell? w _ hw103_6)).trans hw103_6)⟩ (fun hHeld=>?_)
            clear hK K
            refine norm_ (a':=?_) ?_ ?_
            rotate_left
            ·show Act.put _ (some 33) _=_
             simp only [Act.put,List.setIfInBounds_toArray,List.set_cons_zero,List.set_cons_succ,qaO,qaP]
             rfl
            refine qaU (i:=8) (N:=some 25) (v:=?_) (a':=?_) #[true,true,true,true,true,true,true,true,true,false,false,false,false] rfl rfl (qaR HT_.out (by kernel_rfl)) (fun _ _ _ h=>h) (Or.inl ⟨by rfl,?_⟩) ?_ ?_
            rotate_left;(intro w';go_simp;with_reducible rfl);rotate_left;(simp only [Act.put,List.setIfInBounds_toArray,List.set_cons_zero,List.set_cons_succ,qaO,qaP];rfl)
            refine qaU (i:=9) (N:=some 34) (v:=?_) (a':=?_) #[true,true,true,true,true,true,true,true,true,true,false,false,false] rfl rfl (qaR HT_.out (by kernel_rfl)) (fun _ _ _ h=>h) (Or.inl ⟨by rfl,?_⟩) ?_ ?_
            rotate_left;(intro w';go_simp;with_reducible rfl);rotate_left;(simp only [Act.put,List.setIfInBounds_toArray,List.set_cons_zero,List.set_cons_succ,qaO,qaP];rfl)
            refine qaU (i:=10) (N:=some 35) (v:=?_) (a':=?_) #[true,true,true,true,true,true,true,true,true,true,true,false,false] rfl rfl (qaR HT_.out (by kernel_rfl)) (fun _ _ _ h=>h) (Or.inl ⟨by rfl,?_⟩) ?_ ?_
            rotate_left;(intro w';go_simp;with_reducible rfl);rotate_left;(simp only [Act.put,List.setIfInBounds_toArray,List.set_cons_zero,List.set_cons_succ,qaO,qaP];rfl)
            refine qaU (i:=11) (N:=some 7) (v:=?_) (a':=?_) #[true,true,true,true,true,true,true,true,true,true,true,true,false] rfl rfl (qaR HT_.out (by kernel_rfl)) (fun _ _ _ h=>h) (Or.inl ⟨by rfl,?_⟩) ?_ ?_
            rotate_left;(intro w';go_simp;with_reducible rfl);rotate_left;(simp only [Act.put,List.setIfInBounds_toArray,List.set_cons_zero,List.set_cons_succ,qaO,qaP];rfl)
            refine qaU (i:=12) (N:=some 8) (v:=?_) (a':=?_) #[true,true,true,true,true,true,true,true,true,true,true,true,true] rfl rfl (qaR HT_.out (by kernel_rfl)) (fun _ _ _ h=>h) (Or.inl ⟨by rfl,?_⟩) ?_ ?_
            rotate_left;(intro w';go_simp;with_reducible rfl);rotate_left;(simp only [Act.put,List.setIfInBounds_toArray,List.set_cons_zero,List.set_cons_succ,qaO,qaP];rfl)
            refine done_ (done_of HT_.out (by kernel_rfl)) ?_
            have hcz31_0:w30.cell? ⟨gb101,0,none⟩=some (.int .i64 a1_0):=(qaC BK101.out 0).trans rfl
            have hcz31_1:w30.cell? ⟨gb101,1,none⟩=some (.int .i64 a1_1):=(qaC BK101.out 1).trans rfl
            have hcz31_2:w30.cell? ⟨gb101,2,none⟩=some (.int .i64 a1_2):=(qaC BK101.out 2).trans rfl
            have hcz31_3:w30.cell? ⟨gb101,3,none⟩=some (.int .i64 a1_3):=(qaC BK101.out 3).trans rfl
            have hfz31_0:=qaA BK101.out 0
            have hfz31_1:=qaA BK101.out 1
            have hfz31_2:=qaA BK101.out 2
            have hfz31_3:=qaA BK101.out 3
            try go_wp2
            go_ret2
            exact ⟨by first|rfl|(simp [qaL,qaM]<;>rfl)|(simp [*,qaL,qaM]<;>rfl),by repeat (first|(with_reducible first|exact HB.out|apply qaD|apply qaB|apply qaE|refine qaG ?_ GE101.out)|exact HB.out)⟩
           ·rw [if_neg c28] at H
            have c28b0:decide (1000000000 < a1_3)=false:=decide_eq_false c28
            clear c28
            replace H:=Option.bind_eq_some_iff.mp H
            obtain ⟨t107,A320,H⟩:=H
            replace H:(some (wrap64 ((wrap64 ((wrap64 (Int.tdiv (wrap64 (t107 * a1_2)) 1000000000)) * a1_3))+(wrap64 (Int.tdiv (wrap64 ((wrap64 ((Int.tmod (wrap64 (t107 * a1_2)) 1000000000) * a1_3))+500000000)) 1000000000))),0))=some (r1,r2):=H
            have A32:=Aside0.mk A320
            clear A320
            simp only [Option.some.injEq,Prod.mk.injEq] at H
            obtain ⟨rfl,rfl⟩:=H
            try go_wp2
            have n0_:=Aside0.mk (qaK BK101.out)
            have n1_:=Aside0.mk (qaE HB.out)
            clear BK101
            clear HB
            have BK101:=n0_
            have HB:=n1_
            clear n0_ n1_
            have p103:0≤(a1_0:Int):=of_decide_eq_true (by first|(with_reducible assumption)|assumption)
            have q103:a1_0 < (l0.length:Int):=of_decide_eq_true (by first|(with_reducible assumption)|assumption)
            obtain ⟨ad103,A103_5,c103_5,A103_6,c103_6,e103,hx103_0,hx103_1,hx103_2,hx103_3,hx103_4,hx103_5,hx103_6,hl103_5,hi103_5,hl103_6,hi103_6⟩:=at_T53 HR0.out a1_0 p103 q103
            have hw103_6:=hx103_6
            have hw103_5:=hx103_5
            have hw103_4:=hx103_4
            have hw103_3:=hx103_3
            have hw103_2:=hx103_2
            have hw103_1:=hx103_1
            have hw103_0:=hx103_0
            cases e103
            replace hx103_0:=(HB.out.cell (World.block_lt_of_cell? w _ hx103_0)).trans hx103_0
            replace hx103_1:=(HB.out.cell (World.block_lt_of_cell? w _ hx103_1)).trans hx103_1
            replace hx103_2:=(HB.out.cell (World.block_lt_of_cell? w _ hx103_2)).trans hx103_2
            replace hx103_3:=(HB.out.cell (World.block_lt_of_cell? w _ hx103_3)).trans hx103_3
            replace hx103_4:=(HB.out.cell (World.block_lt_of_cell? w _ hx103_4)).trans hx103_4
            replace hx103_5:=(HB.out.cell (World.block_lt_of_cell? w _ hx103_5)).trans hx103_5
            replace hx103_6:=(HB.out.cell (World.block_lt_of_cell? w _ hx103_6)).trans hx103_6
            have HR103_5:=Aside0.mk hi103_5
            have HC103_5:=Aside0.mk hl103_5
            clear hi103_5 hl103_5
            have HR103_6:=Aside0.mk hi103_6
            have HC103_6:=Aside0.mk hl103_6
            clear hi103_6 hl103_6
            replace p103:=eq_true p103
            replace q103:=eq_true q103
            refine start_ (n:=13) (S:=fun w'=>w'.cell? ⟨gb101,0,none⟩=some (.int .i64 a1_0)∧w'.cell? ⟨gb101,1,none⟩=some (.int .i64 a1_1)∧w'.cell? ⟨gb101,2,none⟩=some (.int .i64 a1_2)∧w'.cell? ⟨gb101,3,none⟩=some (.int .i64 a1_3)∧w'.cell? (ad103.add ((a1_0).toNat * 7))=some (.string ((qaF l0 a1_0).f0))∧w'.cell? ⟨(ad103.add ((a1_0).toNat * 7)).block,(ad103.add ((a1_0).toNat * 7)).off+1,none⟩=some (.int .i64 ((qaF l0 a1_0).f1))∧w'.cell? ⟨(ad103.add ((a1_0).toNat * 7)).block,(ad103.add ((a1_0).toNat * 7)).off+2,none⟩=some (.int .i64 ((qaF l0 a1_0).f2))∧w'.cell? ⟨(ad103.add ((a1_0).toNat * 7)).block,(ad103.add ((a1_0).toNat * 7)).off+3,none⟩=some (.int .i64 ((qaF l0 a1_0).f3))∧w'.cell? ⟨(ad103.add ((a1_0).toNat * 7)).block,(ad103.add ((a1_0).toNat * 7)).off+4,none⟩=some (.int .i64 ((qaF l0 a1_0).f4))∧w'.cell? ⟨(ad103.add ((a1_0).toNat * 7)).block,(ad103.add ((a1_0).toNat * 7)).off+5,none⟩=some (.slice A103_5 ((qaF l0 a1_0).f5).length c103_5)∧w'.cell? ⟨(ad103.add ((a1_0).toNat * 7)).block,(ad103.add ((a1_0).toNat * 7)).off+6,none⟩=some (.slice A103_6 ((qaF l0 a1_0).f6).length c103_6)) (ds:=[]) (bitsA 13 0) (by kernel_rfl) rfl rfl ⟨(qaC BK101.out 0).trans rfl,(qaC BK101.out 1).trans rfl,(qaC BK101.out 2).trans rfl,(qaC BK101.out 3).trans rfl,((HB.out.cell (World.block_lt_of_cell? w _ hw103_0)).trans hw103_0),((HB.out.cell (World.block_lt_of_cell? w _ hw103_1)).trans hw103_1),((HB.out.cell (World.block_lt_of_cell? w _ hw103_2)).trans hw103_2),((HB.out.cell (World.block_lt_of_cell? w _ hw103_3)).trans hw103_3),((HB.out.cell (World.block_lt_of_cell? w _ hw103_4)).trans hw103_4),((HB.out.cell (World.block_lt_of_cell? w _ hw103_5)).trans hw103_5),((HB.out.cell (World.block_lt_of_cell? w _ hw103_6)).trans hw103_6)⟩ (fun hHeld=>?_);refine qbN sawmillref50_Amount.tab6 sawmillref50_Amount.bits6 (fun HT_ HW_=>?_)
            generalize wc.drew=w33 at BK101 HB HR103_5 HR103_6 hx103_0 hx103_1 hx103_2 hx103_3 hx103_4 hx103_5 hx103_6 hHeld ⊢
            refine qaU (i:=0) (N:=some 26) (v:=?_) (a':=?_) #[true,false,false,false,false,false,false,false,false,false,false,false,false] rfl rfl (qaR HT_.out (by kernel_rfl)) (fun _ _ _ h=>h) (Or.inl ⟨by rfl,?_⟩) ?_ ?_
            rotate_left;(intro w';go_simp;with_reducible rfl);rotate_left;(simp only [Act.put,List.setIfInBounds_toArray,List.set_cons_zero,List.set_cons_succ,qaO,qaP];rfl)
            refine qaU (i:=1) (N:=some 27) (v:=?_) (a':=?_) #[true,true,false,false,false,false,false,false,false,false,false,false,false] rfl rfl (qaR HT_.out (by kernel_rfl)) (fun _ _ _ h=>h) (Or.inl ⟨by rfl,?_⟩) ?_ ?_
            rotate_left;(intro w';go_simp;with_reducible rfl);rotate_left;(simp only [Act.put,List.setIfInBounds_toArray,List.set_cons_zero,List.set_cons_succ,qaO,qaP];rfl)
            refine qaU (i:=5) (N:=some 31) (v:=?_) (a':=?_) #[true,true,false,false,false,true,false,false,false,false,false,false,false] rfl rfl (qaR HT_.out (by kernel_rfl)) (fun _ _ _ h=>h) (Or.inl ⟨by rfl,?_⟩) ?_ ?_
            rotate_left;(intro w';go_simp;with_reducible rfl);rotate_left;(simp only [Act.put,List.setIfInBounds_toArray,List.set_cons_zero,List.set_cons_succ,qaO,qaP];rfl)
            refine take_ (i:=2) (N:=some 28) (v:=?_) (a':=?_) (bitsA 13 39) rfl rfl (qaX HT_.out HW_.out (by kernel_rfl)) (fun _ _ _ h=>h) (Or.inl ⟨by rfl,?_⟩) hHeld ?_ ?_
            rotate_left;(rintro w' ⟨s0,s1,s2,s3,s4,s5,s6,s7,s8,s9,s10⟩;go_simp;with_reducible rfl);rotate_left;(simp only [Act.put,List.setIfInBounds_toArray,List.set_cons_zero,List.set_cons_succ,qaO,qaP];rfl)
            refine qaU (i:=3) (N:=some 29) (v:=?_) (a':=?_) #[true,true,true,true,false,true,false,false,false,false,false,false,false] rfl rfl (qaR HT_.out (by kernel_rfl)) (fun _ _ _ h=>h) (Or.inl ⟨by rfl,?_⟩) ?_ ?_
            rotate_left;(intro w';go_simp;with_reducible rfl);rotate_left;(simp only [Act.put,List.setIfInBounds_toArray,List.set_cons_zero,List.set_cons_succ,qaO,qaP];rfl)
            refine take_ (i:=4) (N:=some 30) (v:=?_) (a':=?_) (bitsA 13 63) rfl rfl (qaX HT_.out HW_.out (by kernel_rfl)) (fun _ _ _ h=>h) (Or.inl ⟨by rfl,?_⟩) hHeld ?_ ?_
            rotate_left;(rintro w' ⟨s0,s1,s2,s3,s4,s5,s6,s7,s8,s9,s10⟩;go_simp;with_reducible rfl);rotate_left;(simp only [Act.put,List.setIfInBounds_toArray,List.set_cons_zero,List.set_cons_succ,qaO,qaP];rfl)
            refine take_ (i:=6) (N:=some 32) (v:=?_) (a':=?_) (bitsA 13 127) rfl rfl (qaX HT_.out HW_.out (by kernel_rfl)) (fun _ _ _ h=>h) (Or.inl ⟨by rfl,?_⟩) hHeld ?_ ?_
            rotate_left;(rintro w' ⟨s0,s1,s2,s3,s4,s5,s6,s7,s8,s9,s10⟩;go_simp;with_reducible rfl);rotate_left;(simp only [Act.put,List.setIfInBounds_toArray,List.set_cons_zero,List.set_cons_succ,qaO,qaP];rfl)
            refine one_ (i:=7) (N:=some 33) (bitsA 13 255) rfl rfl (qbM HT_.out (by kernel_rfl)) (by decide) (fun K hK=>?_)
            refine goes_ Tryd.func32 (by kernel_rfl) rfl #[.agg #[.string ((qaF l0 a1_0).f0),.int .i64 ((qaF l0 a1_0).f1),.int .i64 ((qaF l0 a1_0).f2),.int .i64 ((qaF l0 a1_0).f3),.int .i64 ((qaF l0 a1_0).f4),.slice A103_5 ((qaF l0 a1_0).f5).length c103_5,.slice A103_6 ((qaF l0 a1_0).f6).length c103_6],.int .i64 a1_1] (by rfl) rfl rfl (by (try simp only [List.map_toArray,List.map_cons,List.map_nil]);first|done|rfl|(simp only [List.length_drop,List.length_take];rfl)) ?_
            with_reducible refine (sawmillref19_Price.calls kj4 ((qaF l0 a1_0).f0) ((qaF l0 a1_0).f1) ((qaF l0 a1_0).f2) ((qaF l0 a1_0).f3) ((qaF l0 a1_0).f4) _ _ ((qaF l0 a1_0).f5) _ _ ((qaF l0 a1_0).f6) a1_1 t104 true _ ?side1 ?side2 ?side3 ?side4 A14.out).mono ?_
            (case side1=>repeat (first|exact (Kd.C_below HR103_5.out HB.out)|(with_reducible refine Kd.C_alloc ?_ _)|(with_reducible refine Kd.C_drewN ?_ _)|(with_reducible refine Kd.C_drew ?_)))
            (case side2=>exact HC103_5.out)
            (case side3=>repeat (first|exact (Kd.C_below HR103_6.out HB.out)|(with_reducible refine Kd.C_alloc ?_ _)|(with_reducible refine Kd.C_drewN ?_ _)|(with_reducible refine Kd.C_drew ?_)))
            (case side4=>exact HC103_6.out)
            rintro e w34 ⟨rfl,hb⟩
            refine ⟨_,rfl,?_⟩
            have n0_:=Aside0.mk (qaQ (g:=gb101) (o:=.cells #[.int .i64 a1_0,.int .i64 a1_1,.int .i64 a1_2,.int .i64 a1_3] 38 (0,0)) (by (with_reducible repeat (first|refine qaJ ?_ _|refine qaK ?_|refine qaI ?_ _));exact BK101.out) hb)
            have n1_:=Aside0.mk (qaH (by repeat (first|(with_reducible first|exact HB.out|apply qaD|apply qaB|apply qaE|refine qaG ?_ GE101.out)|exact HB.out)) hb)
            clear BK101
            clear HB
            have BK101:=n0_
            have HB:=n1_
            clear n0_ n1_
            (try clear hb)
            (try clear hb2)
            (try clear hk)
            (try clear hi)
            refine hK.out _ _ ⟨(qaC BK101.out 0).trans rfl,(qaC BK101.out 1).trans rfl,(qaC BK101.out 2).trans rfl,(qaC BK101.out 3).trans rfl,((HB.out.cell (World.block_lt_of_cell? w _ hw103_0)).trans hw103_0),((HB.out.cell (World.block_lt_of_cell? w _ hw103_1)).trans hw103_1),((HB.out.cell (World.block_lt_of_cell? w _ hw103_2)).trans hw103_2),((HB.out.cell (World.block_lt_of_cell? w _ hw103_3)).trans hw103_3),((HB.out.cell (World.block_lt_of_cell? w _ hw103_4)).trans hw103_4),((HB.out.cell (World.block_lt_of_cell? w _ hw103_5)).trans hw103_5),((HB.out.cell (World.block_lt_of_cell? w _ hw103_6)).trans hw103_6)⟩ (fun hHeld=>?_)
            clear hK K
            refine norm_ (a':=?_) ?_ ?_
            rotate_left
            ·show Act.put _ (some 33) _=_
             simp only [Act.put,List.setIfInBounds_toArray,List.set_cons_zero,List.set_cons_succ,qaO,qaP]
             rfl
            refine qaU (i:=8) (N:=some 25) (v:=?_) (a':=?_) #[true,true,true,true,true,true,true,true,true,false,false,false,false] rfl rfl (qaR HT_.out (by kernel_rfl)) (fun _ _ _ h=>h) (Or.inl ⟨by rfl,?_⟩) ?_ ?_
            rotate_left;(intro w';go_simp;with_reducible rfl);rotate_left;(simp only [Act.put,List.setIfInBounds_toArray,List.set_cons_zero,List.set_cons_succ,qaO,qaP];rfl)
            refine qaU (i:=9) (N:=some 34) (v:=?_) (a':=?_) #[true,true,true,true,true,true,true,true,true,true,false,false,false] rfl rfl (qaR HT_.out (by kernel_rfl)) (fun _ _ _ h=>h) (Or.inl ⟨by rfl,?_⟩) ?_ ?_
            rotate_left;(intro w';go_simp;with_reducible rfl);rotate_left;(simp only [Act.put,List.setIfInBounds_toArray,List.set_cons_zero,List.set_cons_succ,qaO,qaP];rfl)
            refine qaU (i:=10) (N:=some 35) (v:=?_) (a':=?_) #[true,true,true,true,true,true,true,true,true,true,true,false,false] rfl rfl (qaR HT_.out (by kernel_rfl)) (fun _ _ _ h=>h) (Or.inl ⟨by rfl,?_⟩) ?_ ?_
            rotate_left;(intro w';go_simp;with_reducible rfl);rotate_left;(simp only [Act.put,List.setIfInBounds_toArray,List.set_cons_zero,List.set_cons_succ,qaO,qaP];rfl)
            refine qaU (i:=11) (N:=some 7) (v:=?_) (a':=?_) #[true,true,true,true,true,true,true,true,true,true,true,true,false] rfl rfl (qaR HT_.out (by kernel_rfl)) (fun _ _ _ h=>h) (Or.inl ⟨by rfl,?_⟩) ?_ ?_
            rotate_left;(intro w';go_simp;with_reducible rfl);rotate_left;(simp only [Act.put,List.setIfInBounds_toArray,List.set_cons_zero,List.set_cons_succ,qaO,qaP];rfl)
            refine qaU (i:=12) (N:=some 8) (v:=?_) (a':=?_) #[true,true,true,true,true,true,true,true,true,true,true,true,true] rfl rfl (qaR HT_.out (by kernel_rfl)) (fun _ _ _ h=>h) (Or.inl ⟨by rfl,?_⟩) ?_ ?_
            rotate_left;(intro w';go_simp;with_reducible rfl);rotate_left;(simp only [Act.put,List.setIfInBounds_toArray,List.set_cons_zero,List.set_cons_succ,qaO,qaP];rfl)
            refine done_ (done_of HT_.out (by kernel_rfl)) ?_
            have hcz35_0:w34.cell? ⟨gb101,0,none⟩=some (.int .i64 a1_0):=(qaC BK101.out 0).trans rfl
            have hcz35_1:w34.cell? ⟨gb101,1,none⟩=some (.int .i64 a1_1):=(qaC BK101.out 1).trans rfl
            have hcz35_2:w34.cell? ⟨gb101,2,none⟩=some (.int .i64 a1_2):=(qaC BK101.out 2).trans rfl
            have hcz35_3:w34.cell? ⟨gb101,3,none⟩=some (.int .i64 a1_3):=(qaC BK101.out 3).trans rfl
            have hfz35_0:=qaA BK101.out 0
            have hfz35_1:=qaA BK101.out 1
            have hfz35_2:=qaA BK101.out 2
            have hfz35_3:=qaA BK101.out 3
            try go_wp2
            have n0_:=Aside0.mk (qaK BK101.out)
            have n1_:=Aside0.mk (qaE HB.out)
            clear BK101
            clear HB
            have BK101:=n0_
            have HB:=n1_
            clear n0_ n1_
            have p106:0≤(a1_0:Int):=of_decide_eq_true (by first|(with_reducible assumption)|assumption)
            have q106:a1_0 < (l0.length:Int):=of_decide_eq_true (by first|(with_reducible assumption)|assumption)
            obtain ⟨ad106,A106_5,c106_5,A106_6,c106_6,e106,hx106_0,hx106_1,hx106_2,hx106_3,hx106_4,hx106_5,hx106_6,hl106_5,hi106_5,hl106_6,hi106_6⟩:=at_T53 HR0.out a1_0 p106 q106
            have hw106_6:=hx106_6
            have hw106_5:=hx106_5
            have hw106_4:=hx106_4
            have hw106_3:=hx106_3
            have hw106_2:=hx106_2
            have hw106_1:=hx106_1
            have hw106_0:=hx106_0
            obtain rfl:ad103=ad106:=(by injection e106)
            replace hx106_0:=(HB.out.cell (World.block_lt_of_cell? w _ hx106_0)).trans hx106_0
            replace hx106_1:=(HB.out.cell (World.block_lt_of_cell? w _ hx106_1)).trans hx106_1
            replace hx106_2:=(HB.out.cell (World.block_lt_of_cell? w _ hx106_2)).trans hx106_2
            replace hx106_3:=(HB.out.cell (World.block_lt_of_cell? w _ hx106_3)).trans hx106_3
            replace hx106_4:=(HB.out.cell (World.block_lt_of_cell? w _ hx106_4)).trans hx106_4
            replace hx106_5:=(HB.out.cell (World.block_lt_of_cell? w _ hx106_5)).trans hx106_5
            replace hx106_6:=(HB.out.cell (World.block_lt_of_cell? w _ hx106_6)).trans hx106_6
            have HR106_5:=Aside0.mk hi106_5
            have HC106_5:=Aside0.mk hl106_5
            clear hi106_5 hl106_5
            have HR106_6:=Aside0.mk hi106_6
            have HC106_6:=Aside0.mk hl106_6
            clear hi106_6 hl106_6
            replace p106:=eq_true p106
            replace q106:=eq_true q106
            refine start_ (n:=12) (S:=fun w'=>w'.cell? ⟨gb101,0,none⟩=some (.int .i64 a1_0)∧w'.cell? ⟨gb101,1,none⟩=some (.int .i64 a1_1)∧w'.cell? ⟨gb101,2,none⟩=some (.int .i64 a1_2)∧w'.cell? ⟨gb101,3,none⟩=some (.int .i64 a1_3)∧w'.cell? (ad103.add ((a1_0).toNat * 7))=some (.string ((qaF l0 a1_0).f0))∧w'.cell? ⟨(ad103.add ((a1_0).toNat * 7)).block,(ad103.add ((a1_0).toNat * 7)).off+1,none⟩=some (.int .i64 ((qaF l0 a1_0).f1))∧w'.cell? ⟨(ad103.add ((a1_0).toNat * 7)).block,(ad103.add ((a1_0).toNat * 7)).off+2,none⟩=some (.int .i64 ((qaF l0 a1_0).f2))∧w'.cell? ⟨(ad103.add ((a1_0).toNat * 7)).block,(ad103.add ((a1_0).toNat * 7)).off+3,none⟩=some (.int .i64 ((qaF l0 a1_0).f3))∧w'.cell? ⟨(ad103.add ((a1_0).toNat * 7)).block,(ad103.add ((a1_0).toNat * 7)).off+4,none⟩=some (.int .i64 ((qaF l0 a1_0).f4))∧w'.cell? ⟨(ad103.add ((a1_0).toNat * 7)).block,(ad103.add ((a1_0).toNat * 7)).off+5,none⟩=some (.slice A106_5 ((qaF l0 a1_0).f5).length c106_5)∧w'.cell? ⟨(ad103.add ((a1_0).toNat * 7)).block,(ad103.add ((a1_0).toNat * 7)).off+6,none⟩=some (.slice A106_6 ((qaF l0 a1_0).f6).length c106_6)) (ds:=[]) (bitsA 12 0) (by kernel_rfl) rfl rfl ⟨(qaC BK101.out 0).trans rfl,(qaC BK101.out 1).trans rfl,(qaC BK101.out 2).trans rfl,(qaC BK101.out 3).trans rfl,((HB.out.cell (World.block_lt_of_cell? w _ hw106_0)).trans hw106_0),((HB.out.cell (World.block_lt_of_cell? w _ hw106_1)).trans hw106_1),((HB.out.cell (World.block_lt_of_cell? w _ hw106_2)).trans hw106_2),((HB.out.cell (World.block_lt_of_cell? w _ hw106_3)).trans hw106_3),((HB.out.cell (World.block_lt_of_cell? w _ hw106_4)).trans hw106_4),((HB.out.cell (World.block_lt_of_cell? w _ hw106_5)).trans hw106_5),((HB.out.cell (World.block_lt_of_cell? w _ hw106_6)).trans hw106_6)⟩ (fun hHeld=>?_);refine qbN sawmillref50_Amount.tab11 sawmillref50_Amount.bits11 (fun HT_ HW_=>?_)
            generalize w34.drew=w36 at BK101 HB HR106_5 HR106_6 hx106_0 hx106_1 hx106_2 hx106_3 hx106_4 hx106_5 hx106_6 hHeld ⊢
            refine qaU (i:=0) (N:=some 56) (v:=?_) (a':=?_) #[true,false,false,false,false,false,false,false,false,false,false,false] rfl rfl (qaR HT_.out (by kernel_rfl)) (fun _ _ _ h=>h) (Or.inl ⟨by rfl,?_⟩) ?_ ?_
            rotate_left;(intro w';go_simp;with_reducible rfl);rotate_left;(simp only [Act.put,List.setIfInBounds_toArray,List.set_cons_zero,List.set_cons_succ,qaO,qaP];rfl)
            refine qaU (i:=1) (N:=some 57) (v:=?_) (a':=?_) #[true,true,false,false,false,false,false,false,false,false,false,false] rfl rfl (qaR HT_.out (by kernel_rfl)) (fun _ _ _ h=>h) (Or.inl ⟨by rfl,?_⟩) ?_ ?_
            rotate_left;(intro w';go_simp;with_reducible rfl);rotate_left;(simp only [Act.put,List.setIfInBounds_toArray,List.set_cons_zero,List.set_cons_succ,qaO,qaP];rfl)
            refine qaU (i:=5) (N:=some 61) (v:=?_) (a':=?_) #[true,true,false,false,false,true,false,false,false,false,false,false] rfl rfl (qaR HT_.out (by kernel_rfl)) (fun _ _ _ h=>h) (Or.inl ⟨by rfl,?_⟩) ?_ ?_
            rotate_left;(intro w';go_simp;with_reducible rfl);rotate_left;(simp only [Act.put,List.setIfInBounds_toArray,List.set_cons_zero,List.set_cons_succ,qaO,qaP];rfl)
            refine qaU (i:=8) (N:=some 64) (v:=?_) (a':=?_) #[true,true,false,false,false,true,false,false,true,false,false,false] rfl rfl (qaR HT_.out (by kernel_rfl)) (fun _ _ _ h=>h) (Or.inl ⟨by rfl,?_⟩) ?_ ?_
            rotate_left;(intro w';go_simp;with_reducible rfl);rotate_left;(simp only [Act.put,List.setIfInBounds_toArray,List.set_cons_zero,List.set_cons_succ,qaO,qaP];rfl)
            refine take_ (i:=2) (N:=some 58) (v:=?_) (a':=?_) (bitsA 12 295) rfl rfl (qaX HT_.out HW_.out (by kernel_rfl)) (fun _ _ _ h=>h) (Or.inl ⟨by rfl,?_⟩) hHeld ?_ ?_
            rotate_left;(rintro w' ⟨s0,s1,s2,s3,s4,s5,s6,s7,s8,s9,s10⟩;go_simp;with_reducible rfl);rotate_left;(simp only [Act.put,List.setIfInBounds_toArray,List.set_cons_zero,List.set_cons_succ,qaO,qaP];rfl)
            refine qaU (i:=3) (N:=some 59) (v:=?_) (a':=?_) #[true,true,true,true,false,true,false,false,true,false,false,false] rfl rfl (qaR HT_.out (by kernel_rfl)) (fun _ _ _ h=>h) (Or.inl ⟨by rfl,?_⟩) ?_ ?_
            rotate_left;(intro w';go_simp;with_reducible rfl);rotate_left;(simp only [Act.put,List.setIfInBounds_toArray,List.set_cons_zero,List.set_cons_succ,qaO,qaP];rfl)
            refine take_ (i:=4) (N:=some 60) (v:=?_) (a':=?_) (bitsA 12 319) rfl rfl (qaX HT_.out HW_.out (by kernel_rfl)) (fun _ _ _ h=>h) (Or.inl ⟨by rfl,?_⟩) hHeld ?_ ?_
            rotate_left;(rintro w' ⟨s0,s1,s2,s3,s4,s5,s6,s7,s8,s9,s10⟩;go_simp;with_reducible rfl);rotate_left;(simp only [Act.put,List.setIfInBounds_toArray,List.set_cons_zero,List.set_cons_succ,qaO,qaP];rfl)
            refine take_ (i:=6) (N:=some 62) (v:=?_) (a':=?_) (bitsA 12 383) rfl rfl (qaX HT_.out HW_.out (by kernel_rfl)) (fun _ _ _ h=>h) (Or.inl ⟨by rfl,?_⟩) hHeld ?_ ?_
            rotate_left;(rintro w' ⟨s0,s1,s2,s3,s4,s5,s6,s7,s8,s9,s10⟩;go_simp;with_reducible rfl);rotate_left;(simp only [Act.put,List.setIfInBounds_toArray,List.set_cons_zero,List.set_cons_succ,qaO,qaP];rfl)
            refine take_ (i:=9) (N:=some 65) (v:=?_) (a':=?_) (bitsA 12 895) rfl rfl (qaX HT_.out HW_.out (by kernel_rfl)) (fun _ _ _ h=>h) (Or.inl ⟨by rfl,?_⟩) hHeld ?_ ?_
            rotate_left;(rintro w' ⟨s0,s1,s2,s3,s4,s5,s6,s7,s8,s9,s10⟩;go_simp;with_reducible rfl);rotate_left;(simp only [Act.put,List.setIfInBounds_toArray,List.set_cons_zero,List.set_cons_succ,qaO,qaP];rfl)
            refine one_ (i:=7) (N:=some 63) (bitsA 12 1023) rfl rfl (qbM HT_.out (by kernel_rfl)) (by decide) (fun K hK=>?_)
            refine goes_ Tryd.func33 (by kernel_rfl) rfl #[.agg #[.string ((qaF l0 a1_0).f0),.int .i64 ((qaF l0 a1_0).f1),.int .i64 ((qaF l0 a1_0).f2),.int .i64 ((qaF l0 a1_0).f3),.int .i64 ((qaF l0 a1_0).f4),.slice A106_5 ((qaF l0 a1_0).f5).length c106_5,.slice A106_6 ((qaF l0 a1_0).f6).length c106_6],.int .i64 a1_1] (by rfl) rfl rfl (by (try simp only [List.map_toArray,List.map_cons,List.map_nil]);first|done|rfl|(simp only [List.length_drop,List.length_take];rfl)) ?_
            with_reducible refine (sawmillref19_Volume.calls ((qaF l0 a1_0).f0) ((qaF l0 a1_0).f1) ((qaF l0 a1_0).f2) ((qaF l0 a1_0).f3) ((qaF l0 a1_0).f4) _ _ ((qaF l0 a1_0).f5) _ _ ((qaF l0 a1_0).f6) a1_1 t107 _ ?side1 ?side2 ?side3 ?side4 A32.out).mono ?_
            (case side1=>repeat (first|exact (Kd.C_below HR106_5.out HB.out)|(with_reducible refine Kd.C_alloc ?_ _)|(with_reducible refine Kd.C_drewN ?_ _)|(with_reducible refine Kd.C_drew ?_)))
            (case side2=>exact HC106_5.out)
            (case side3=>repeat (first|exact (Kd.C_below HR106_6.out HB.out)|(with_reducible refine Kd.C_alloc ?_ _)|(with_reducible refine Kd.C_drewN ?_ _)|(with_reducible refine Kd.C_drew ?_)))
            (case side4=>exact HC106_6.out)
            rintro e w37 ⟨rfl,hb⟩
            refine ⟨_,rfl,?_⟩
            have n0_:=Aside0.mk (qaQ (g:=gb101) (o:=.cells #[.int .i64 a1_0,.int .i64 a1_1,.int .i64 a1_2,.int .i64 a1_3] 38 (0,0)) (by (with_reducible repeat (first|refine qaJ ?_ _|refine qaK ?_|refine qaI ?_ _));exact BK101.out) hb)
            have n1_:=Aside0.mk (qaH (by repeat (first|(with_reducible first|exact HB.out|apply qaD|apply qaB|apply qaE|refine qaG ?_ GE101.out)|exact HB.out)) hb)
            clear BK101
            clear HB
            have BK101:=n0_
            have HB:=n1_
            clear n0_ n1_
            (try clear hb)
            (try clear hb2)
            (try clear hk)
            (try clear hi)
            refine hK.out _ _ ⟨(qaC BK101.out 0).trans rfl,(qaC BK101.out 1).trans rfl,(qaC BK101.out 2).trans rfl,(qaC BK101.out 3).trans rfl,((HB.out.cell (World.block_lt_of_cell? w _ hw106_0)).trans hw106_0),((HB.out.cell (World.block_lt_of_cell? w _ hw106_1)).trans hw106_1),((HB.out.cell (World.block_lt_of_cell? w _ hw106_2)).trans hw106_2),((HB.out.cell (World.block_lt_of_cell? w _ hw106_3)).trans hw106_3),((HB.out.cell (World.block_lt_of_cell? w _ hw106_4)).trans hw106_4),((HB.out.cell (World.block_lt_of_cell? w _ hw106_5)).trans hw106_5),((HB.out.cell (World.block_lt_of_cell? w _ hw106_6)).trans hw106_6)⟩ (fun hHeld=>?_)
            clear hK K
            refine norm_ (a':=?_) ?_ ?_
            rotate_left
            ·show Act.put _ (some 63) _=_
             simp only [Act.put,List.setIfInBounds_toArray,List.set_cons_zero,List.set_cons_succ,qaO,qaP]
             rfl
            refine qaU (i:=10) (N:=some 66) (v:=?_) (a':=?_) #[true,true,true,true,true,true,true,true,true,true,true,false] rfl rfl (qaR HT_.out (by kernel_rfl)) (fun _ _ _ h=>h) (Or.inl ⟨by rfl,?_⟩) ?_ ?_
            rotate_left;(intro w';go_simp;with_reducible rfl);rotate_left;(simp only [Act.put,List.setIfInBounds_toArray,List.set_cons_zero,List.set_cons_succ,qaO,qaP];rfl)
            refine qaU (i:=11) (N:=some 9) (v:=?_) (a':=?_) #[true,true,true,true,true,true,true,true,true,true,true,true] rfl rfl (qaR HT_.out (by kernel_rfl)) (fun _ _ _ h=>h) (Or.inl ⟨by rfl,?_⟩) ?_ ?_
            rotate_left;(intro w';go_simp;with_reducible rfl);rotate_left;(simp only [Act.put,List.setIfInBounds_toArray,List.set_cons_zero,List.set_cons_succ,qaO,qaP];rfl)
            refine done_ (done_of HT_.out (by kernel_rfl)) ?_
            have hcz38_0:w37.cell? ⟨gb101,0,none⟩=some (.int .i64 a1_0):=(qaC BK101.out 0).trans rfl
            have hcz38_1:w37.cell? ⟨gb101,1,none⟩=some (.int .i64 a1_1):=(qaC BK101.out 1).trans rfl
            have hcz38_2:w37.cell? ⟨gb101,2,none⟩=some (.int .i64 a1_2):=(qaC BK101.out 2).trans rfl
            have hcz38_3:w37.cell? ⟨gb101,3,none⟩=some (.int .i64 a1_3):=(qaC BK101.out 3).trans rfl
            have hfz38_0:=qaA BK101.out 0
            have hfz38_1:=qaA BK101.out 1
            have hfz38_2:=qaA BK101.out 2
            have hfz38_3:=qaA BK101.out 3
            try go_wp2
            go_ret2
            exact ⟨by first|rfl|(simp [qaL,qaM]<;>rfl)|(simp [*,qaL,qaM]<;>rfl),by repeat (first|(with_reducible first|exact HB.out|apply qaD|apply qaB|apply qaE|refine qaG ?_ GE101.out)|exact HB.out)⟩
       ·replace c15:=Bool.eq_false_iff.mpr c15
        subst c15
        have H1:(some (0,20))=some (r1,r2):=by rw [if_neg (show ¬ (false=true) by decide)] at H;exact H
        clear H
        have H:=H1
        clear H1
        simp only [Option.some.injEq,Prod.mk.injEq] at H
        obtain ⟨rfl,rfl⟩:=H
        try go_wp2
        have n0_:=Aside0.mk (qaK BK101.out)
        have n1_:=Aside0.mk (qaE HB.out)
        clear BK101
        clear HB
        have BK101:=n0_
        have HB:=n1_
        clear n0_ n1_
        have p103:0≤(a1_0:Int):=of_decide_eq_true (by first|(with_reducible assumption)|assumption)
        have q103:a1_0 < (l0.length:Int):=of_decide_eq_true (by first|(with_reducible assumption)|assumption)
        obtain ⟨ad103,A103_5,c103_5,A103_6,c103_6,e103,hx103_0,hx103_1,hx103_2,hx103_3,hx103_4,hx103_5,hx103_6,hl103_5,hi103_5,hl103_6,hi103_6⟩:=at_T53 HR0.out a1_0 p103 q103
        have hw103_6:=hx103_6
        have hw103_5:=hx103_5
        have hw103_4:=hx103_4
        have hw103_3:=hx103_3
        have hw103_2:=hx103_2
        have hw103_1:=hx103_1
        have hw103_0:=hx103_0
        cases e103
        replace hx103_0:=(HB.out.cell (World.block_lt_of_cell? w _ hx103_0)).trans hx103_0
        replace hx103_1:=(HB.out.cell (World.block_lt_of_cell? w _ hx103_1)).trans hx103_1
        replace hx103_2:=(HB.out.cell (World.block_lt_of_cell? w _ hx103_2)).trans hx103_2
        replace hx103_3:=(HB.out.cell (World.block_lt_of_cell? w _ hx103_3)).trans hx103_3
        replace hx103_4:=(HB.out.cell (World.block_lt_of_cell? w _ hx103_4)).trans hx103_4
        replace hx103_5:=(HB.out.cell (World.block_lt_of_cell? w _ hx103_5)).trans hx103_5
        replace hx103_6:=(HB.out.cell (World.block_lt_of_cell? w _ hx103_6)).trans hx103_6
        have HR103_5:=Aside0.mk hi103_5
        have HC103_5:=Aside0.mk hl103_5
        clear hi103_5 hl103_5
        have HR103_6:=Aside0.mk hi103_6
        have HC103_6:=Aside0.mk hl103_6
        clear hi103_6 hl103_6
        replace p103:=eq_true p103
        replace q103:=eq_true q103
        refine start_ (n:=13) (S:=fun w'=>w'.cell? ⟨gb101,0,none⟩=some (.int .i64 a1_0)∧w'.cell? ⟨gb101,1,none⟩=some (.int .i64 a1_1)∧w'.cell? ⟨gb101,2,none⟩=some (.int .i64 a1_2)∧w'.cell? ⟨gb101,3,none⟩=some (.int .i64 a1_3)∧w'.cell? (ad103.add ((a1_0).toNat * 7))=some (.string ((qaF l0 a1_0).f0))∧w'.cell? ⟨(ad103.add ((a1_0).toNat * 7)).block,(ad103.add ((a1_0).toNat * 7)).off+1,none⟩=some (.int .i64 ((qaF l0 a1_0).f1))∧w'.cell? ⟨(ad103.add ((a1_0).toNat * 7)).block,(ad103.add ((a1_0).toNat * 7)).off+2,none⟩=some (.int .i64 ((qaF l0 a1_0).f2))∧w'.cell? ⟨(ad103.add ((a1_0).toNat * 7)).block,(ad103.add ((a1_0).toNat * 7)).off+3,none⟩=some (.int .i64 ((qaF l0 a1_0).f3))∧w'.cell? ⟨(ad103.add ((a1_0).toNat * 7)).block,(ad103.add ((a1_0).toNat * 7)).off+4,none⟩=some (.int .i64 ((qaF l0 a1_0).f4))∧w'.cell? ⟨(ad103.add ((a1_0).toNat * 7)).block,(ad103.add ((a1_0).toNat * 7)).off+5,none⟩=some (.slice A103_5 ((qaF l0 a1_0).f5).length c103_5)∧w'.cell? ⟨(ad103.add ((a1_0).toNat * 7)).block,(ad103.add ((a1_0).toNat * 7)).off+6,none⟩=some (.slice A103_6 ((qaF l0 a1_0).f6).length c103_6)) (ds:=[]) (bitsA 13 0) (by kernel_rfl) rfl rfl ⟨(qaC BK101.out 0).trans rfl,(qaC BK101.out 1).trans rfl,(qaC BK101.out 2).trans rfl,(qaC BK101.out 3).trans rfl,((HB.out.cell (World.block_lt_of_cell? w _ hw103_0)).trans hw103_0),((HB.out.cell (World.block_lt_of_cell? w _ hw103_1)).trans hw103_1),((HB.out.cell (World.block_lt_of_cell? w _ hw103_2)).trans hw103_2),((HB.out.cell (World.block_lt_of_cell? w _ hw103_3)).trans hw103_3),((HB.out.cell (World.block_lt_of_cell? w _ hw103_4)).trans hw103_4),((HB.out.cell (World.block_lt_of_cell? w _ hw103_5)).trans hw103_5),((HB.out.cell (World.block_lt_of_cell? w _ hw103_6)).trans hw103_6)⟩ (fun hHeld=>?_);refine qbN sawmillref50_Amount.tab6 sawmillref50_Amount.bits6 (fun HT_ HW_=>?_)
        generalize wc.drew=w39 at BK101 HB HR103_5 HR103_6 hx103_0 hx103_1 hx103_2 hx103_3 hx103_4 hx103_5 hx103_6 hHeld ⊢
        refine qaU (i:=0) (N:=some 26) (v:=?_) (a':=?_) #[true,false,false,false,false,false,false,false,false,false,false,false,false] rfl rfl (qaR HT_.out (by kernel_rfl)) (fun _ _ _ h=>h) (Or.inl ⟨by rfl,?_⟩) ?_ ?_
        rotate_left;(intro w';go_simp;with_reducible rfl);rotate_left;(simp only [Act.put,List.setIfInBounds_toArray,List.set_cons_zero,List.set_cons_succ,qaO,qaP];rfl)
        refine qaU (i:=1) (N:=some 27) (v:=?_) (a':=?_) #[true,true,false,false,false,false,false,false,false,false,false,false,false] rfl rfl (qaR HT_.out (by kernel_rfl)) (fun _ _ _ h=>h) (Or.inl ⟨by rfl,?_⟩) ?_ ?_
        rotate_left;(intro w';go_simp;with_reducible rfl);rotate_left;(simp only [Act.put,List.setIfInBounds_toArray,List.set_cons_zero,List.set_cons_succ,qaO,qaP];rfl)
        refine qaU (i:=5) (N:=some 31) (v:=?_) (a':=?_) #[true,true,false,false,false,true,false,false,false,false,false,false,false] rfl rfl (qaR HT_.out (by kernel_rfl)) (fun _ _ _ h=>h) (Or.inl ⟨by rfl,?_⟩) ?_ ?_
        rotate_left;(intro w';go_simp;with_reducible rfl);rotate_left;(simp only [Act.put,List.setIfInBounds_toArray,List.set_cons_zero,List.set_cons_succ,qaO,qaP];rfl)
        refine take_ (i:=2) (N:=some 28) (v:=?_) (a':=?_) (bitsA 13 39) rfl rfl (qaX HT_.out HW_.out (by kernel_rfl)) (fun _ _ _ h=>h) (Or.inl ⟨by rfl,?_⟩) hHeld ?_ ?_
        rotate_left;(rintro w' ⟨s0,s1,s2,s3,s4,s5,s6,s7,s8,s9,s10⟩;go_simp;with_reducible rfl);rotate_left;(simp only [Act.put,List.setIfInBounds_toArray,List.set_cons_zero,List.set_cons_succ,qaO,qaP];rfl)
        refine qaU (i:=3) (N:=some 29) (v:=?_) (a':=?_) #[true,true,true,true,false,true,false,false,false,false,false,false,false] rfl rfl (qaR HT_.out (by kernel_rfl)) (fun _ _ _ h=>h) (Or.inl ⟨by rfl,?_⟩) ?_ ?_
        rotate_left;(intro w';go_simp;with_reducible rfl);rotate_left;(simp only [Act.put,List.setIfInBounds_toArray,List.set_cons_zero,List.set_cons_succ,qaO,qaP];rfl)
        refine take_ (i:=4) (N:=some 30) (v:=?_) (a':=?_) (bitsA 13 63) rfl rfl (qaX HT_.out HW_.out (by kernel_rfl)) (fun _ _ _ h=>h) (Or.inl ⟨by rfl,?_⟩) hHeld ?_ ?_
        rotate_left;(rintro w' ⟨s0,s1,s2,s3,s4,s5,s6,s7,s8,s9,s10⟩;go_simp;with_reducible rfl);rotate_left;(simp only [Act.put,List.setIfInBounds_toArray,List.set_cons_zero,List.set_cons_succ,qaO,qaP];rfl)
        refine take_ (i:=6) (N:=some 32) (v:=?_) (a':=?_) (bitsA 13 127) rfl rfl (qaX HT_.out HW_.out (by kernel_rfl)) (fun _ _ _ h=>h) (Or.inl ⟨by rfl,?_⟩) hHeld ?_ ?_
        rotate_left;(rintro w' ⟨s0,s1,s2,s3,s4,s5,s6,s7,s8,s9,s10⟩;go_simp;with_reducible rfl);rotate_left;(simp only [Act.put,List.setIfInBounds_toArray,List.set_cons_zero,List.set_cons_succ,qaO,qaP];rfl)
        refine one_ (i:=7) (N:=some 33) (bitsA 13 255) rfl rfl (qbM HT_.out (by kernel_rfl)) (by decide) (fun K hK=>?_)
        refine goes_ Tryd.func32 (by kernel_rfl) rfl #[.agg #[.string ((qaF l0 a1_0).f0),.int .i64 ((qaF l0 a1_0).f1),.int .i64 ((qaF l0 a1_0).f2),.int .i64 ((qaF l0 a1_0).f3),.int .i64 ((qaF l0 a1_0).f4),.slice A103_5 ((qaF l0 a1_0).f5).length c103_5,.slice A103_6 ((qaF l0 a1_0).f6).length c103_6],.int .i64 a1_1] (by rfl) rfl rfl (by (try simp only [List.map_toArray,List.map_cons,List.map_nil]);first|done|rfl|(simp only [List.length_drop,List.length_take];rfl)) ?_
        with_reducible refine (sawmillref19_Price.calls kj4 ((qaF l0 a1_0).f0) ((qaF l0 a1_0).f1) ((qaF l0 a1_0).f2) ((qaF l0 a1_0).f3) ((qaF l0 a1_0).f4) _ _ ((qaF l0 a1_0).f5) _ _ ((qaF l0 a1_0).f6) a1_1 t104 false _ ?side1 ?side2 ?side3 ?side4 A14.out).mono ?_
        (case side1=>repeat (first|exact (Kd.C_below HR103_5.out HB.out)|(with_reducible refine Kd.C_alloc ?_ _)|(with_reducible refine Kd.C_drewN ?_ _)|(with_reducible refine Kd.C_drew ?_)))
        (case side2=>exact HC103_5.out)
        (case side3=>repeat (first|exact (Kd.C_below HR103_6.out HB.out)|(with_reducible refine Kd.C_alloc ?_ _)|(with_reducible refine Kd.C_drewN ?_ _)|(with_reducible refine Kd.C_drew ?_)))
        (case side4=>exact HC103_6.out)
        rintro e w40 ⟨rfl,hb⟩
        refine ⟨_,rfl,?_⟩
        have n0_:=Aside0.mk (qaQ (g:=gb101) (o:=.cells #[.int .i64 a1_0,.int .i64 a1_1,.int .i64 a1_2,.int .i64 a1_3] 38 (0,0)) (by (with_reducible repeat (first|refine qaJ ?_ _|refine qaK ?_|refine qaI ?_ _));exact BK101.out) hb)
        have n1_:=Aside0.mk (qaH (by repeat (first|(with_reducible first|exact HB.out|apply qaD|apply qaB|apply qaE|refine qaG ?_ GE101.out)|exact HB.out)) hb)
        clear BK101
        clear HB
        have BK101:=n0_
        have HB:=n1_
        clear n0_ n1_
        (try clear hb)
        (try clear hb2)
        (try clear hk)
        (try clear hi)
        refine hK.out _ _ ⟨(qaC BK101.out 0).trans rfl,(qaC BK101.out 1).trans rfl,(qaC BK101.out 2).trans rfl,(qaC BK101.out 3).trans rfl,((HB.out.cell (World.block_lt_of_cell? w _ hw103_0)).trans hw103_0),((HB.out.cell (World.block_lt_of_cell? w _ hw103_1)).trans hw103_1),((HB.out.cell (World.block_lt_of_cell? w _ hw103_2)).trans hw103_2),((HB.out.cell (World.block_lt_of_cell? w _ hw103_3)).trans hw103_3),((HB.out.cell (World.block_lt_of_cell? w _ hw103_4)).trans hw103_4),((HB.out.cell (World.block_lt_of_cell? w _ hw103_5)).trans hw103_5),((HB.out.cell (World.block_lt_of_cell? w _ hw103_6)).trans hw103_6)⟩ (fun hHeld=>?_)
        clear hK K
        refine norm_ (a':=?_) ?_ ?_
        rotate_left
        ·show Act.put _ (some 33) _=_
         simp only [Act.put,List.setIfInBounds_toArray,List.set_cons_zero,List.set_cons_succ,qaO,qaP]
         rfl
        refine qaU (i:=8) (N:=some 25) (v:=?_) (a':=?_) #[true,true,true,true,true,true,true,true,true,false,false,false,false] rfl rfl (qaR HT_.out (by kernel_rfl)) (fun _ _ _ h=>h) (Or.inl ⟨by rfl,?_⟩) ?_ ?_
        rotate_left;(intro w';go_simp;with_reducible rfl);rotate_left;(simp only [Act.put,List.setIfInBounds_toArray,List.set_cons_zero,List.set_cons_succ,qaO,qaP];rfl)
        refine qaU (i:=9) (N:=some 34) (v:=?_) (a':=?_) #[true,true,true,true,true,true,true,true,true,true,false,false,false] rfl rfl (qaR HT_.out (by kernel_rfl)) (fun _ _ _ h=>h) (Or.inl ⟨by rfl,?_⟩) ?_ ?_
        rotate_left;(intro w';go_simp;with_reducible rfl);rotate_left;(simp only [Act.put,List.setIfInBounds_toArray,List.set_cons_zero,List.set_cons_succ,qaO,qaP];rfl)
        refine qaU (i:=10) (N:=some 35) (v:=?_) (a':=?_) #[true,true,true,true,true,true,true,true,true,true,true,false,false] rfl rfl (qaR HT_.out (by kernel_rfl)) (fun _ _ _ h=>h) (Or.inl ⟨by rfl,?_⟩) ?_ ?_
        rotate_left;(intro w';go_simp;with_reducible rfl);rotate_left;(simp only [Act.put,List.setIfInBounds_toArray,List.set_cons_zero,List.set_cons_succ,qaO,qaP];rfl)
        refine qaU (i:=11) (N:=some 7) (v:=?_) (a':=?_) #[true,true,true,true,true,true,true,true,true,true,true,true,false] rfl rfl (qaR HT_.out (by kernel_rfl)) (fun _ _ _ h=>h) (Or.inl ⟨by rfl,?_⟩) ?_ ?_
        rotate_left;(intro w';go_simp;with_reducible rfl);rotate_left;(simp only [Act.put,List.setIfInBounds_toArray,List.set_cons_zero,List.set_cons_succ,qaO,qaP];rfl)
        refine qaU (i:=12) (N:=some 8) (v:=?_) (a':=?_) #[true,true,true,true,true,true,true,true,true,true,true,true,true] rfl rfl (qaR HT_.out (by kernel_rfl)) (fun _ _ _ h=>h) (Or.inl ⟨by rfl,?_⟩) ?_ ?_
        rotate_left;(intro w';go_simp;with_reducible rfl);rotate_left;(simp only [Act.put,List.setIfInBounds_toArray,List.set_cons_zero,List.set_cons_succ,qaO,qaP];rfl)
        refine done_ (done_of HT_.out (by kernel_rfl)) ?_
        try go_wp2
        go_ret2
        exact ⟨by first|rfl|(simp [qaL,qaM]<;>rfl)|(simp [*,qaL,qaM]<;>rfl),by repeat (first|(with_reducible first|exact HB.out|apply qaD|apply qaB|apply qaE|refine qaG ?_ GE101.out)|exact HB.out)⟩
      ·rw [if_neg c13] at H
       exact absurd H (by simp)
     ·rw [if_neg c12] at H
      exact absurd H (by simp)
 ·rw [if_neg c4] at H
  have c4b0:(t102 == 0)=false:=beq_eq_false_iff_ne.mpr c4
  have c4b1:(t102 != 0)=true:=bne_iff_ne.mpr c4
  simp only [Option.some.injEq,Prod.mk.injEq] at H
  obtain ⟨rfl,rfl⟩:=H
  go_enter Tryd.func15,Tryd.ntmps15
  go_wp2_with (first|((with_reducible refine qaV (N:=3) rfl ?_);(try (refine gate_guard (by rfl) ?_;dsimp only));refine qaT ?hg (N:=3) ?hd (cs:=#[.int .i64 a1_0,.int .i64 a1_1,.int .i64 a1_2,.int .i64 a1_3]) (t:=38) ?hr ?_;(case hd=>rfl);(case hg=>rfl);(case hr=>first|(go_simp;done)|(go_simp;rfl));intro gb101 hg w41 hbox hb;have n0_:=Aside0.mk (qaH (by repeat (first|(with_reducible first|exact HB.out|apply qaD|apply qaB|apply qaE)|exact HB.out)) hb);have n1_:=Aside0.mk (hbox);have n2_:=Aside0.mk ((by rw [hg];exact (qaN (by repeat (first|(with_reducible first|exact HB.out|apply qaD|apply qaB|apply qaE)|exact HB.out))):w.heap.size≤gb101));have n3_:=Aside0.mk ((by rw [hg];exact (qaN (by repeat (first|(with_reducible first|exact HB.out|apply qaD|apply qaB|apply qaE)|exact HB.out))):w.heap.size≤gb101));clear HB;have HB:=n0_;have BK101:=n1_;have GW101:=n2_;have GE101:=n3_;clear n0_ n1_ n2_ n3_;clear hb hbox hg)|((with_reducible refine qaS (f:=31) rfl ?_);refine qbE (some 11) rfl rfl Tryd.func31 (by kernel_rfl) rfl #[.slice A0 l0.length c0] rfl (by (try simp only [List.map_toArray,List.map_cons,List.map_nil]);first|done|rfl|(simp only [List.length_drop,List.length_take];rfl)) ?_;(with_reducible refine (sawmillref19_Check.calls k _ _ l0 t102 _ ?side1 ?side2 A3.out).mono ?_);(case side1=>repeat (first|exact (Kd.C_below HR0.out HB.out)|(with_reducible refine Kd.C_alloc ?_ _)|(with_reducible refine Kd.C_drewN ?_ _)|(with_reducible refine Kd.C_drew ?_)));(case side2=>exact HC0.out);rintro e w42 ⟨rfl,hb⟩;refine ⟨_,rfl,?_⟩;have n0_:=Aside0.mk (qaQ (g:=gb101) (o:=.cells #[.int .i64 a1_0,.int .i64 a1_1,.int .i64 a1_2,.int .i64 a1_3] 38 (0,0)) (by (with_reducible repeat (first|refine qaJ ?_ _|refine qaK ?_|refine qaI ?_ _));exact BK101.out) hb);have n1_:=Aside0.mk (qaH (by repeat (first|(with_reducible first|exact HB.out|apply qaD|apply qaB|apply qaE|refine qaG ?_ GE101.out)|exact HB.out)) hb);clear BK101;clear HB;have BK101:=n0_;have HB:=n1_;clear n0_ n1_;(try clear hb);(try clear hb2);(try clear hk);(try clear hi)))
  go_ret2
  exact ⟨by first|rfl|(simp [qaL,qaM]<;>rfl)|(simp [*,qaL,qaM]<;>rfl),by repeat (first|(with_reducible first|exact HB.out|apply qaD|apply qaB|apply qaE|refine qaG ?_ GE101.out)|exact HB.out)⟩
end Go.Proofs.YtojkjhaobjidlaaDoor.P
namespace Go.Proofs.YtojkjhaobjidlaaDoor.P
open Go.RowKit Go.Proofs.YtojkjhaobjidlaaDoorW.PrintWords Go.Proofs.YtojkjhaobjidlaaDoorW.PrintMore
set_option linter.unusedVariables false
set_option linter.unusedSimpArgs false
theorem r02_at (n:ByteArray) (hs:n.size≤140737488351232) (k:Nat):sawmillref02_IsName.f (20+k) n=some (isNm n):=by
 induction k with
 | zero=>exact r02_nm n hs
 | succ k ih=>exact sawmillref02_IsName.mono _ _ _ ih
theorem wrap_in (x:Int) (h0:-4611686018427387904≤x) (h1:x≤4611686018427387904):wrap64 x=x:=by
 unfold wrap64
 omega
theorem r19_sized (n:ByteArray) (t w a x:Int) (L P:List Int):sawmillref19_sized.f n t w a x L P=some (!(decide (t < 1) || (decide (w < 1) || (decide (600 < t) || decide (600 < w))))):=by
 unfold sawmillref19_sized.f
 by_cases h1:t < 1
 ·rw [if_neg (by omega)];simp [h1]
 rw [if_pos (by omega)]
 by_cases h2:600 < t
 ·rw [if_neg (by omega)];simp [h2]
 rw [if_pos (by omega)]
 by_cases h3:w < 1
 ·rw [if_neg (by omega)];simp [h3]
 rw [if_pos (by omega)]
 by_cases h4:600 < w
 ·rw [show decide (w≤600)=false from decide_eq_false (by omega)];simp [h4]
 ·rw [show decide (w≤600)=true from decide_eq_true (by omega)];simp [h1,h2,h3,h4]
theorem r19_one (t a:Int) (h1:1≤t) (h2:t≤600) (h3:0≤a) (h4:a≤200):wrap64 (Int.tdiv (wrap64 ((wrap64 (t * (wrap64 (1000+a))))+999)) 1000)=(t * (1000+a)+999) / 1000:=by
 rw [wrap_in (1000+a) (by omega) (by omega)]
 have hm0:0≤t * (1000+a):=Int.mul_nonneg (by omega) (by omega)
 have hm1:t * (1000+a)≤600 * 1200:=Int.mul_le_mul h2 (by omega) (by omega) (by omega)
 generalize t * (1000+a)=m at hm0 hm1 ⊢
 rw [wrap_in m (by omega) (by omega),wrap_in (m+999) (by omega) (by omega),Int.tdiv_eq_ediv_of_nonneg (by omega),wrap_in _ (by omega) (by omega)]
theorem r19_green (n:ByteArray) (t w a x:Int) (L P:List Int):sawmillref19_Green.f n t w a x L P=some (greenB t w a):=by
 unfold sawmillref19_Green.f greenB
 rw [r19_sized,Option.bind_some]
 by_cases h:t < 1 ∨ w < 1 ∨ 600 < t ∨ 600 < w
 ·rw [if_neg (by simp;omega),if_pos (by omega)]
 ·rw [if_pos (by simp;omega)]
  by_cases h3:a < 0
  ·rw [if_pos h3,if_pos (by omega)]
  rw [if_neg h3]
  by_cases h4:200 < a
  ·rw [if_pos h4,if_pos (by omega)]
  rw [if_neg h4,if_neg (by omega),r19_one t a (by omega) (by omega) (by omega) (by omega),r19_one w a (by omega) (by omega) (by omega) (by omega)]
theorem r19_prices (n:ByteArray) (t w a x:Int) (L P:List Int) (hP:P.length≤1000):∀ (d k i:Nat),i+d=P.length→d < k→sawmillref19_checkLengths.l1 k (i:Int) n t w a x L P=some (pricesE (P.drop i)):=by
 intro d
 induction d with
 | zero =>
  intro k i hi hk
  obtain ⟨k,rfl⟩:∃ m,k=m+1:=⟨k - 1,by omega⟩
  simp only [sawmillref19_checkLengths.l1]
  rw [if_neg (by omega),List.drop_of_length_le (by omega)]
  rfl
 | succ d ih =>
  intro k i hi hk
  obtain ⟨k,rfl⟩:∃ m,k=m+1:=⟨k - 1,by omega⟩
  have h2:i < P.length:=by omega
  simp only [sawmillref19_checkLengths.l1]
  rw [if_pos (by omega),if_pos (by omega),wrap_nat i 1000000 (by omega) (by omega),ih k (i+1) (by omega) (by omega),rd_drop_ i h2]
  unfold pricesE
  rw [List.all_cons]
  generalize rd P (i:Int)=c
  generalize (P.drop (i+1)).all priceOk=b
  unfold priceOk
  by_cases g1:c < 0
  ·simp [g1]
  ·by_cases g2:c > 1000000
   ·simp [g1,g2]
   ·simp [g1,g2]
theorem r19_lens_l0 (n:ByteArray) (t w a x:Int) (L P:List Int) (hL:L.length≤1000) (hP:P.length≤1000):∀ (d k i:Nat),i+d=L.length→2 * d+P.length+1 < k→sawmillref19_checkLengths.l0 k (i:Int) n t w a x L P=some (if lensGo (prevOf L i) (L.drop i)=0 then pricesE P else lensGo (prevOf L i) (L.drop i)):=by
 intro d
 induction d with
 | zero =>
  intro k i hi hk
  obtain ⟨k,rfl⟩:∃ m,k=m+1:=⟨k - 1,by omega⟩
  simp only [sawmillref19_checkLengths.l0]
  rw [if_neg (by omega),List.drop_of_length_le (by omega)]
  have:=r19_prices n t w a x L P hP P.length k 0 (by omega) (by omega)
  rw [show ((0:Nat):Int)=0 from rfl] at this
  rw [this]
  simp [lensGo]
 | succ d ih =>
  intro k i hi hk
  obtain ⟨k,rfl⟩:∃ m,k=m+2:=⟨k - 2,by omega⟩
  have h2:i < L.length:=by omega
  have e:wrap64 ((i:Int)+1)=((i+1:Nat):Int):=wrap_nat i 1000000 (by omega) (by omega)
  have hi2:=ih k (i+1) (by omega) (by omega)
  have hp:prevOf L (i+1)=some (rd L (i:Int)):=by
   unfold prevOf
   rw [if_neg (by omega),show ((i+1:Nat):Int) - 1=(i:Int) by omega]
  rw [hp] at hi2
  have q0:(i:Int) < (L.length:Int):=by omega
  have q1:(0:Int)≤(i:Int):=by omega
  simp only [sawmillref19_checkLengths.l0,sawmillref19_checkLengths.j1]
  rw [if_pos q0,if_pos q1,e,hi2,rd_drop_ i h2]
  rw [lensGo]
  obtain ⟨q,hq⟩:∃ q,q=rd L ((i:Int) - 1):=⟨_,rfl⟩
  have hpv:prevOf L i=if i=0 then none else some q:=by rw [hq];rfl
  rw [hpv]
  generalize hc:rd L (i:Int)=c
  by_cases g1:c < 100
  ·simp [g1]
  by_cases g2:20000 < c
  ·simp [g1,g2]
  simp only [g1,g2,or_self,if_false,decide_false,Bool.false_eq_true,if_neg,gt_iff_lt]
  by_cases hz:i=0
  ·subst hz
   simp [leQ]
  ·have hw:wrap64 ((i:Int) - 1)=(i:Int) - 1:=wrap_in _ (by omega) (by omega)
   rw [if_pos (by omega),if_pos q1,if_pos q0,hw,if_pos (by omega),if_pos (by omega),if_neg hz,← hq]
   by_cases g3:c≤q
   ·simp [leQ,g3]
   ·simp [leQ,g3]
theorem r19_lens (n:ByteArray) (t w a x:Int) (L P:List Int) (k:Nat) (hk:26 < k):sawmillref19_checkLengths.f k n t w a x L P=some (lensE L P):=by
 unfold sawmillref19_checkLengths.f lensE
 by_cases h1:L.length=0
 ·rw [if_pos (by omega),if_pos h1]
 rw [if_neg (by omega),if_neg h1]
 by_cases h2:8 < L.length
 ·rw [if_pos (by omega),if_pos h2]
 rw [if_neg (by omega),if_neg h2]
 by_cases h3:L.length=P.length
 ·rw [if_pos (by omega),if_pos h3]
  have:=r19_lens_l0 n t w a x L P (by omega) (by omega) L.length k 0 (by omega) (by omega)
  rw [show ((0:Nat):Int)=0 from rfl] at this
  rw [this]
  rfl
 ·rw [if_neg (by omega),if_neg h3]
theorem r19_j2 (l:List PR) (i:Nat) (hi:i≤1000) (p:PR) (X:Int) (F:Nat) (hX:∀ k,F≤k→sawmillref19_Check.l0 k l ((i+1:Nat):Int)=some X) (b:Bool) (k:Nat) (hk:F+40≤k):sawmillref19_Check.j2 k l (i:Int) b p.f0 p.f1 p.f2 p.f3 p.f4 p.f5 p.f6=some (if b=true then 9 else if 600 < (greenB p.f1 p.f2 p.f3).2 then 9 else if lensE p.f5 p.f6=0 then X else lensE p.f5 p.f6):=by
 obtain ⟨k,rfl⟩:∃ m,k=m+1:=⟨k - 1,by omega⟩
 simp only [sawmillref19_Check.j2]
 rw [r19_green,Option.bind_some,r19_lens _ _ _ _ _ _ _ k (by omega),Option.bind_some,wrap_nat i 1000000 (by omega) (by omega),hX k (by omega)]
 cases b
 ·simp only [Bool.false_eq_true,if_false]
  by_cases h1:600 < (greenB p.f1 p.f2 p.f3).2
  ·rw [if_pos h1,if_pos h1]
  ·rw [if_neg h1,if_neg h1]
   by_cases h2:lensE p.f5 p.f6=0
   ·rw [if_pos h2,if_pos h2]
   ·rw [if_neg h2,if_neg h2]
 ·simp only [if_true]
theorem r19_l1 (l:List PR) (i:Nat) (hi:i < l.length) (hl:l.length≤1000) (p:PR) (X:Int) (F:Nat) (hX:∀ k,F≤k→sawmillref19_Check.l0 k l ((i+1:Nat):Int)=some X):∀ (d k j:Nat),j+d=i→F+d+45 < k→sawmillref19_Check.l1 k l (i:Int) (j:Int) p.f0 p.f1 p.f2 p.f3 p.f4 p.f5 p.f6=some (if (fnd p.f0 ((l.take i).drop j) j).2=true then 7 else if sizedB p.f1 p.f2 p.f3 p.f4=true then (if lensE p.f5 p.f6=0 then X else lensE p.f5 p.f6) else 9):=by
 intro d
 induction d with
 | zero =>
  intro k j hj hk
  obtain ⟨k,rfl⟩:∃ m,k=m+1:=⟨k - 1,by omega⟩
  simp only [sawmillref19_Check.l1]
  rw [if_neg (by omega),List.drop_of_length_le (by rw [List.length_take];omega)]
  simp only [r19_j2 l i (by omega) p X F hX _ k (by omega),fnd,Bool.false_eq_true,if_false,if_true]
  unfold sizedB
  by_cases h1:p.f1 < 5
  ·simp [h1]
  by_cases h2:300 < p.f1
  ·simp [h1,h2]
  by_cases h3:p.f2 < p.f1
  ·simp [h1,h2,h3]
  by_cases h4:600 < p.f2
  ·simp [h1,h2,h3,h4]
  by_cases h5:p.f3 < 0
  ·simp [h1,h2,h3,h4,h5]
  by_cases h6:200 < p.f3
  ·simp [h1,h2,h3,h4,h5,h6]
  by_cases h7:p.f4 < 0
  ·simp [h1,h2,h3,h4,h5,h6,h7]
  by_cases h8:1000 < p.f4
  ·simp [h1,h2,h3,h4,h5,h6,h7,h8]
  by_cases h9:600 < (greenB p.f1 p.f2 p.f3).2
  ·simp [h1,h2,h3,h4,h5,h6,h7,h8,h9]
  ·simp [h1,h2,h3,h4,h5,h6,h7,h8,h9]
 | succ d ih =>
  intro k j hj hk
  obtain ⟨k,rfl⟩:∃ m,k=m+1:=⟨k - 1,by omega⟩
  have hjl:j < (l.take i).length:=by rw [List.length_take];omega
  have q0:(j:Int) < (i:Int):=by omega
  have q1:(0:Int)≤(j:Int):=by omega
  have q2:(j:Int) < (l.length:Int):=by omega
  have hs:=ih k (j+1) (by omega) (by omega)
  simp only [sawmillref19_Check.l1]
  rw [if_pos q0,if_pos q1,if_pos q2,wrap_nat j 1000000 (by omega) (by omega),hs,List.drop_eq_getElem_cons hjl,fnd,List.getElem_take,rdP_get j (by omega)]
  by_cases h:l[j].f0.toList=p.f0.toList
  ·rw [if_pos h,if_pos h]
   simp
  ·rw [if_neg h,if_neg h]
theorem r19_l0 (l:List PR) (hl:l.length≤16) (hn:∀ p ∈ l,p.f0.size≤100):∀ (d k i:Nat),i+d=l.length→70 * d+10 < k→sawmillref19_Check.l0 k l (i:Int)=some (chkGo l d i):=by
 intro d
 induction d with
 | zero =>
  intro k i hi hk
  obtain ⟨k,rfl⟩:∃ m,k=m+1:=⟨k - 1,by omega⟩
  simp only [sawmillref19_Check.l0]
  rw [if_neg (by omega)]
  rfl
 | succ d ih =>
  intro k i hi hk
  obtain ⟨k,rfl⟩:∃ m,k=m+1:=⟨k - 1,by omega⟩
  obtain ⟨q,rfl⟩:∃ q,k=20+q:=⟨k - 20,by omega⟩
  have h2:i < l.length:=by omega
  have q0:(i:Int) < (l.length:Int):=by omega
  have q1:(0:Int)≤(i:Int):=by omega
  have hnm:=hn _ (List.getElem_mem h2)
  have hX:∀ k,70 * d+11≤k→sawmillref19_Check.l0 k l ((i+1:Nat):Int)=some (chkGo l d (i+1)):=fun k hk=>ih k (i+1) (by omega) (by omega)
  have h1:=r19_l1 l i h2 (by omega) l[i] _ _ hX i (20+q) 0 (by omega) (by omega)
  rw [show ((0:Nat):Int)=0 from rfl,List.drop_zero] at h1
  simp only [sawmillref19_Check.l0]
  rw [if_pos q0,if_pos q1,rdP_get i h2,r02_at _ (by omega),Option.bind_some,h1,chkGo,rdP_get i h2]
  unfold prodE
  cases isNm l[i].f0
  ·simp
  ·simp only [if_true]
   generalize (fnd l[i].f0 (l.take i) 0).2=b
   cases b
   ·simp only [Bool.false_eq_true,if_false]
    generalize sizedB l[i].f1 l[i].f2 l[i].f3 l[i].f4=b2
    cases b2
    ·simp
    ·simp only [if_true]
   ·simp
theorem r19_chk (l:List PR) (hn:∀ p ∈ l,p.f0.size≤100) (k:Nat) (hk:1200 < k):sawmillref19_Check.f k l=some (chkB l):=by
 unfold sawmillref19_Check.f chkB
 by_cases h:16 < l.length
 ·rw [if_pos (by omega),if_pos h]
 ·rw [if_neg (by omega),if_neg h]
  exact r19_l0 l (by omega) hn l.length k 0 (by omega) (by omega)
theorem r19_price_l0 (nm:ByteArray) (t w a x n:Int) (L P:List Int) (hL:L.length≤1000):∀ (d k i:Nat),i+d=L.length→d < k→sawmillref19_Price.l0 k n (i:Int) nm t w a x L P=some (prcGo P n (L.drop i) i):=by
 intro d
 induction d with
 | zero =>
  intro k i hi hk
  obtain ⟨k,rfl⟩:∃ m,k=m+1:=⟨k - 1,by omega⟩
  simp only [sawmillref19_Price.l0]
  rw [if_neg (by omega),List.drop_of_length_le (by omega)]
  rfl
 | succ d ih =>
  intro k i hi hk
  obtain ⟨k,rfl⟩:∃ m,k=m+1:=⟨k - 1,by omega⟩
  have h2:i < L.length:=by omega
  simp only [sawmillref19_Price.l0]
  rw [if_pos (by omega),if_pos (by omega),wrap_nat i 1000000 (by omega) (by omega),ih k (i+1) (by omega) (by omega),rd_drop_ i h2,prcGo]
  by_cases h:rd L (i:Int)=n
  ·rw [if_pos h,if_pos h]
   by_cases g:P.length≤i
   ·rw [if_pos (by omega),if_pos g]
   ·rw [if_neg (by omega),if_neg g,if_pos (by omega)]
  ·rw [if_neg h,if_neg h]
theorem split_amount (v c:Int) (h0:0≤v) (h1:v≤720000000000) (h2:0≤c) (h3:c≤1000000000):wrap64 ((wrap64 ((wrap64 (Int.tdiv v 1000000000)) * c))+(wrap64 (Int.tdiv (wrap64 ((wrap64 ((Int.tmod v 1000000000) * c))+500000000)) 1000000000)))=(c * v+500000000) / 1000000000:=by
 rw [Int.tdiv_eq_ediv_of_nonneg h0,Int.tmod_eq_emod_of_nonneg h0]
 obtain ⟨q,hq⟩:∃ q,q=v / 1000000000:=⟨_,rfl⟩
 obtain ⟨r,hr⟩:∃ r,r=v % 1000000000:=⟨_,rfl⟩
 rw [← hq,← hr]
 have hv:v=q * 1000000000+r:=by omega
 have q0:0≤q∧q≤720:=by omega
 have r0:0≤r∧r < 1000000000:=by omega
 clear hq hr
 have e:c * v=q * c * 1000000000+r * c:=by
  rw [hv,Int.mul_add,Int.mul_comm c r,← Int.mul_assoc,Int.mul_comm c q]
 rw [e]
 clear e hv h0 h1
 have a0:0≤q * c:=Int.mul_nonneg q0.1 h2
 have a1:q * c≤720 * 1000000000:=Int.mul_le_mul q0.2 h3 h2 (by decide)
 have b0:0≤r * c:=Int.mul_nonneg r0.1 h2
 have b1:r * c≤1000000000 * 1000000000:=Int.mul_le_mul (by omega) h3 h2 (by decide)
 rw [wrap_in q (by omega) (by omega)]
 generalize q * c=m at a0 a1 ⊢
 generalize r * c=n at b0 b1 ⊢
 rw [wrap_in m (by omega) (by omega),wrap_in n (by omega) (by omega),wrap_in (n+500000000) (by omega) (by omega),Int.tdiv_eq_ediv_of_nonneg (by omega),wrap_in ((n+500000000) / 1000000000) (by omega) (by omega),wrap_in _ (by omega) (by omega)]
 omega
theorem r50_amount (c:List PR) (hn:∀ p ∈ c,p.f0.size≤100) (x:IT) (k:Nat) (hk:1210 < k):sawmillref50_Amount.f k c x.f0 x.f1 x.f2 x.f3=some (qbK c x):=by
 obtain ⟨k,rfl⟩:∃ m,k=m+1:=⟨k - 1,by omega⟩
 unfold sawmillref50_Amount.f qbK
 rw [r19_chk c hn _ (by omega),Option.bind_some]
 by_cases h0:chkB c=0
 case neg=>rw [if_neg h0,if_neg h0]
 rw [if_pos h0,if_pos h0]
 simp only [sawmillref50_Amount.j0,if_true,decide_eq_true_eq,ge_iff_le,gt_iff_lt]
 by_cases h1:x.f0 < 0
 ·rw [if_pos h1,if_pos (Or.inl h1)]
 rw [if_neg h1]
 by_cases h2:(c.length:Int)≤x.f0
 ·rw [if_pos h2,if_pos (Or.inr h2)]
 rw [if_neg h2,if_neg (show ¬ (x.f0 < 0 ∨ (c.length:Int)≤x.f0) by omega),if_pos (by omega),if_pos (by omega)]
 have hp:=(chk_ok c h0).2 _ (rdP_mem (c:=c) (i:=x.f0) (by omega) (by omega))
 generalize qaF c x.f0=p at hp ⊢
 obtain ⟨l1,l2,l3,l4,l5⟩:=lensE_ok p.f5 p.f6 hp.ln
 have hpr:sawmillref19_Price.f k p.f0 p.f1 p.f2 p.f3 p.f4 p.f5 p.f6 x.f1=some (prcGo p.f6 x.f1 p.f5 0):=by
  unfold sawmillref19_Price.f
  exact r19_price_l0 _ _ _ _ _ _ _ _ (by omega) p.f5.length k 0 (by omega) (by omega)
 rw [hpr,Option.bind_some]
 by_cases h3:(prcGo p.f6 x.f1 p.f5 0).2=true
 case neg=>rw [if_neg h3,if_neg h3]
 rw [if_pos h3,if_pos h3]
 have hx:=l4 _ (prcGo_mem _ _ _ _ h3)
 clear hpr h3
 by_cases h4:x.f2 < 0
 ·rw [if_pos h4,if_pos (Or.inl h4)]
 rw [if_neg h4]
 by_cases h5:200 < x.f2
 ·rw [if_pos h5,if_pos (Or.inr (Or.inl h5))]
 rw [if_neg h5]
 by_cases h6:x.f3 < 0
 ·rw [if_pos h6,if_pos (Or.inr (Or.inr (Or.inl h6)))]
 rw [if_neg h6]
 by_cases h7:1000000000 < x.f3
 ·rw [if_pos h7,if_pos (Or.inr (Or.inr (Or.inr h7)))]
 rw [if_neg h7,if_neg (show ¬ (x.f2 < 0 ∨ 200 < x.f2 ∨ x.f3 < 0 ∨ 1000000000 < x.f3) by omega)]
 obtain ⟨s1,s2,s3,s4,s5,s6⟩:=sized_nums hp.sz
 obtain ⟨v1,v2,v3,v4,v5,v6⟩:=vol_le s1 s2 s3 s4 hx.1 hx.2 (show 0≤x.f2 by omega) (show x.f2≤200 by omega)
 unfold sawmillref19_Volume.f
 rw [r19_sized,Option.bind_some,if_pos (by simp;omega),if_neg (by omega),if_neg (by omega),Option.bind_some]
 have e1:wrap64 (p.f1 * p.f2)=p.f1 * p.f2:=wrap_in _ (by omega) (by omega)
 have e2:wrap64 (p.f1 * p.f2 * x.f1)=p.f1 * p.f2 * x.f1:=wrap_in _ (by omega) (by omega)
 have e3:wrap64 (p.f1 * p.f2 * x.f1 * x.f2)=p.f1 * p.f2 * x.f1 * x.f2:=wrap_in _ (by omega) (by omega)
 rw [e1,e2,e3]
 generalize p.f1 * p.f2 * x.f1 * x.f2=m at v5 v6 ⊢
 rw [split_amount m x.f3 v5 v6 (by omega) (by omega)]
end Go.Proofs.YtojkjhaobjidlaaDoor.P
namespace Go.Proofs.YtojkjhaobjidlaaDoor.P
open Go.RowKit Go.Proofs.YtojkjhaobjidlaaDoorW.PrintWords Go.Proofs.YtojkjhaobjidlaaDoorW.PrintMore
set_option linter.unusedVariables false
set_option linter.unusedSimpArgs false
theorem wrap_small (x:Int) (h0:0≤x) (h1:x≤4611686018427387904):wrap64 x=x:=by
 unfold wrap64
 omega
def offGo (total:Int):Int→List TI→Int
 | off,[]=>off
 | off,t :: l=>offGo total (if t.f0≤total then t.f1 else off) l
theorem discGo_is (total:Int):∀ (l:List TI) (b off:Int),(discGo total b off l).2=0→0≤total∧total≤1000000000000000∧(discGo total b off l).1=total * offGo total off l / 1000∧∀ t ∈ l,b < t.f0∧t.f0≤1000000000000000∧0≤t.f1∧t.f1≤1000:=by
 intro l
 induction l with
 | nil =>
  intro b off h
  rw [discGo] at h ⊢
  by_cases g1:total < 0
  ·rw [if_pos g1] at h;exact absurd h (by decide)
  rw [if_neg g1] at h ⊢
  by_cases g2:1000000000000000 < total
  ·rw [if_pos g2] at h;exact absurd h (by decide)
  rw [if_neg g2]
  exact ⟨by omega,by omega,rfl,fun t ht=>(by cases ht)⟩
 | cons t l ih =>
  intro b off h
  rw [discGo] at h ⊢
  by_cases g1:t.f0≤b
  ·rw [if_pos g1] at h;exact absurd h (by decide)
  rw [if_neg g1] at h ⊢
  by_cases g2:1000000000000000 < t.f0 ∨ t.f1 < 0 ∨ 1000 < t.f1
  ·rw [if_pos g2] at h;exact absurd h (by decide)
  rw [if_neg g2] at h ⊢
  obtain ⟨h1,h2,h3,h4⟩:=ih _ _ h
  refine ⟨h1,h2,h3,fun x hx=>?_⟩
  rcases List.mem_cons.mp hx with rfl|hx
  ·omega
  ·have:=h4 x hx
   omega
theorem disc_is (l:List TI) (total:Int) (h:(discB l total).2=0):l.length≤8∧0≤total∧total≤1000000000000000∧(discB l total).1=total * offGo total 0 l / 1000∧∀ t ∈ l,0≤t.f0∧t.f0≤1000000000000000∧0≤t.f1∧t.f1≤1000:=by
 unfold discB at h ⊢
 by_cases g:8 < l.length
 ·rw [if_pos g] at h;exact absurd h (by decide)
 rw [if_neg g] at h ⊢
 obtain ⟨h1,h2,h3,h4⟩:=discGo_is total l (-1) 0 h
 exact ⟨by omega,h1,h2,h3,fun t ht=>by have:=h4 t ht;omega⟩
theorem discGo_err (total:Int):∀ (l:List TI) (b off:Int),(discGo total b off l).2 ≠ 0→(discGo total b off l).1=0:=by
 intro l
 induction l with
 | nil =>
  intro b off h
  rw [discGo] at h ⊢
  by_cases g1:total < 0
  ·rw [if_pos g1]
  rw [if_neg g1] at h ⊢
  by_cases g2:1000000000000000 < total
  ·rw [if_pos g2]
  rw [if_neg g2] at h
  exact absurd rfl h
 | cons t l ih =>
  intro b off h
  rw [discGo] at h ⊢
  by_cases g1:t.f0≤b
  ·rw [if_pos g1]
  rw [if_neg g1] at h ⊢
  by_cases g2:1000000000000000 < t.f0 ∨ t.f1 < 0 ∨ 1000 < t.f1
  ·rw [if_pos g2]
  rw [if_neg g2] at h ⊢
  exact ih _ _ h
theorem disc_err (l:List TI) (total:Int) (h:(discB l total).2 ≠ 0):(discB l total).1=0:=by
 unfold discB at h ⊢
 by_cases g:8 < l.length
 ·rw [if_pos g]
 ·rw [if_neg g] at h ⊢
  exact discGo_err _ _ _ _ h
theorem rdT_get {l:List TI} (i:Nat) (h:i < l.length):qbF l (i:Int)=l[i]:=by
 unfold qbF
 rw [List.getD_eq_getElem?_getD,List.getElem?_eq_getElem (by simpa using h)]
 simp
end Go.Proofs.YtojkjhaobjidlaaDoor.P
namespace Go.Proofs.YtojkjhaobjidlaaDoor.P
open Go.RowKit Go.Proofs.YtojkjhaobjidlaaDoorW.PrintWords Go.Proofs.YtojkjhaobjidlaaDoorW.PrintLast Go.Proofs.YtojkjhaobjidlaaDoorW.PrintMore
attribute [local go_sem] qbG qbH qbO qbP qbC qbD qbI qbJ
attribute [local go_sem] qbB
set_option linter.unusedVariables false
set_option linter.unusedSimpArgs false
mutual
def sawmillref50_Discount.l0:Nat→List (S77)→Int→Int→Option (Int × Int)
 | 0,_,_,_=>none
 | k+1,x0,x1,x6=>if x6 < (x0.length:Int) then (if 0≤x6 then (if ((rd_T77 x0 x6).f0) < 0 then (sawmillref50_Discount.j1 k x0 x1 x6 true) else (if x6 > 0 then (if 0≤(wrap64 (x6 - 1)) then (if (wrap64 (x6 - 1)) < (x0.length:Int) then (sawmillref50_Discount.j1 k x0 x1 x6 (decide (((rd_T77 x0 x6).f0)≤((rd_T77 x0 (wrap64 (x6 - 1))).f0)))) else (none)) else (none)) else (sawmillref50_Discount.j1 k x0 x1 x6 false))) else (none)) else (if x1 < 0 then (sawmillref50_Discount.j2 k x0 x1 true) else (sawmillref50_Discount.j2 k x0 x1 (decide (x1 > 1000000000000000))))
def sawmillref50_Discount.j1:Nat→List (S77)→Int→Int→Bool→Option (Int × Int)
 | 0,_,_,_,_=>none
 | k+1,x0,x1,x6,x41=>if x41=true then (some (0,11)) else (if 0≤x6 then (if x6 < (x0.length:Int) then (if ((rd_T77 x0 x6).f0) > 1000000000000000 then (some (0,9)) else (if ((rd_T77 x0 x6).f1) < 0 then (some (0,9)) else (if ((rd_T77 x0 x6).f1) > 1000 then (some (0,9)) else (sawmillref50_Discount.l0 k x0 x1 (wrap64 (x6+1)))))) else (none)) else (none))
def sawmillref50_Discount.j2:Nat→List (S77)→Int→Bool→Option (Int × Int)
 | 0,_,_,_=>none
 | k+1,x0,x1,x69=>if x69=true then (some (0,9)) else (sawmillref50_Discount.l1 k x0 x1 0 0)
def sawmillref50_Discount.l1:Nat→List (S77)→Int→Int→Int→Option (Int × Int)
 | 0,_,_,_,_=>none
 | k+1,x0,x1,x7,x8=>if x8 < (x0.length:Int) then (if 0≤x8 then (if ((rd_T77 x0 x8).f0)≤x1 then (sawmillref50_Discount.l1 k x0 x1 ((rd_T77 x0 x8).f1) (wrap64 (x8+1))) else (sawmillref50_Discount.l1 k x0 x1 x7 (wrap64 (x8+1)))) else (none)) else (some (wrap64 (Int.tdiv (wrap64 (x1 * x7)) 1000),0))
end
def sawmillref50_Discount.f (k:Nat) (l0:List (S77)) (a1:Int):Option (Int × Int):=if (l0.length:Int) > 8 then (some (0,4)) else (sawmillref50_Discount.l0 k l0 a1 0)
set_option maxHeartbeats 8000000 in
set_option maxRecDepth 100000 in
theorem sawmillref50_Discount.calls (k:Nat) (A0:Option Addr) (c0:Nat) (l0:List (S77)) (a1:Int) (r1:Int) (r2:Int) (w:World) (hr0:Kd.C k77 w A0 l0.length l0) (hc0:l0.length≤c0) (h:sawmillref50_Discount.f k l0 a1=some (r1,r2)) :
  Calls Tryd.prog 17 #[.slice A0 l0.length c0,.int .i64 a1] w fun e w'=>e=.returned (.tuple #[.int .i64 r1,.int .i64 r2])∧Drawn0 w w':=by
 have HR0:=Aside0.mk hr0
 have HC0:=Aside0.mk hc0
 clear hr0 hc0
 have H:(if (l0.length:Int) > 8 then (some (0,4)) else (sawmillref50_Discount.l0 k l0 a1 0))=some (r1,r2):=h
 clear h
 by_cases c3:(l0.length:Int) > 8
 ·rw [if_pos c3] at H
  have c3b0:decide (8 < (l0.length:Int))=true:=decide_eq_true c3
  have c3b1:decide (8 < l0.length)=true:=decide_eq_true (by omega)
  clear c3
  simp only [Option.some.injEq,Prod.mk.injEq] at H
  obtain ⟨rfl,rfl⟩:=H
  go_enter Tryd.func17,Tryd.ntmps17
  go_wp2
  repeat (go_quiet (fail);try go_wp2)
  go_ret2
  exact ⟨by first|rfl|(simp;done)|(simp [*];done),by repeat (first|exact Drawn0.refl _|apply Drawn0.step)⟩
 ·rw [if_neg c3] at H
  have c3b0:decide (8 < (l0.length:Int))=false:=decide_eq_false c3
  have c3b1:decide (8 < l0.length)=false:=decide_eq_false (by omega)
  clear c3
  have H':=Aside0.mk H
  clear H
  go_enter Tryd.func17,Tryd.ntmps17
  go_wp2
  repeat (go_quiet (fail);try go_wp2)
  go_loopg [6] k (fun kq v6 w'=>∃ (x6_1:Int),v6=.int .i64 x6_1∧Aside0 (sawmillref50_Discount.l0 kq l0 a1 x6_1=some (r1,r2))∧Aside0 (kq≤k)∧Drawn0 w w')
  case atStart=>exact ⟨(0),(by first|rfl|(simp;done)|(simp [*];done)),H',⟨Nat.le_refl _⟩,by repeat (first|exact Drawn0.refl _|apply Drawn0.step)⟩
  case round =>
   clear H'
   try clear c1
   try clear p2
   try clear c3
   try clear c3b0
   try clear c3b1
   obtain ⟨x6_1,rfl,HA,HK1,⟨m1,rfl⟩⟩:=hrel
   cases gk with
   | zero=>exact absurd HA.out (by simp [sawmillref50_Discount.l0])
   | succ k1 =>
    have H:=HA.out
    clear HA
    simp only [sawmillref50_Discount.l0] at H
    by_cases c4:x6_1 < (l0.length:Int)
    ·rw [if_pos c4] at H
     have c4b0:decide (x6_1 < (l0.length:Int))=true:=decide_eq_true c4
     clear c4
     have HC5:=Aside0.mk H
     clear H
     go_upto_region 6 with (fail)
     repeat (go_quiet (fail);go_upto_region 6 with (fail))
     go_cut [41] (fun v41 wc=>∃ (kq:Nat) (x41_4:Bool),v41=.bool x41_4∧Aside0 (sawmillref50_Discount.j1 kq l0 a1 x6_1 x41_4=some (r1,r2))∧Aside0 (kq≤k1)∧Drawn0 w wc)
     case first =>
      have H:=HC5.out
      clear HC5
      by_cases c6:0≤x6_1
      ·rw [if_pos c6] at H
       have c6b0:decide (0≤x6_1)=true:=decide_eq_true c6
       clear c6
       (first|rw [c6b0]|(simp only [qaO,qaP];rw [c6b0])|skip)
       by_cases c7:((rd_T77 l0 x6_1).f0) < 0
       ·rw [if_pos c7] at H
        have c7b0:decide (((rd_T77 l0 x6_1).f0) < 0)=true:=decide_eq_true c7
        clear c7
        have H':=Aside0.mk H
        clear H
        have p101:0≤(x6_1:Int):=of_decide_eq_true (by first|(with_reducible assumption)|assumption)
        have q101:x6_1 < (l0.length:Int):=of_decide_eq_true (by first|(with_reducible assumption)|assumption)
        obtain ⟨ad101,e101,hx101_0,hx101_1⟩:=at_T77 HR0.out x6_1 p101 q101
        cases e101
        replace p101:=eq_true p101
        replace q101:=eq_true q101
        go_wp2
        repeat (go_quiet (fail);try go_wp2)
        go_meet
        case rel=>exact ⟨_,(true),(by first|rfl|(simp;done)|(simp [*];done)),H',⟨by have:=HK1.out;first|omega|exact Nat.le_refl _⟩,by repeat (first|exact Drawn0.refl _|apply Drawn0.step)⟩
       ·rw [if_neg c7] at H
        have c7b0:decide (((rd_T77 l0 x6_1).f0) < 0)=false:=decide_eq_false c7
        clear c7
        by_cases c8:x6_1 > 0
        ·rw [if_pos c8] at H
         have c8b0:decide (0 < x6_1)=true:=decide_eq_true c8
         clear c8
         obtain ⟨ji9,hji9⟩:∃ j_:Int,(wrap64 (x6_1 - 1))=j_:=⟨_,rfl⟩
         replace H:(if 0≤(ji9) then (if (ji9) < (l0.length:Int) then (sawmillref50_Discount.j1 k1 l0 a1 x6_1 (decide (((rd_T77 l0 x6_1).f0)≤((rd_T77 l0 (ji9)).f0)))) else (none)) else (none))=some (r1,r2):=by first|(rw [hji9] at H;exact H)|(simp only [hji9] at H ⊢;exact H)
         have hji9w:(IntKind.i64.wrap (x6_1 - 1))=ji9:=(qaO _).trans hji9
         by_cases c10:0≤(ji9)
         ·rw [if_pos c10] at H
          have c10b0:decide (0≤(ji9))=true:=decide_eq_true c10
          clear c10
          by_cases c11:(ji9) < (l0.length:Int)
          ·rw [if_pos c11] at H
           have c11b0:decide ((ji9) < (l0.length:Int))=true:=decide_eq_true c11
           clear c11
           have H':=Aside0.mk H
           clear H
           have p101:0≤(x6_1:Int):=of_decide_eq_true (by first|(with_reducible assumption)|assumption)
           have q101:x6_1 < (l0.length:Int):=of_decide_eq_true (by first|(with_reducible assumption)|assumption)
           obtain ⟨ad101,e101,hx101_0,hx101_1⟩:=at_T77 HR0.out x6_1 p101 q101
           cases e101
           replace p101:=eq_true p101
           replace q101:=eq_true q101
           have p102:0≤(x6_1:Int):=of_decide_eq_true (by first|(with_reducible assumption)|assumption)
           have q102:x6_1 < (l0.length:Int):=of_decide_eq_true (by first|(with_reducible assumption)|assumption)
           obtain ⟨ad102,e102,hx102_0,hx102_1⟩:=at_T77 HR0.out x6_1 p102 q102
           obtain rfl:ad101=ad102:=(by injection e102)
           replace p102:=eq_true p102
           replace q102:=eq_true q102
           have p103:0≤((ji9):Int):=of_decide_eq_true (by first|(with_reducible assumption)|assumption)
           have q103:(ji9) < (l0.length:Int):=of_decide_eq_true (by first|(with_reducible assumption)|assumption)
           obtain ⟨ad103,e103,hx103_0,hx103_1⟩:=at_T77 HR0.out (ji9) p103 q103
           obtain rfl:ad101=ad103:=(by injection e103)
           replace p103:=eq_true p103
           replace q103:=eq_true q103
           go_wp2
           repeat (go_quiet (fail);try go_wp2)
           go_meet
           case rel=>exact ⟨_,(decide (((rd_T77 l0 x6_1).f0)≤((rd_T77 l0 (ji9)).f0))),(by first|rfl|(simp;done)|(simp only [← hji9]<;>(first|rfl|simp))|(simp [*];done)),H',⟨by have:=HK1.out;first|omega|exact Nat.le_refl _⟩,by repeat (first|exact Drawn0.refl _|apply Drawn0.step)⟩
          ·rw [if_neg c11] at H
           exact absurd H (by simp)
         ·rw [if_neg c10] at H
          exact absurd H (by simp)
        ·rw [if_neg c8] at H
         have c8b0:decide (0 < x6_1)=false:=decide_eq_false c8
         clear c8
         have H':=Aside0.mk H
         clear H
         have p101:0≤(x6_1:Int):=of_decide_eq_true (by first|(with_reducible assumption)|assumption)
         have q101:x6_1 < (l0.length:Int):=of_decide_eq_true (by first|(with_reducible assumption)|assumption)
         obtain ⟨ad101,e101,hx101_0,hx101_1⟩:=at_T77 HR0.out x6_1 p101 q101
         cases e101
         replace p101:=eq_true p101
         replace q101:=eq_true q101
         go_wp2
         repeat (go_quiet (fail);try go_wp2)
         go_meet
         case rel=>exact ⟨_,(false),(by first|rfl|(simp;done)|(simp [*];done)),H',⟨by have:=HK1.out;first|omega|exact Nat.le_refl _⟩,by repeat (first|exact Drawn0.refl _|apply Drawn0.step)⟩
      ·rw [if_neg c6] at H
       exact absurd H (by simp)
     case rest =>
      clear HC5
      try clear c1
      try clear p1
      try clear q1
      try clear hx1
      try clear p2
      try clear c3
      try clear c3b0
      try clear c3b1
      try clear c4
      try clear c4b0
      try clear c6
      try clear c6b0
      try clear p6
      try clear c7
      try clear c7b0
      try clear c8
      try clear c8b0
      try clear c10
      try clear c10b0
      try clear p10
      try clear q10
      try clear hx10
      try clear c11
      try clear c11b0
      try clear hx101_0
      try clear hx101_1
      try clear hx102_0
      try clear hx102_1
      try clear hx103_0
      try clear hx103_1
      try clear p101
      try clear p102
      try clear p103
      try clear p2
      try clear q101
      try clear q102
      try clear q103
      obtain ⟨kq,x41_4,rfl,HA,HJ4,⟨mc4,rfl⟩⟩:=hcut
      cases kq with
      | zero=>exact absurd HA.out (by simp [sawmillref50_Discount.j1])
      | succ kj4 =>
       have H:=HA.out
       clear HA
       simp only [sawmillref50_Discount.j1] at H
       by_cases c12:x41_4=true
       ·subst c12
        have H1:(some (0,11))=some (r1,r2):=by rw [if_pos rfl] at H;exact H
        clear H
        have H:=H1
        clear H1
        simp only [Option.some.injEq,Prod.mk.injEq] at H
        obtain ⟨rfl,rfl⟩:=H
        go_wp2
        repeat (go_quiet (fail);try go_wp2)
        go_ret2
        exact ⟨by first|rfl|(simp;done)|(simp [*];done),by repeat (first|exact Drawn0.refl _|apply Drawn0.step)⟩
       ·replace c12:=Bool.eq_false_iff.mpr c12
        subst c12
        have H1:(if 0≤x6_1 then (if x6_1 < (l0.length:Int) then (if ((rd_T77 l0 x6_1).f0) > 1000000000000000 then (some (0,9)) else (if ((rd_T77 l0 x6_1).f1) < 0 then (some (0,9)) else (if ((rd_T77 l0 x6_1).f1) > 1000 then (some (0,9)) else (sawmillref50_Discount.l0 kj4 l0 a1 (wrap64 (x6_1+1)))))) else (none)) else (none))=some (r1,r2):=by rw [if_neg (show ¬ (false=true) by decide)] at H;exact H
        clear H
        have H:=H1
        clear H1
        by_cases c13:0≤x6_1
        ·rw [if_pos c13] at H
         have c13b0:decide (0≤x6_1)=true:=decide_eq_true c13
         clear c13
         by_cases c14:x6_1 < (l0.length:Int)
         ·rw [if_pos c14] at H
          have c14b0:decide (x6_1 < (l0.length:Int))=true:=decide_eq_true c14
          clear c14
          by_cases c15:((rd_T77 l0 x6_1).f0) > 1000000000000000
          ·rw [if_pos c15] at H
           have c15b0:decide (1000000000000000 < ((rd_T77 l0 x6_1).f0))=true:=decide_eq_true c15
           clear c15
           simp only [Option.some.injEq,Prod.mk.injEq] at H
           obtain ⟨rfl,rfl⟩:=H
           have p104:0≤(x6_1:Int):=of_decide_eq_true (by first|(with_reducible assumption)|assumption)
           have q104:x6_1 < (l0.length:Int):=of_decide_eq_true (by first|(with_reducible assumption)|assumption)
           obtain ⟨ad104,e104,hx104_0,hx104_1⟩:=at_T77 HR0.out x6_1 p104 q104
           cases e104
           replace p104:=eq_true p104
           replace q104:=eq_true q104
           go_wp2
           repeat (go_quiet (fail);try go_wp2)
           go_ret2
           exact ⟨by first|rfl|(simp;done)|(simp [*];done),by repeat (first|exact Drawn0.refl _|apply Drawn0.step)⟩
          ·rw [if_neg c15] at H
           have c15b0:decide (1000000000000000 < ((rd_T77 l0 x6_1).f0))=false:=decide_eq_false c15
           clear c15
           by_cases c16:((rd_T77 l0 x6_1).f1) < 0
           ·rw [if_pos c16] at H
            have c16b0:decide (((rd_T77 l0 x6_1).f1) < 0)=true:=decide_eq_true c16
            clear c16
            simp only [Option.some.injEq,Prod.mk.injEq] at H
            obtain ⟨rfl,rfl⟩:=H
            have p104:0≤(x6_1:Int):=of_decide_eq_true (by first|(with_reducible assumption)|assumption)
            have q104:x6_1 < (l0.length:Int):=of_decide_eq_true (by first|(with_reducible assumption)|assumption)
            obtain ⟨ad104,e104,hx104_0,hx104_1⟩:=at_T77 HR0.out x6_1 p104 q104
            cases e104
            replace p104:=eq_true p104
            replace q104:=eq_true q104
            have p105:0≤(x6_1:Int):=of_decide_eq_true (by first|(with_reducible assumption)|assumption)
            have q105:x6_1 < (l0.length:Int):=of_decide_eq_true (by first|(with_reducible assumption)|assumption)
            obtain ⟨ad105,e105,hx105_0,hx105_1⟩:=at_T77 HR0.out x6_1 p105 q105
            obtain rfl:ad104=ad105:=(by injection e105)
            replace p105:=eq_true p105
            replace q105:=eq_true q105
            go_wp2
            repeat (go_quiet (fail);try go_wp2)
            go_ret2
            exact ⟨by first|rfl|(simp;done)|(simp [*];done),by repeat (first|exact Drawn0.refl _|apply Drawn0.step)⟩
           ·rw [if_neg c16] at H
            have c16b0:decide (((rd_T77 l0 x6_1).f1) < 0)=false:=decide_eq_false c16
            clear c16
            by_cases c17:((rd_T77 l0 x6_1).f1) > 1000
            ·rw [if_pos c17] at H
             have c17b0:decide (1000 < ((rd_T77 l0 x6_1).f1))=true:=decide_eq_true c17
             clear c17
             simp only [Option.some.injEq,Prod.mk.injEq] at H
             obtain ⟨rfl,rfl⟩:=H
             have p104:0≤(x6_1:Int):=of_decide_eq_true (by first|(with_reducible assumption)|assumption)
             have q104:x6_1 < (l0.length:Int):=of_decide_eq_true (by first|(with_reducible assumption)|assumption)
             obtain ⟨ad104,e104,hx104_0,hx104_1⟩:=at_T77 HR0.out x6_1 p104 q104
             cases e104
             replace p104:=eq_true p104
             replace q104:=eq_true q104
             have p105:0≤(x6_1:Int):=of_decide_eq_true (by first|(with_reducible assumption)|assumption)
             have q105:x6_1 < (l0.length:Int):=of_decide_eq_true (by first|(with_reducible assumption)|assumption)
             obtain ⟨ad105,e105,hx105_0,hx105_1⟩:=at_T77 HR0.out x6_1 p105 q105
             obtain rfl:ad104=ad105:=(by injection e105)
             replace p105:=eq_true p105
             replace q105:=eq_true q105
             have p106:0≤(x6_1:Int):=of_decide_eq_true (by first|(with_reducible assumption)|assumption)
             have q106:x6_1 < (l0.length:Int):=of_decide_eq_true (by first|(with_reducible assumption)|assumption)
             obtain ⟨ad106,e106,hx106_0,hx106_1⟩:=at_T77 HR0.out x6_1 p106 q106
             obtain rfl:ad104=ad106:=(by injection e106)
             replace p106:=eq_true p106
             replace q106:=eq_true q106
             go_wp2
             repeat (go_quiet (fail);try go_wp2)
             go_ret2
             exact ⟨by first|rfl|(simp;done)|(simp [*];done),by repeat (first|exact Drawn0.refl _|apply Drawn0.step)⟩
            ·rw [if_neg c17] at H
             have c17b0:decide (1000 < ((rd_T77 l0 x6_1).f1))=false:=decide_eq_false c17
             clear c17
             have H':=Aside0.mk H
             clear H
             have p104:0≤(x6_1:Int):=of_decide_eq_true (by first|(with_reducible assumption)|assumption)
             have q104:x6_1 < (l0.length:Int):=of_decide_eq_true (by first|(with_reducible assumption)|assumption)
             obtain ⟨ad104,e104,hx104_0,hx104_1⟩:=at_T77 HR0.out x6_1 p104 q104
             cases e104
             replace p104:=eq_true p104
             replace q104:=eq_true q104
             have p105:0≤(x6_1:Int):=of_decide_eq_true (by first|(with_reducible assumption)|assumption)
             have q105:x6_1 < (l0.length:Int):=of_decide_eq_true (by first|(with_reducible assumption)|assumption)
             obtain ⟨ad105,e105,hx105_0,hx105_1⟩:=at_T77 HR0.out x6_1 p105 q105
             obtain rfl:ad104=ad105:=(by injection e105)
             replace p105:=eq_true p105
             replace q105:=eq_true q105
             have p106:0≤(x6_1:Int):=of_decide_eq_true (by first|(with_reducible assumption)|assumption)
             have q106:x6_1 < (l0.length:Int):=of_decide_eq_true (by first|(with_reducible assumption)|assumption)
             obtain ⟨ad106,e106,hx106_0,hx106_1⟩:=at_T77 HR0.out x6_1 p106 q106
             obtain rfl:ad104=ad106:=(by injection e106)
             replace p106:=eq_true p106
             replace q106:=eq_true q106
             go_wp2
             repeat (go_quiet (fail);try go_wp2)
             go_roundg kj4
             case measure=>have:=HK1.out;have:=HJ4.out;omega
             case rel=>exact ⟨(wrap64 (x6_1+1)),(by first|rfl|(simp;done)|(simp [*];done)),H',⟨by have:=HK1.out;have:=HJ4.out;omega⟩,by repeat (first|exact Drawn0.refl _|apply Drawn0.step)⟩
         ·rw [if_neg c14] at H
          exact absurd H (by simp)
        ·rw [if_neg c13] at H
         exact absurd H (by simp)
    ·rw [if_neg c4] at H
     have c4b0:decide (x6_1 < (l0.length:Int))=false:=decide_eq_false c4
     clear c4
     have HC18:=Aside0.mk H
     clear H
     go_upto_region 10 with (fail)
     repeat (go_quiet (fail);go_upto_region 10 with (fail))
     go_cut [69] (fun v69 wc=>∃ (kq:Nat) (x69_17:Bool),v69=.bool x69_17∧Aside0 (sawmillref50_Discount.j2 kq l0 a1 x69_17=some (r1,r2))∧Aside0 (kq≤k1)∧Drawn0 w wc)
     case first =>
      have H:=HC18.out
      clear HC18
      by_cases c19:a1 < 0
      ·rw [if_pos c19] at H
       have c19b0:decide (a1 < 0)=true:=decide_eq_true c19
       clear c19
       (first|rw [c19b0]|(simp only [qaO,qaP];rw [c19b0])|skip)
       have H':=Aside0.mk H
       clear H
       go_wp2
       repeat (go_quiet (fail);try go_wp2)
       go_meet
       case rel=>exact ⟨_,(true),(by first|rfl|(simp;done)|(simp [*];done)),H',⟨by have:=HK1.out;first|omega|exact Nat.le_refl _⟩,by repeat (first|exact Drawn0.refl _|apply Drawn0.step)⟩
      ·rw [if_neg c19] at H
       have c19b0:decide (a1 < 0)=false:=decide_eq_false c19
       clear c19
       (first|rw [c19b0]|(simp only [qaO,qaP];rw [c19b0])|skip)
       have H':=Aside0.mk H
       clear H
       go_wp2
       repeat (go_quiet (fail);try go_wp2)
       go_meet
       case rel=>exact ⟨_,(decide (a1 > 1000000000000000)),(by first|rfl|(simp;done)|(simp [*];done)),H',⟨by have:=HK1.out;first|omega|exact Nat.le_refl _⟩,by repeat (first|exact Drawn0.refl _|apply Drawn0.step)⟩
     case rest =>
      clear HC18
      try clear c1
      try clear p1
      try clear q1
      try clear hx1
      try clear p2
      try clear c3
      try clear c3b0
      try clear c3b1
      try clear c4
      try clear c4b0
      try clear c6
      try clear c6b0
      try clear p6
      try clear c7
      try clear c7b0
      try clear c8
      try clear c8b0
      try clear c10
      try clear c10b0
      try clear p10
      try clear q10
      try clear hx10
      try clear c11
      try clear c11b0
      try clear c12
      try clear c13
      try clear c13b0
      try clear c14
      try clear c14b0
      try clear c15
      try clear c15b0
      try clear c16
      try clear c16b0
      try clear c17
      try clear c17b0
      try clear c19
      try clear c19b0
      try clear hx101_0
      try clear hx101_1
      try clear hx102_0
      try clear hx102_1
      try clear hx103_0
      try clear hx103_1
      try clear hx104_0
      try clear hx104_1
      try clear hx105_0
      try clear hx105_1
      try clear hx106_0
      try clear hx106_1
      try clear p1
      try clear p10
      try clear p101
      try clear p102
      try clear p103
      try clear p104
      try clear p105
      try clear p106
      try clear p2
      try clear p6
      try clear q1
      try clear q10
      try clear q101
      try clear q102
      try clear q103
      try clear q104
      try clear q105
      try clear q106
      obtain ⟨kq,x69_17,rfl,HA,HJ17,⟨mc17,rfl⟩⟩:=hcut
      cases kq with
      | zero=>exact absurd HA.out (by simp [sawmillref50_Discount.j2])
      | succ kj17 =>
       have H:=HA.out
       clear HA
       simp only [sawmillref50_Discount.j2] at H
       by_cases c20:x69_17=true
       ·subst c20
        have H1:(some (0,9))=some (r1,r2):=by rw [if_pos rfl] at H;exact H
        clear H
        have H:=H1
        clear H1
        simp only [Option.some.injEq,Prod.mk.injEq] at H
        obtain ⟨rfl,rfl⟩:=H
        go_wp2
        repeat (go_quiet (fail);try go_wp2)
        go_ret2
        exact ⟨by first|rfl|(simp;done)|(simp [*];done),by repeat (first|exact Drawn0.refl _|apply Drawn0.step)⟩
       ·replace c20:=Bool.eq_false_iff.mpr c20
        subst c20
        have H1:(sawmillref50_Discount.l1 kj17 l0 a1 0 0)=some (r1,r2):=by rw [if_neg (show ¬ (false=true) by decide)] at H;exact H
        clear H
        have H:=H1
        clear H1
        have H':=Aside0.mk H
        clear H
        go_wp2
        repeat (go_quiet (fail);try go_wp2)
        go_loopg [7,8] kj17 (fun kq v7 v8 w'=>∃ (x7_3:Int) (x8_3:Int),v7=.int .i64 x7_3∧v8=.int .i64 x8_3∧Aside0 (sawmillref50_Discount.l1 kq l0 a1 x7_3 x8_3=some (r1,r2))∧Aside0 (kq≤kj17)∧Drawn0 w w')
        case atStart=>exact ⟨(0),(0),(by first|rfl|(simp;done)|(simp [*];done)),(by first|rfl|(simp;done)|(simp [*];done)),H',⟨Nat.le_refl _⟩,by repeat (first|exact Drawn0.refl _|apply Drawn0.step)⟩
        case round =>
         clear H'
         try clear c1
         try clear p1
         try clear q1
         try clear hx1
         try clear c2
         try clear p2
         try clear c3
         try clear c3b0
         try clear c3b1
         try clear c4
         try clear c4b0
         try clear c6
         try clear c6b0
         try clear p6
         try clear c7
         try clear c7b0
         try clear c8
         try clear c8b0
         try clear c10
         try clear c10b0
         try clear p10
         try clear q10
         try clear hx10
         try clear c11
         try clear c11b0
         try clear c12
         try clear c13
         try clear c13b0
         try clear c14
         try clear c14b0
         try clear c15
         try clear c15b0
         try clear c16
         try clear c16b0
         try clear c17
         try clear c17b0
         try clear c19
         try clear c19b0
         try clear c20
         try clear hx101_0
         try clear hx101_1
         try clear hx102_0
         try clear hx102_1
         try clear hx103_0
         try clear hx103_1
         try clear hx104_0
         try clear hx104_1
         try clear hx105_0
         try clear hx105_1
         try clear hx106_0
         try clear hx106_1
         try clear p1
         try clear p10
         try clear p101
         try clear p102
         try clear p103
         try clear p104
         try clear p105
         try clear p106
         try clear p2
         try clear p6
         try clear q1
         try clear q10
         try clear q101
         try clear q102
         try clear q103
         try clear q104
         try clear q105
         try clear q106
         obtain ⟨x7_3,x8_3,rfl,rfl,HA,HK3,⟨m3,rfl⟩⟩:=hrel
         cases gk with
         | zero=>exact absurd HA.out (by simp [sawmillref50_Discount.l1])
         | succ k3 =>
          have H:=HA.out
          clear HA
          simp only [sawmillref50_Discount.l1] at H
          by_cases c21:x8_3 < (l0.length:Int)
          ·rw [if_pos c21] at H
           have c21b0:decide (x8_3 < (l0.length:Int))=true:=decide_eq_true c21
           clear c21
           by_cases c22:0≤x8_3
           ·rw [if_pos c22] at H
            have c22b0:decide (0≤x8_3)=true:=decide_eq_true c22
            clear c22
            by_cases c23:((rd_T77 l0 x8_3).f0)≤a1
            ·rw [if_pos c23] at H
             have c23b0:decide (((rd_T77 l0 x8_3).f0)≤a1)=true:=decide_eq_true c23
             clear c23
             have H':=Aside0.mk H
             clear H
             have p107:0≤(x8_3:Int):=of_decide_eq_true (by first|(with_reducible assumption)|assumption)
             have q107:x8_3 < (l0.length:Int):=of_decide_eq_true (by first|(with_reducible assumption)|assumption)
             obtain ⟨ad107,e107,hx107_0,hx107_1⟩:=at_T77 HR0.out x8_3 p107 q107
             cases e107
             replace p107:=eq_true p107
             replace q107:=eq_true q107
             have p108:0≤(x8_3:Int):=of_decide_eq_true (by first|(with_reducible assumption)|assumption)
             have q108:x8_3 < (l0.length:Int):=of_decide_eq_true (by first|(with_reducible assumption)|assumption)
             obtain ⟨ad108,e108,hx108_0,hx108_1⟩:=at_T77 HR0.out x8_3 p108 q108
             obtain rfl:ad107=ad108:=(by injection e108)
             replace p108:=eq_true p108
             replace q108:=eq_true q108
             go_wp2
             repeat (go_quiet (fail);try go_wp2)
             go_roundg k3
             case measure=>have:=HK1.out;have:=HJ17.out;have:=HK3.out;omega
             case rel=>exact ⟨((rd_T77 l0 x8_3).f1),(wrap64 (x8_3+1)),(by first|rfl|(simp;done)|(simp [*];done)),(by first|rfl|(simp;done)|(simp [*];done)),H',⟨by have:=HK1.out;have:=HJ17.out;have:=HK3.out;omega⟩,by repeat (first|exact Drawn0.refl _|apply Drawn0.step)⟩
            ·rw [if_neg c23] at H
             have c23b0:decide (((rd_T77 l0 x8_3).f0)≤a1)=false:=decide_eq_false c23
             clear c23
             have H':=Aside0.mk H
             clear H
             have p107:0≤(x8_3:Int):=of_decide_eq_true (by first|(with_reducible assumption)|assumption)
             have q107:x8_3 < (l0.length:Int):=of_decide_eq_true (by first|(with_reducible assumption)|assumption)
             obtain ⟨ad107,e107,hx107_0,hx107_1⟩:=at_T77 HR0.out x8_3 p107 q107
             cases e107
             replace p107:=eq_true p107
             replace q107:=eq_true q107
             go_wp2
             repeat (go_quiet (fail);try go_wp2)
             go_roundg k3
             case measure=>have:=HK1.out;have:=HJ17.out;have:=HK3.out;omega
             case rel=>exact ⟨(x7_3),(wrap64 (x8_3+1)),(by first|rfl|(simp;done)|(simp [*];done)),(by first|rfl|(simp;done)|(simp [*];done)),H',⟨by have:=HK1.out;have:=HJ17.out;have:=HK3.out;omega⟩,by repeat (first|exact Drawn0.refl _|apply Drawn0.step)⟩
           ·rw [if_neg c22] at H
            exact absurd H (by simp)
          ·rw [if_neg c21] at H
           have c21b0:decide (x8_3 < (l0.length:Int))=false:=decide_eq_false c21
           clear c21
           simp only [Option.some.injEq,Prod.mk.injEq] at H
           obtain ⟨rfl,rfl⟩:=H
           go_wp2
           repeat (go_quiet (fail);try go_wp2)
           go_ret2
           exact ⟨by first|rfl|(simp;done)|(simp [*];done),by repeat (first|exact Drawn0.refl _|apply Drawn0.step)⟩
end Go.Proofs.YtojkjhaobjidlaaDoor.P
namespace Go.Proofs.YtojkjhaobjidlaaDoor.P
open Go.RowKit Go.Proofs.YtojkjhaobjidlaaDoorW.PrintWords Go.Proofs.YtojkjhaobjidlaaDoorW.PrintLast Go.Proofs.YtojkjhaobjidlaaDoorW.PrintMore
attribute [local go_sem] qbG qbH qbO qbP qbC qbD qbI qbJ
attribute [local go_sem] qbB
set_option linter.unusedVariables false
set_option linter.unusedSimpArgs false
def sawmilllaw50_tiers.l0:Nat→List (S56)→List (S77)→Int→Option ((List (S77)))
 | 0,_,_,_=>none
 | k+1,x0,x3,x4=>if x4 < (x0.length:Int) then (if 0≤x4 then (if x3.length < 8796093022208 then (sawmilllaw50_tiers.l0 k x0 (x3++[(⟨(qbF x0 x4).f0,(qbF x0 x4).f1⟩:S77)]) (wrap64 (x4+1))) else (none)) else (none)) else (some x3)
def sawmilllaw50_tiers.f (k:Nat) (l0:List (S56)):Option ((List (S77))):=sawmilllaw50_tiers.l0 k l0 ([]:List (S77)) 0
set_option maxHeartbeats 8000000 in
set_option maxRecDepth 100000 in
theorem sawmilllaw50_tiers.calls (k:Nat) (A0:Option Addr) (c0:Nat) (l0:List (S56)) (r:List (S77)) (w:World) (hr0:Kd.C k56 w A0 l0.length l0) (hc0:l0.length≤c0) (h:sawmilllaw50_tiers.f k l0=some r) :
  Calls Tryd.prog 18 #[.slice A0 l0.length c0] w fun e w'=>∃ v0_:Value,e=.returned (v0_)∧Kd.R k77 77 w' w.heap.size (fun _=>True) v0_ r∧Below w.heap.size w w':=by
 have hu56:=Tryd.underlying56
 have HR0:=Aside0.mk hr0
 have HC0:=Aside0.mk hc0
 clear hr0 hc0
 have HB:=Aside0.mk (Below.refl w.heap.size w)
 have H:(sawmilllaw50_tiers.l0 k l0 ([]:List (S77)) 0)=some r:=h
 clear h
 have H':=Aside0.mk H
 clear H
 go_enter Tryd.func18,Tryd.ntmps18
 go_wp2
 go_loopg [3,4] k (fun kq v3 v4 w'=>∃ (x3_1:List (S77)) (x4_1:Int),v4=.int .i64 x4_1∧Aside0 (sawmilllaw50_tiers.l0 kq l0 x3_1 x4_1=some r)∧Aside0 (kq≤k)∧Aside0 (Kd.R k77 77 w' w.heap.size (fun _=>True) v3 x3_1)∧Aside0 (Below w.heap.size w w'))
 case atStart=>exact ⟨(([]:List (S77))),(0),(by first|rfl|(simp;done)|(simp [*];done)),H',⟨Nat.le_refl _⟩,⟨by first|exact Kd.R_nil _ _ _ _ _|exact Kd.N_nil _ _ _ _ _|exact Kd.V_nil _ _ _ _ _|exact Kd.Q_nil _ _ _ _ _|exact Kd.S_nil _ _ _ _ _⟩,⟨by repeat (first|(with_reducible first|exact HB.out|apply qaD|apply qaB|apply qaE)|exact HB.out)⟩⟩
 case round =>
  clear H'
  try clear c1
  obtain ⟨x3_1,x4_1,rfl,HA,HK1,HO_3,HB⟩:=hrel
  cases gk with
  | zero=>exact absurd HA.out (by simp [sawmilllaw50_tiers.l0])
  | succ k1 =>
   have H:=HA.out
   clear HA
   simp only [sawmilllaw50_tiers.l0] at H
   by_cases c2:x4_1 < (l0.length:Int)
   ·rw [if_pos c2] at H
    have c2b0:decide (x4_1 < (l0.length:Int))=true:=decide_eq_true c2
    clear c2
    by_cases c3:0≤x4_1
    ·rw [if_pos c3] at H
     have c3b0:decide (0≤x4_1)=true:=decide_eq_true c3
     clear c3
     by_cases c4:x3_1.length < 8796093022208
     ·rw [if_pos c4] at H
      have LMc4:=Aside0.mk c4
      clear c4
      obtain ⟨y102,hy102⟩:∃ y_:List (S77),y_=(x3_1++[(⟨(qbF l0 x4_1).f0,(qbF l0 x4_1).f1⟩:S77)]):=⟨_,rfl⟩
      replace H:(sawmilllaw50_tiers.l0 k1 l0 y102 (wrap64 (x4_1+1)))=some r:=by first|(rw [hy102];with_reducible exact H)|(have H2_:=(Option.bind_some _ _).symm.trans H;rw [hy102];with_reducible exact H2_)|(have H2_:=(Option.bind_some _ _).symm.trans H;with_reducible exact H2_)|with_reducible exact H|(rw [hy102];exact H)|exact H
      have Ny102:=Aside0.mk hy102
      clear hy102
      have H':=Aside0.mk H
      clear H
      have p101:0≤(x4_1:Int):=of_decide_eq_true (by first|(with_reducible assumption)|assumption)
      have q101:x4_1 < (l0.length:Int):=of_decide_eq_true (by first|(with_reducible assumption)|assumption)
      obtain ⟨ad101,e101,hx101_0,hx101_1⟩:=at_T56 HR0.out x4_1 p101 q101
      cases e101
      replace hx101_0:=(HB.out.cell (World.block_lt_of_cell? w _ hx101_0)).trans hx101_0
      replace hx101_1:=(HB.out.cell (World.block_lt_of_cell? w _ hx101_1)).trans hx101_1
      replace p101:=eq_true p101
      replace q101:=eq_true q101
      go_wp2_with (first|((with_reducible refine gate_builtin (b:=.append) (xs:=#[.tmp 11,.tmp 16]) rfl ?_);at_builtin;refine Kd.R_append k77 (w0:=w) w.heap.size rfl (.tmp 11) (.tmp 16) 42 77 (.agg #[(.int .i64 0),(.int .i64 0)]) 16 rfl Tryd.underlying42 info77 rfl (by decide) (by omega) u3 x3_1 (⟨(qbF l0 x4_1).f0,(qbF l0 x4_1).f1⟩:S77) [.int .i64 ((qbF l0 x4_1).f0),.int .i64 ((qbF l0 x4_1).f1)] (fun _=>True) (fun _=>False) rfl rfl ?aP (fun _ hk=>hk.elim) ?aF ?aO ?aB ?aS ?aL ?_;(case aP=>exact k77_mkM _ _ _ (⟨(qbF l0 x4_1).f0,(qbF l0 x4_1).f1⟩:S77));(case aB=>exact (by repeat (first|(with_reducible first|exact HB.out|apply qaD|apply qaB|apply qaE)|exact HB.out)));(case aF=>exact (fun _ _=>trivial));(case aO=>exact (by (with_reducible repeat (first|apply Kd.R_alloc|apply Kd.R_drewN|apply Kd.R_drew));exact HO_3.out));(case aS=>exact (qaN (by repeat (first|(with_reducible first|exact HB.out|apply qaD|apply qaB|apply qaE)|exact HB.out))));(case aL=>have:=LMc4.out;omega);intro v103 w5 ho hb hg hat;rw [← Ny102.out] at ho;have n0_:=Aside0.mk (hb);have n1_:=Aside0.mk (ho);clear HB;clear HO_3;have HB:=n0_;have HO104:=n1_;clear n0_ n1_;clear ho hb hg hat))
      go_roundg k1
      case measure=>have:=HK1.out;omega
      case rel=>exact ⟨(y102),(wrap64 (x4_1+1)),(by first|rfl|(simp;done)|(simp [*];done)),H',⟨by have:=HK1.out;omega⟩,⟨by (with_reducible repeat (first|apply Kd.R_alloc|apply Kd.R_drewN|apply Kd.R_drew));exact HO104.out⟩,⟨by repeat (first|(with_reducible first|exact HB.out|apply qaD|apply qaB|apply qaE)|exact HB.out)⟩⟩
     ·rw [if_neg c4] at H
      exact absurd H (by simp)
    ·rw [if_neg c3] at H
     exact absurd H (by simp)
   ·rw [if_neg c2] at H
    have c2b0:decide (x4_1 < (l0.length:Int))=false:=decide_eq_false c2
    clear c2
    obtain rfl:=Option.some.inj H
    go_wp2
    go_ret
    exact ⟨_,by first|rfl|(simp [qaL,qaM]<;>rfl)|(simp [*,qaL,qaM]<;>rfl),by (with_reducible repeat (first|apply Kd.R_alloc|apply Kd.R_drewN|apply Kd.R_drew));exact HO_3.out,by repeat (first|(with_reducible first|exact HB.out|apply qaD|apply qaB|apply qaE)|exact HB.out)⟩
end Go.Proofs.YtojkjhaobjidlaaDoor.P
namespace Go.Proofs.YtojkjhaobjidlaaDoor.P
open Go.RowKit Go.Proofs.YtojkjhaobjidlaaDoorW.PrintWords Go.Proofs.YtojkjhaobjidlaaDoorW.PrintMore
set_option linter.unusedVariables false
set_option linter.unusedSimpArgs false
abbrev TR:=S77
def cvT (t:TI):TR:=⟨t.f0,t.f1⟩
theorem rdR_get (l:List TI) (i:Nat) (h:i < l.length):rd_T77 (l.map cvT) (i:Int)=cvT l[i]:=by
 unfold rd_T77
 rw [List.getD_eq_getElem?_getD,List.getElem?_eq_getElem (by simpa using h)]
 simp
theorem tiers_l0 (l:List TI) (hl:l.length≤1000):∀ (d k i:Nat),i+d=l.length→d < k→sawmilllaw50_tiers.l0 k l ((l.take i).map cvT) (i:Int)=some (l.map cvT):=by
 intro d
 induction d with
 | zero =>
  intro k i hi hk
  obtain ⟨k,rfl⟩:∃ m,k=m+1:=⟨k - 1,by omega⟩
  simp only [sawmilllaw50_tiers.l0]
  rw [if_neg (by omega),List.take_of_length_le (by omega)]
 | succ d ih =>
  intro k i hi hk
  obtain ⟨k,rfl⟩:∃ m,k=m+1:=⟨k - 1,by omega⟩
  have h2:i < l.length:=by omega
  have h3:((l.take i).map cvT).length < 8796093022208:=by rw [List.length_map,List.length_take];omega
  have hs:=ih k (i+1) (by omega) (by omega)
  have e2:(l.take i).map cvT++[(⟨(qbF l (i:Int)).f0,(qbF l (i:Int)).f1⟩:TR)]=(l.take (i+1)).map cvT:=by
   rw [List.take_add_one,List.getElem?_eq_getElem h2,List.map_append,rdT_get i h2]
   rfl
  simp only [sawmilllaw50_tiers.l0]
  rw [if_pos (by omega),if_pos (by omega),if_pos h3,e2,wrap_nat i 1000000 (by omega) (by omega)]
  exact hs
theorem tiers_f (l:List TI) (hl:l.length≤1000) (k:Nat) (hk:l.length < k):sawmilllaw50_tiers.f k l=some (l.map cvT):=tiers_l0 l hl l.length k 0 (by omega) hk
theorem rdisc_l1 (total:Int) (h0:0≤total) (h1:total≤1000000000000000) (l:List TI) (hl:l.length≤1000) (ht:∀ t ∈ l,0≤t.f1∧t.f1≤1000):∀ (d k i:Nat) (off:Int),i+d=l.length→d < k→0≤off→off≤1000→sawmillref50_Discount.l1 k (l.map cvT) total off (i:Int)=some (total * offGo total off (l.drop i) / 1000,0):=by
 intro d
 induction d with
 | zero =>
  intro k i off hi hk g0 g1
  obtain ⟨k,rfl⟩:∃ m,k=m+1:=⟨k - 1,by omega⟩
  simp only [sawmillref50_Discount.l1,List.length_map]
  rw [if_neg (by omega),List.drop_of_length_le (by omega),offGo]
  have a0:0≤total * off:=Int.mul_nonneg h0 g0
  have a1:total * off≤1000000000000000 * 1000:=Int.mul_le_mul h1 g1 g0 (by omega)
  clear ht
  generalize total * off=m at a0 a1 ⊢
  have e1:wrap64 m=m:=wrap_small m a0 (by omega)
  rw [e1,Int.tdiv_eq_ediv_of_nonneg a0,wrap_small (m / 1000) (by omega) (by omega)]
 | succ d ih =>
  intro k i off hi hk g0 g1
  obtain ⟨k,rfl⟩:∃ m,k=m+1:=⟨k - 1,by omega⟩
  have h2:i < l.length:=by omega
  have ht2:=ht l[i] (List.getElem_mem h2)
  simp only [sawmillref50_Discount.l1,List.length_map]
  rw [if_pos (by omega),if_pos (by omega),wrap_nat i 1000000 (by omega) (by omega),rdR_get l i h2,List.drop_eq_getElem_cons h2,offGo]
  by_cases g:l[i].f0≤total
  ·rw [if_pos g,if_pos (show (cvT l[i]).f0≤total from g)]
   exact ih k (i+1) _ (by omega) (by omega) ht2.1 ht2.2
  ·rw [if_neg g,if_neg (show ¬ (cvT l[i]).f0≤total from g)]
   exact ih k (i+1) _ (by omega) (by omega) g0 g1
def rfin (total:Int) (l:List TI) (r:Int × Int):Int × Int:=if r.2=0 then (total * offGo total 0 l / 1000,0) else (0,r.2)
theorem rdisc_l0 (total:Int) (l:List TI) (hl:l.length≤1000):∀ (d k i:Nat) (b off:Int),i+d=l.length→2 * d+l.length+3 < k→(∀ t ∈ l.take i,0≤t.f1∧t.f1≤1000)→(i=0∧b=-1 ∨ 0 < i∧0≤b∧∃ h:i - 1 < l.length,b=l[i - 1].f0)→sawmillref50_Discount.l0 k (l.map cvT) total (i:Int)=some (rfin total l (discGo total b off (l.drop i))):=by
 intro d
 induction d with
 | zero =>
  intro k i b off hi hk ht hb
  obtain ⟨k,rfl⟩:∃ m,k=m+2:=⟨k - 2,by omega⟩
  have f1:l.length < k:=by omega
  simp only [sawmillref50_Discount.l0,sawmillref50_Discount.j2,List.length_map,if_true,decide_eq_true_eq,gt_iff_lt]
  rw [if_neg (by omega),List.drop_of_length_le (by omega),discGo]
  rw [List.take_of_length_le (by omega)] at ht
  clear hb
  by_cases g1:total < 0
  ·rw [if_pos g1,if_pos g1]
   rfl
  rw [if_neg g1,if_neg g1]
  by_cases g2:1000000000000000 < total
  ·rw [if_pos g2,if_pos g2]
   rfl
  rw [if_neg g2,if_neg g2]
  have:=rdisc_l1 total (by omega) (by omega) l hl ht l.length k 0 0 (by omega) f1 (by omega) (by omega)
  rw [show ((0:Nat):Int)=0 from rfl] at this
  rw [this]
  rfl
 | succ d ih =>
  intro k i b off hi hk ht hb
  obtain ⟨k,rfl⟩:∃ m,k=m+2:=⟨k - 2,by omega⟩
  have h2:i < l.length:=by omega
  have f2:2 * d+l.length+3 < k:=by omega
  have f3:i+1+d=l.length:=by omega
  have q0:(i:Int) < (l.length:Int):=by omega
  have q1:(0:Int)≤(i:Int):=by omega
  have q2:i≤1000000:=by omega
  have hstep:∀ off,0≤l[i].f0→0≤l[i].f1→l[i].f1≤1000→sawmillref50_Discount.l0 k (l.map cvT) total ((i+1:Nat):Int)=some (rfin total l (discGo total l[i].f0 off (l.drop (i+1)))):=fun off z0 z1 z2=>by
   refine ih k (i+1) l[i].f0 off f3 f2 (fun t htt=>?_) (Or.inr ⟨Nat.succ_pos i,z0,h2,rfl⟩)
   rw [List.take_add_one,List.getElem?_eq_getElem h2,List.mem_append] at htt
   rcases htt with htt|htt
   ·exact ht t htt
   ·simp at htt
    rw [htt]
    exact ⟨z1,z2⟩
  have hj:sawmillref50_Discount.j1 (k+1) (l.map cvT) total (i:Int) false=some (rfin total l (if 1000000000000000 < l[i].f0 ∨ l[i].f1 < 0 ∨ 1000 < l[i].f1 then (0,9) else discGo total l[i].f0 (if l[i].f0≤total then l[i].f1 else off) (l.drop (i+1)))) ∨ l[i].f0 < 0:=by
   by_cases z0:l[i].f0 < 0
   ·exact Or.inr z0
   refine Or.inl ?_
   simp only [sawmillref50_Discount.j1,List.length_map]
   rw [if_neg (by simp),if_pos q1,if_pos q0,rdR_get l i h2,wrap_nat i 1000000 q2 (by decide)]
   show (if l[i].f0 > 1000000000000000 then _ else if l[i].f1 < 0 then _ else if l[i].f1 > 1000 then _ else _)=_
   by_cases g2:1000000000000000 < l[i].f0
   ·rw [if_pos g2,if_pos (Or.inl g2)];rfl
   rw [if_neg g2]
   by_cases g3:l[i].f1 < 0
   ·rw [if_pos g3,if_pos (Or.inr (Or.inl g3))];rfl
   rw [if_neg g3]
   by_cases g4:1000 < l[i].f1
   ·rw [if_pos g4,if_pos (Or.inr (Or.inr g4))];rfl
   rw [if_neg g4,if_neg (by omega)]
   exact hstep _ (by omega) (by omega) (by omega)
  have hj2:sawmillref50_Discount.j1 (k+1) (l.map cvT) total (i:Int) true=some (0,11):=by
   simp only [sawmillref50_Discount.j1]
   rw [if_pos trivial]
  rw [List.drop_eq_getElem_cons h2,discGo]
  rw [sawmillref50_Discount.l0,List.length_map,if_pos q0,if_pos q1,rdR_get l i h2]
  show (if l[i].f0 < 0 then _ else _)=_
  by_cases g1:l[i].f0 < 0
  ·have hle:l[i].f0≤b:=by
    clear hj
    rcases hb with ⟨-,h⟩|⟨-,h,-⟩
    ·omega
    ·omega
   rw [if_pos g1,hj2,if_pos hle]
   rfl
  rw [if_neg g1]
  have hj':=hj.resolve_right g1
  rcases hb with ⟨rfl,rfl⟩|⟨hp,hb0,hx,hb1⟩
  ·rw [if_neg (by decide),hj',if_neg (show ¬ l[0].f0≤-1 by omega)]
  ·have e3:wrap64 ((i:Int) - 1)=((i - 1:Nat):Int):=by
    rw [show ((i - 1:Nat):Int)=(i:Int) - 1 by omega]
    exact wrap_small _ (by omega) (by omega)
   rw [if_pos (by omega),e3,if_pos (by omega),if_pos (by omega),rdR_get l (i - 1) hx]
   show sawmillref50_Discount.j1 (k+1) (l.map cvT) total (i:Int) (decide (l[i].f0≤l[i - 1].f0))=_
   rw [← hb1]
   by_cases g2:l[i].f0≤b
   ·rw [show decide (l[i].f0≤b)=true from decide_eq_true g2,hj2,if_pos g2]
    rfl
   ·rw [show decide (l[i].f0≤b)=false from decide_eq_false g2,hj',if_neg g2]
theorem rdisc_f (l:List TI) (total:Int) (k:Nat) (hk:40 < k):sawmillref50_Discount.f k (l.map cvT) total=some (discB l total):=by
 unfold sawmillref50_Discount.f
 rw [List.length_map]
 by_cases g:8 < l.length
 ·rw [if_pos (by omega)]
  unfold discB
  rw [if_pos g]
 ·rw [if_neg (by omega)]
  have h:=rdisc_l0 total l (by omega) l.length k 0 (-1) 0 (by omega) (by omega) (fun t ht=>by simp at ht) (Or.inl ⟨rfl,rfl⟩)
  rw [show ((0:Nat):Int)=0 from rfl] at h
  rw [h,List.drop_zero]
  have hd:discB l total=discGo total (-1) 0 l:=by unfold discB;rw [if_neg g]
  rw [← hd]
  unfold rfin
  by_cases z:(discB l total).2=0
  ·rw [if_pos z]
   have:=(disc_is l total z).2.2.2.1
   rw [← this,← z]
  ·rw [if_neg z,← disc_err l total z]
end Go.Proofs.YtojkjhaobjidlaaDoor.P
namespace Go.Proofs.YtojkjhaobjidlaaDoor.P
open Go.RowKit Go.Proofs.YtojkjhaobjidlaaDoorW.PrintWords Go.Proofs.YtojkjhaobjidlaaDoorW.PrintMore
set_option linter.unusedVariables false
set_option linter.unusedSimpArgs false
theorem name_small {s:ByteArray} (h:isNm s=true):s.size≤16:=by
 unfold isNm at h
 simp only [Bool.and_eq_true,decide_eq_true_eq] at h
 omega
theorem nums_ok {c:List PR} {l:List IT} {t:List TI} (h:(invB c l t).2.2.2=0):textOk c l (invB c l t).1 (invB c l t).2.1 (invB c l t).2.2.1=true:=by
 obtain ⟨h1,h2,h3,h4⟩:=inv_ok c l t h
 rw [h4]
 obtain ⟨-,d1,d2,d3,d4⟩:=disc_ok t _ h3
 unfold textOk
 simp only [Bool.and_eq_true,decide_eq_true_eq,List.length_map]
 refine ⟨by omega,Nat.le_refl _,List.all_eq_true.mpr fun x hx=>?_,List.all_eq_true.mpr fun a ha=>?_,?_,?_⟩
 ·obtain ⟨-,a1,a2,a3,a4,a5,a6,-,-,-,a7,-⟩:=amount_ok c x (h2 x hx)
  have:=name_small a7.nm
  unfold itemOk i64ok
  simp only [Bool.and_eq_true,decide_eq_true_eq]
  omega
 ·obtain ⟨x,hx,rfl⟩:=List.mem_map.mp ha
  obtain ⟨-,-,-,-,-,-,-,-,-,-,-,-,a1,a2⟩:=amount_ok c x (h2 x hx)
  unfold i64ok
  simp only [Bool.and_eq_true,decide_eq_true_eq]
  omega
 ·unfold i64ok
  simp only [Bool.and_eq_true,decide_eq_true_eq]
  omega
 ·unfold i64ok
  simp only [Bool.and_eq_true,decide_eq_true_eq]
  omega
def fullB (c:List PR) (l:List IT) (t:List TI):ByteArray:=(textB c l (invB c l t).1 l.length 0 ⟨#[]⟩++lineB (wordB 1 ⟨#[]⟩) [(invB c l t).2.1])++lineB (wordB 2 ⟨#[]⟩) [(invB c l t).2.2.1]
theorem text_f (c:List PR) (l:List IT) (t:List TI) (k:Nat) (hk:120 < k):bill_Text.f k c l t=some (if (invB c l t).2.2.2=0 then (fullB c l t,0) else (⟨#[]⟩,(invB c l t).2.2.2)):=by
 unfold bill_Text.f
 rw [inv_f c l t k hk,Option.bind_some]
 by_cases h:(invB c l t).2.2.2=0
 ·rw [if_pos h,if_pos h,if_pos (nums_ok h)]
  rfl
 ·rw [if_neg h,if_neg h]
end Go.Proofs.YtojkjhaobjidlaaDoor.P
namespace Go.Proofs.YtojkjhaobjidlaaDoor.P
open Go.RowKit Go.Proofs.YtojkjhaobjidlaaDoorW.PrintWords Go.Proofs.YtojkjhaobjidlaaDoorW.PrintLast Go.Proofs.YtojkjhaobjidlaaDoorW.PrintMore
attribute [local go_sem] qbG qbH qbO qbP qbC qbD qbI qbJ
attribute [local go_sem] qbB
set_option linter.unusedVariables false
set_option linter.unusedSimpArgs false
def sawmilllaw50_items.l0:Nat→List (S35)→List (S38)→Int→Option ((List (S38)))
 | 0,_,_,_=>none
 | k+1,x0,x3,x4=>if x4 < (x0.length:Int) then (if 0≤x4 then (if x3.length < 4398046511104 then (sawmilllaw50_items.l0 k x0 (x3++[(⟨(qaY x0 x4).f0,(qaY x0 x4).f1,(qaY x0 x4).f2,(qaY x0 x4).f3⟩:S38)]) (wrap64 (x4+1))) else (none)) else (none)) else (some x3)
def sawmilllaw50_items.f (k:Nat) (l0:List (S35)):Option ((List (S38))):=sawmilllaw50_items.l0 k l0 ([]:List (S38)) 0
set_option maxHeartbeats 8000000 in
set_option maxRecDepth 100000 in
theorem sawmilllaw50_items.calls (k:Nat) (A0:Option Addr) (c0:Nat) (l0:List (S35)) (r:List (S38)) (w:World) (hr0:Kd.C k35 w A0 l0.length l0) (hc0:l0.length≤c0) (h:sawmilllaw50_items.f k l0=some r) :
  Calls Tryd.prog 20 #[.slice A0 l0.length c0] w fun e w'=>∃ v0_:Value,e=.returned (v0_)∧Kd.R k38 38 w' w.heap.size (fun _=>True) v0_ r∧Below w.heap.size w w':=by
 have hu35:=Tryd.underlying35
 have HR0:=Aside0.mk hr0
 have HC0:=Aside0.mk hc0
 clear hr0 hc0
 have HB:=Aside0.mk (Below.refl w.heap.size w)
 have H:(sawmilllaw50_items.l0 k l0 ([]:List (S38)) 0)=some r:=h
 clear h
 have H':=Aside0.mk H
 clear H
 go_enter Tryd.func20,Tryd.ntmps20
 go_wp2
 go_loopg [3,4] k (fun kq v3 v4 w'=>∃ (x3_1:List (S38)) (x4_1:Int),v4=.int .i64 x4_1∧Aside0 (sawmilllaw50_items.l0 kq l0 x3_1 x4_1=some r)∧Aside0 (kq≤k)∧Aside0 (Kd.R k38 38 w' w.heap.size (fun _=>True) v3 x3_1)∧Aside0 (Below w.heap.size w w'))
 case atStart=>exact ⟨(([]:List (S38))),(0),(by first|rfl|(simp;done)|(simp [*];done)),H',⟨Nat.le_refl _⟩,⟨by first|exact Kd.R_nil _ _ _ _ _|exact Kd.N_nil _ _ _ _ _|exact Kd.V_nil _ _ _ _ _|exact Kd.Q_nil _ _ _ _ _|exact Kd.S_nil _ _ _ _ _⟩,⟨by repeat (first|(with_reducible first|exact HB.out|apply qaD|apply qaB|apply qaE)|exact HB.out)⟩⟩
 case round =>
  clear H'
  obtain ⟨x3_1,x4_1,rfl,HA,HK1,HO_3,HB⟩:=hrel
  cases gk with
  | zero=>exact absurd HA.out (by simp [sawmilllaw50_items.l0])
  | succ k1 =>
   have H:=HA.out
   clear HA
   simp only [sawmilllaw50_items.l0] at H
   by_cases c2:x4_1 < (l0.length:Int)
   ·rw [if_pos c2] at H
    have c2b0:decide (x4_1 < (l0.length:Int))=true:=decide_eq_true c2
    clear c2
    by_cases c3:0≤x4_1
    ·rw [if_pos c3] at H
     have c3b0:decide (0≤x4_1)=true:=decide_eq_true c3
     clear c3
     by_cases c4:x3_1.length < 4398046511104
     ·rw [if_pos c4] at H
      have LMc4:=Aside0.mk c4
      clear c4
      obtain ⟨y102,hy102⟩:∃ y_:List (S38),y_=(x3_1++[(⟨(qaY l0 x4_1).f0,(qaY l0 x4_1).f1,(qaY l0 x4_1).f2,(qaY l0 x4_1).f3⟩:S38)]):=⟨_,rfl⟩
      replace H:(sawmilllaw50_items.l0 k1 l0 y102 (wrap64 (x4_1+1)))=some r:=by first|(rw [hy102];with_reducible exact H)|(have H2_:=(Option.bind_some _ _).symm.trans H;rw [hy102];with_reducible exact H2_)|(have H2_:=(Option.bind_some _ _).symm.trans H;with_reducible exact H2_)|with_reducible exact H|(rw [hy102];exact H)|exact H
      have Ny102:=Aside0.mk hy102
      clear hy102
      have H':=Aside0.mk H
      clear H
      have p101:0≤(x4_1:Int):=of_decide_eq_true (by first|(with_reducible assumption)|assumption)
      have q101:x4_1 < (l0.length:Int):=of_decide_eq_true (by first|(with_reducible assumption)|assumption)
      obtain ⟨ad101,e101,hx101_0,hx101_1,hx101_2,hx101_3⟩:=at_T35 HR0.out x4_1 p101 q101
      cases e101
      replace hx101_0:=(HB.out.cell (World.block_lt_of_cell? w _ hx101_0)).trans hx101_0
      replace hx101_1:=(HB.out.cell (World.block_lt_of_cell? w _ hx101_1)).trans hx101_1
      replace hx101_2:=(HB.out.cell (World.block_lt_of_cell? w _ hx101_2)).trans hx101_2
      replace hx101_3:=(HB.out.cell (World.block_lt_of_cell? w _ hx101_3)).trans hx101_3
      replace p101:=eq_true p101
      replace q101:=eq_true q101
      go_wp2_with (first|((with_reducible refine gate_builtin (b:=.append) (xs:=#[.tmp 11,.tmp 16]) rfl ?_);at_builtin;refine Kd.R_append k38 (w0:=w) w.heap.size rfl (.tmp 11) (.tmp 16) 46 38 (.agg #[(.int .i64 0),(.int .i64 0),(.int .i64 0),(.int .i64 0)]) 32 rfl Tryd.underlying46 info38 rfl (by decide) (by omega) u3 x3_1 (⟨(qaY l0 x4_1).f0,(qaY l0 x4_1).f1,(qaY l0 x4_1).f2,(qaY l0 x4_1).f3⟩:S38) [.int .i64 ((qaY l0 x4_1).f0),.int .i64 ((qaY l0 x4_1).f1),.int .i64 ((qaY l0 x4_1).f2),.int .i64 ((qaY l0 x4_1).f3)] (fun _=>True) (fun _=>False) rfl rfl ?aP (fun _ hk=>hk.elim) ?aF ?aO ?aB ?aS ?aL ?_;(case aP=>exact k38_mkM _ _ _ (⟨(qaY l0 x4_1).f0,(qaY l0 x4_1).f1,(qaY l0 x4_1).f2,(qaY l0 x4_1).f3⟩:S38));(case aB=>exact (by repeat (first|(with_reducible first|exact HB.out|apply qaD|apply qaB|apply qaE)|exact HB.out)));(case aF=>exact (fun _ _=>trivial));(case aO=>exact (by (with_reducible repeat (first|apply Kd.R_alloc|apply Kd.R_drewN|apply Kd.R_drew));exact HO_3.out));(case aS=>exact (qaN (by repeat (first|(with_reducible first|exact HB.out|apply qaD|apply qaB|apply qaE)|exact HB.out))));(case aL=>have:=LMc4.out;omega);intro v103 w5 ho hb hg hat;rw [← Ny102.out] at ho;have n0_:=Aside0.mk (hb);have n1_:=Aside0.mk (ho);clear HB;clear HO_3;have HB:=n0_;have HO104:=n1_;clear n0_ n1_;clear ho hb hg hat))
      go_roundg k1
      case measure=>have:=HK1.out;omega
      case rel=>exact ⟨(y102),(wrap64 (x4_1+1)),(by first|rfl|(simp;done)|(simp [*];done)),H',⟨by have:=HK1.out;omega⟩,⟨by (with_reducible repeat (first|apply Kd.R_alloc|apply Kd.R_drewN|apply Kd.R_drew));exact HO104.out⟩,⟨by repeat (first|(with_reducible first|exact HB.out|apply qaD|apply qaB|apply qaE)|exact HB.out)⟩⟩
     ·rw [if_neg c4] at H
      exact absurd H (by simp)
    ·rw [if_neg c3] at H
     exact absurd H (by simp)
   ·rw [if_neg c2] at H
    have c2b0:decide (x4_1 < (l0.length:Int))=false:=decide_eq_false c2
    clear c2
    obtain rfl:=Option.some.inj H
    go_wp2
    go_ret
    exact ⟨_,by first|rfl|(simp [qaL,qaM]<;>rfl)|(simp [*,qaL,qaM]<;>rfl),by (with_reducible repeat (first|apply Kd.R_alloc|apply Kd.R_drewN|apply Kd.R_drew));exact HO_3.out,by repeat (first|(with_reducible first|exact HB.out|apply qaD|apply qaB|apply qaE)|exact HB.out)⟩
end Go.Proofs.YtojkjhaobjidlaaDoor.P
namespace Go.Proofs.YtojkjhaobjidlaaDoor.P
open Go.RowKit Go.Proofs.YtojkjhaobjidlaaDoorW.PrintWords Go.Proofs.YtojkjhaobjidlaaDoorW.PrintLast Go.Proofs.YtojkjhaobjidlaaDoorW.PrintMore
attribute [local go_sem] qbG qbH qbO qbP qbC qbD qbI qbJ
attribute [local go_sem] qbB
set_option linter.unusedVariables false
set_option linter.unusedSimpArgs false
def sawmillref50_sum.l0:Nat→List (S53)→List (S38)→List Int→Int→Int→Option (List Int × Int × Int)
 | 0,_,_,_,_,_=>none
 | k+1,x0,x1,x7,x8,x9=>if x9 < (x1.length:Int) then (if 0≤x9 then ((sawmillref50_Amount.f k x0 ((qaW x1 x9).f0) ((qaW x1 x9).f1) ((qaW x1 x9).f2) ((qaW x1 x9).f3)).bind fun bt102=>(if bt102.2=0 then (if x7.length < 17592186044416 then (sawmillref50_sum.l0 k x0 x1 (x7++[bt102.1]) (wrap64 (x8+bt102.1)) (wrap64 (x9+1))) else (none)) else (some (([]:List Int),0,bt102.2)))) else (none)) else (some (x7,x8,0))
def sawmillref50_sum.f (k:Nat) (l0:List (S53)) (l1:List (S38)):Option (List Int × Int × Int):=if (l1.length:Int) > 32 then (some (([]:List Int),0,4)) else (sawmillref50_sum.l0 k l0 l1 ([]:List Int) 0 0)
set_option maxHeartbeats 8000000 in
set_option maxRecDepth 100000 in
theorem sawmillref50_sum.calls (k:Nat) (A0:Option Addr) (c0:Nat) (l0:List (S53)) (A1:Option Addr) (c1:Nat) (l1:List (S38)) (r1:List Int) (r2:Int) (r3:Int) (w:World) (hr0:Kd.C k53 w A0 l0.length l0) (hc0:l0.length≤c0) (hr1:Kd.C k38 w A1 l1.length l1) (hc1:l1.length≤c1) (h:sawmillref50_sum.f k l0 l1=some (r1,r2,r3)) :
  Calls Tryd.prog 34 #[.slice A0 l0.length c0,.slice A1 l1.length c1] w fun e w'=>∃ v0_:Value,e=.returned (.tuple #[v0_,.int .i64 r2,.int .i64 r3])∧Kd.R (Kd.int .i64) 3 w' w.heap.size (fun _=>True) v0_ r1∧Below w.heap.size w w':=by
 have hu38:=Tryd.underlying38
 have HR0:=Aside0.mk hr0
 have HC0:=Aside0.mk hc0
 clear hr0 hc0
 have HR1:=Aside0.mk hr1
 have HC1:=Aside0.mk hc1
 clear hr1 hc1
 have HB:=Aside0.mk (Below.refl w.heap.size w)
 have H:(if (l1.length:Int) > 32 then (some (([]:List Int),0,4)) else (sawmillref50_sum.l0 k l0 l1 ([]:List Int) 0 0))=some (r1,r2,r3):=h
 clear h
 by_cases c3:(l1.length:Int) > 32
 ·rw [if_pos c3] at H
  have c3b0:decide (32 < (l1.length:Int))=true:=decide_eq_true c3
  have c3b1:decide (32 < l1.length)=true:=decide_eq_true (by omega)
  clear c3
  simp only [Option.some.injEq,Prod.mk.injEq] at H
  obtain ⟨rfl,rfl,rfl⟩:=H
  go_enter Tryd.func34,Tryd.ntmps34
  go_wp2
  go_ret3
  exact ⟨_,by first|rfl|(simp [qaL,qaM]<;>rfl)|(simp [*,qaL,qaM]<;>rfl),by first|exact Kd.R_nil _ _ _ _ _|exact Kd.N_nil _ _ _ _ _|exact Kd.V_nil _ _ _ _ _|exact Kd.Q_nil _ _ _ _ _|exact Kd.S_nil _ _ _ _ _,by repeat (first|(with_reducible first|exact HB.out|apply qaD|apply qaB|apply qaE)|exact HB.out)⟩
 ·rw [if_neg c3] at H
  have c3b0:decide (32 < (l1.length:Int))=false:=decide_eq_false c3
  have c3b1:decide (32 < l1.length)=false:=decide_eq_false (by omega)
  clear c3
  have H':=Aside0.mk H
  clear H
  go_enter Tryd.func34,Tryd.ntmps34
  go_wp2
  go_loopg [7,8,9] k (fun kq v7 v8 v9 w'=>∃ (x7_1:List Int) (x8_1:Int) (x9_1:Int),v8=.int .i64 x8_1∧v9=.int .i64 x9_1∧Aside0 (sawmillref50_sum.l0 kq l0 l1 x7_1 x8_1 x9_1=some (r1,r2,r3))∧Aside0 (kq≤k)∧Aside0 (Kd.R (Kd.int .i64) 3 w' w.heap.size (fun _=>True) v7 x7_1)∧Aside0 (Below w.heap.size w w'))
  case atStart=>exact ⟨(([]:List Int)),(0),(0),(by first|rfl|(simp;done)|(simp [*];done)),(by first|rfl|(simp;done)|(simp [*];done)),H',⟨Nat.le_refl _⟩,⟨by first|exact Kd.R_nil _ _ _ _ _|exact Kd.N_nil _ _ _ _ _|exact Kd.V_nil _ _ _ _ _|exact Kd.Q_nil _ _ _ _ _|exact Kd.S_nil _ _ _ _ _⟩,⟨by repeat (first|(with_reducible first|exact HB.out|apply qaD|apply qaB|apply qaE)|exact HB.out)⟩⟩
  case round =>
   clear H'
   try clear c1
   try clear p2
   try clear c3
   try clear c3b0
   try clear c3b1
   obtain ⟨x7_1,x8_1,x9_1,rfl,rfl,HA,HK1,HO_7,HB⟩:=hrel
   cases gk with
   | zero=>exact absurd HA.out (by simp [sawmillref50_sum.l0])
   | succ k1 =>
    have H:=HA.out
    clear HA
    simp only [sawmillref50_sum.l0] at H
    by_cases c4:x9_1 < (l1.length:Int)
    ·rw [if_pos c4] at H
     have c4b0:decide (x9_1 < (l1.length:Int))=true:=decide_eq_true c4
     clear c4
     by_cases c5:0≤x9_1
     ·rw [if_pos c5] at H
      have c5b0:decide (0≤x9_1)=true:=decide_eq_true c5
      clear c5
      replace H:=Option.bind_eq_some_iff.mp H
      obtain ⟨⟨t102,t103⟩,A60,H⟩:=H
      replace H:(if t103=0 then (if x7_1.length < 17592186044416 then (sawmillref50_sum.l0 k1 l0 l1 (x7_1++[t102]) (wrap64 (x8_1+t102)) (wrap64 (x9_1+1))) else (none)) else (some (([]:List Int),0,t103)))=some (r1,r2,r3):=H
      have A6:=Aside0.mk A60
      clear A60
      by_cases c7:t103=0
      ·rw [if_pos c7] at H
       have c7b0:(t103 == 0)=true:=beq_iff_eq.mpr c7
       have c7b1:(t103 != 0)=false:=bne_eq_false_iff_eq.mpr c7
       clear c7
       by_cases c8:x7_1.length < 17592186044416
       ·rw [if_pos c8] at H
        have LMc8:=Aside0.mk c8
        clear c8
        obtain ⟨y104,hy104⟩:∃ y_:List Int,y_=(x7_1++[t102]):=⟨_,rfl⟩
        replace H:(sawmillref50_sum.l0 k1 l0 l1 y104 (wrap64 (x8_1+t102)) (wrap64 (x9_1+1)))=some (r1,r2,r3):=by first|(rw [hy104];with_reducible exact H)|(have H2_:=(Option.bind_some _ _).symm.trans H;rw [hy104];with_reducible exact H2_)|(have H2_:=(Option.bind_some _ _).symm.trans H;with_reducible exact H2_)|with_reducible exact H|(rw [hy104];exact H)|exact H
        have Ny104:=Aside0.mk hy104
        clear hy104
        have H':=Aside0.mk H
        clear H
        have p101:0≤(x9_1:Int):=of_decide_eq_true (by first|(with_reducible assumption)|assumption)
        have q101:x9_1 < (l1.length:Int):=of_decide_eq_true (by first|(with_reducible assumption)|assumption)
        obtain ⟨ad101,e101,hx101_0,hx101_1,hx101_2,hx101_3⟩:=at_T38 HR1.out x9_1 p101 q101
        cases e101
        replace hx101_0:=(HB.out.cell (World.block_lt_of_cell? w _ hx101_0)).trans hx101_0
        replace hx101_1:=(HB.out.cell (World.block_lt_of_cell? w _ hx101_1)).trans hx101_1
        replace hx101_2:=(HB.out.cell (World.block_lt_of_cell? w _ hx101_2)).trans hx101_2
        replace hx101_3:=(HB.out.cell (World.block_lt_of_cell? w _ hx101_3)).trans hx101_3
        replace p101:=eq_true p101
        replace q101:=eq_true q101
        go_wp2_with (first|((with_reducible refine qaS (f:=15) rfl ?_);refine qbE (some 27) rfl rfl Tryd.func15 (by kernel_rfl) rfl #[.slice A0 l0.length c0,.agg #[.int .i64 ((qaW l1 x9_1).f0),.int .i64 ((qaW l1 x9_1).f1),.int .i64 ((qaW l1 x9_1).f2),.int .i64 ((qaW l1 x9_1).f3)]] rfl (by (try simp only [List.map_toArray,List.map_cons,List.map_nil]);first|done|rfl|(simp only [List.length_drop,List.length_take];rfl)) ?_;(with_reducible refine (sawmillref50_Amount.calls k1 _ _ l0 ((qaW l1 x9_1).f0) ((qaW l1 x9_1).f1) ((qaW l1 x9_1).f2) ((qaW l1 x9_1).f3) t102 t103 _ ?side1 ?side2 A6.out).mono ?_);(case side1=>repeat (first|exact (Kd.C_below HR0.out HB.out)|(with_reducible refine Kd.C_alloc ?_ _)|(with_reducible refine Kd.C_drewN ?_ _)|(with_reducible refine Kd.C_drew ?_)));(case side2=>exact HC0.out);rintro e w9 ⟨rfl,hb⟩;refine ⟨_,rfl,?_⟩;have n0_:=Aside0.mk (Kd.R_below (by (with_reducible repeat (first|apply Kd.R_alloc|apply Kd.R_drewN|apply Kd.R_drew));exact HO_7.out) hb);have n1_:=Aside0.mk (qaH (by repeat (first|(with_reducible first|exact HB.out|apply qaD|apply qaB|apply qaE)|exact HB.out)) hb);clear HO_7;clear HB;have HO_7:=n0_;have HB:=n1_;clear n0_ n1_;(try clear hb);(try clear hb2);(try clear hk);(try clear hi))|((with_reducible refine gate_builtin (b:=.append) (xs:=#[.tmp 33,.tmp 35]) rfl ?_);at_builtin;refine Kd.R_append (Kd.int .i64) (w0:=w) w.heap.size rfl (.tmp 33) (.tmp 35) 51 3 (.int .i64 0) 8 rfl Tryd.underlying51 info3 rfl (by decide) (by omega) u7 x7_1 t102 [.int .i64 t102] (fun _=>True) (fun _=>False) rfl rfl ?aP (fun _ hk=>hk.elim) ?aF ?aO ?aB ?aS ?aL ?_;(case aP=>exact rfl);(case aB=>exact (by repeat (first|(with_reducible first|exact HB.out|apply qaD|apply qaB|apply qaE)|exact HB.out)));(case aF=>exact (fun _ _=>trivial));(case aO=>exact (by (with_reducible repeat (first|apply Kd.R_alloc|apply Kd.R_drewN|apply Kd.R_drew));exact HO_7.out));(case aS=>exact (qaN (by repeat (first|(with_reducible first|exact HB.out|apply qaD|apply qaB|apply qaE)|exact HB.out))));(case aL=>have:=LMc8.out;omega);intro v105 w10 ho hb hg hat;rw [← Ny104.out] at ho;have n0_:=Aside0.mk (hb);have n1_:=Aside0.mk (ho);clear HB;clear HO_7;have HB:=n0_;have HO106:=n1_;clear n0_ n1_;clear ho hb hg hat))
        go_roundg k1
        case measure=>have:=HK1.out;omega
        case rel=>exact ⟨(y104),(wrap64 (x8_1+t102)),(wrap64 (x9_1+1)),(by first|rfl|(simp;done)|(simp [*];done)),(by first|rfl|(simp;done)|(simp [*];done)),H',⟨by have:=HK1.out;omega⟩,⟨by (with_reducible repeat (first|apply Kd.R_alloc|apply Kd.R_drewN|apply Kd.R_drew));exact HO106.out⟩,⟨by repeat (first|(with_reducible first|exact HB.out|apply qaD|apply qaB|apply qaE)|exact HB.out)⟩⟩
       ·rw [if_neg c8] at H
        exact absurd H (by simp)
      ·rw [if_neg c7] at H
       have c7b0:(t103 == 0)=false:=beq_eq_false_iff_ne.mpr c7
       have c7b1:(t103 != 0)=true:=bne_iff_ne.mpr c7
       simp only [Option.some.injEq,Prod.mk.injEq] at H
       obtain ⟨rfl,rfl,rfl⟩:=H
       have p101:0≤(x9_1:Int):=of_decide_eq_true (by first|(with_reducible assumption)|assumption)
       have q101:x9_1 < (l1.length:Int):=of_decide_eq_true (by first|(with_reducible assumption)|assumption)
       obtain ⟨ad101,e101,hx101_0,hx101_1,hx101_2,hx101_3⟩:=at_T38 HR1.out x9_1 p101 q101
       cases e101
       replace hx101_0:=(HB.out.cell (World.block_lt_of_cell? w _ hx101_0)).trans hx101_0
       replace hx101_1:=(HB.out.cell (World.block_lt_of_cell? w _ hx101_1)).trans hx101_1
       replace hx101_2:=(HB.out.cell (World.block_lt_of_cell? w _ hx101_2)).trans hx101_2
       replace hx101_3:=(HB.out.cell (World.block_lt_of_cell? w _ hx101_3)).trans hx101_3
       replace p101:=eq_true p101
       replace q101:=eq_true q101
       go_wp2_with (first|((with_reducible refine qaS (f:=15) rfl ?_);refine qbE (some 27) rfl rfl Tryd.func15 (by kernel_rfl) rfl #[.slice A0 l0.length c0,.agg #[.int .i64 ((qaW l1 x9_1).f0),.int .i64 ((qaW l1 x9_1).f1),.int .i64 ((qaW l1 x9_1).f2),.int .i64 ((qaW l1 x9_1).f3)]] rfl (by (try simp only [List.map_toArray,List.map_cons,List.map_nil]);first|done|rfl|(simp only [List.length_drop,List.length_take];rfl)) ?_;(with_reducible refine (sawmillref50_Amount.calls k1 _ _ l0 ((qaW l1 x9_1).f0) ((qaW l1 x9_1).f1) ((qaW l1 x9_1).f2) ((qaW l1 x9_1).f3) t102 t103 _ ?side1 ?side2 A6.out).mono ?_);(case side1=>repeat (first|exact (Kd.C_below HR0.out HB.out)|(with_reducible refine Kd.C_alloc ?_ _)|(with_reducible refine Kd.C_drewN ?_ _)|(with_reducible refine Kd.C_drew ?_)));(case side2=>exact HC0.out);rintro e w11 ⟨rfl,hb⟩;refine ⟨_,rfl,?_⟩;have n0_:=Aside0.mk (Kd.R_below (by (with_reducible repeat (first|apply Kd.R_alloc|apply Kd.R_drewN|apply Kd.R_drew));exact HO_7.out) hb);have n1_:=Aside0.mk (qaH (by repeat (first|(with_reducible first|exact HB.out|apply qaD|apply qaB|apply qaE)|exact HB.out)) hb);clear HO_7;clear HB;have HO_7:=n0_;have HB:=n1_;clear n0_ n1_;(try clear hb);(try clear hb2);(try clear hk);(try clear hi)))
       go_ret3
       exact ⟨_,by first|rfl|(simp [qaL,qaM]<;>rfl)|(simp [*,qaL,qaM]<;>rfl),by first|exact Kd.R_nil _ _ _ _ _|exact Kd.N_nil _ _ _ _ _|exact Kd.V_nil _ _ _ _ _|exact Kd.Q_nil _ _ _ _ _|exact Kd.S_nil _ _ _ _ _,by repeat (first|(with_reducible first|exact HB.out|apply qaD|apply qaB|apply qaE)|exact HB.out)⟩
     ·rw [if_neg c5] at H
      exact absurd H (by simp)
    ·rw [if_neg c4] at H
     have c4b0:decide (x9_1 < (l1.length:Int))=false:=decide_eq_false c4
     clear c4
     simp only [Option.some.injEq,Prod.mk.injEq] at H
     obtain ⟨rfl,rfl,rfl⟩:=H
     go_wp2
     go_ret3
     exact ⟨_,by first|rfl|(simp [qaL,qaM]<;>rfl)|(simp [*,qaL,qaM]<;>rfl),by (with_reducible repeat (first|apply Kd.R_alloc|apply Kd.R_drewN|apply Kd.R_drew));exact HO_7.out,by repeat (first|(with_reducible first|exact HB.out|apply qaD|apply qaB|apply qaE)|exact HB.out)⟩
end Go.Proofs.YtojkjhaobjidlaaDoor.P
namespace Go.Proofs.YtojkjhaobjidlaaDoor.P
open Go.RowKit Go.Proofs.YtojkjhaobjidlaaDoorW.PrintWords Go.Proofs.YtojkjhaobjidlaaDoorW.PrintLast Go.Proofs.YtojkjhaobjidlaaDoorW.PrintMore
attribute [local go_sem] qbG qbH qbO qbP qbC qbD qbI qbJ
attribute [local go_sem] qbB
set_option linter.unusedVariables false
set_option linter.unusedSimpArgs false
def sawmillref50_Total.f (k:Nat) (l0:List (S53)) (l1:List (S38)) (l2:List (S77)):Option (Int × Int):=(sawmillref50_sum.f k l0 l1).bind fun bt101=>(if bt101.2.2=0 then ((sawmillref50_Discount.f k l2 bt101.2.1).bind fun bt106=>(if bt106.2=0 then (some (wrap64 (bt101.2.1 - bt106.1),0)) else (some (0,bt106.2)))) else (some (0,bt101.2.2)))
set_option maxHeartbeats 8000000 in
set_option maxRecDepth 100000 in
theorem sawmillref50_Total.calls (k:Nat) (A0:Option Addr) (c0:Nat) (l0:List (S53)) (A1:Option Addr) (c1:Nat) (l1:List (S38)) (A2:Option Addr) (c2:Nat) (l2:List (S77)) (r1:Int) (r2:Int) (w:World) (hr0:Kd.C k53 w A0 l0.length l0) (hc0:l0.length≤c0) (hr1:Kd.C k38 w A1 l1.length l1) (hc1:l1.length≤c1) (hr2:Kd.C k77 w A2 l2.length l2) (hc2:l2.length≤c2) (h:sawmillref50_Total.f k l0 l1 l2=some (r1,r2)) :
  Calls Tryd.prog 19 #[.slice A0 l0.length c0,.slice A1 l1.length c1,.slice A2 l2.length c2] w fun e w'=>e=.returned (.tuple #[.int .i64 r1,.int .i64 r2])∧Below w.heap.size w w':=by
 have HR0:=Aside0.mk hr0
 have HC0:=Aside0.mk hc0
 clear hr0 hc0
 have HR1:=Aside0.mk hr1
 have HC1:=Aside0.mk hc1
 clear hr1 hc1
 have HR2:=Aside0.mk hr2
 have HC2:=Aside0.mk hc2
 clear hr2 hc2
 have HB:=Aside0.mk (Below.refl w.heap.size w)
 have H:((sawmillref50_sum.f k l0 l1).bind fun bt101=>(if bt101.2.2=0 then ((sawmillref50_Discount.f k l2 bt101.2.1).bind fun bt106=>(if bt106.2=0 then (some (wrap64 (bt101.2.1 - bt106.1),0)) else (some (0,bt106.2)))) else (some (0,bt101.2.2))))=some (r1,r2):=h
 clear h
 replace H:=Option.bind_eq_some_iff.mp H
 obtain ⟨⟨t101,t102,t103⟩,A40,H⟩:=H
 replace H:(if t103=0 then ((sawmillref50_Discount.f k l2 t102).bind fun bt106=>(if bt106.2=0 then (some (wrap64 (t102 - bt106.1),0)) else (some (0,bt106.2)))) else (some (0,t103)))=some (r1,r2):=H
 have A4:=Aside0.mk A40
 clear A40
 by_cases c5:t103=0
 ·rw [if_pos c5] at H
  have c5b0:(t103 == 0)=true:=beq_iff_eq.mpr c5
  have c5b1:(t103 != 0)=false:=bne_eq_false_iff_eq.mpr c5
  clear c5
  replace H:=Option.bind_eq_some_iff.mp H
  obtain ⟨⟨t106,t107⟩,A60,H⟩:=H
  replace H:(if t107=0 then (some (wrap64 (t102 - t106),0)) else (some (0,t107)))=some (r1,r2):=H
  have A6:=Aside0.mk A60
  clear A60
  by_cases c7:t107=0
  ·rw [if_pos c7] at H
   have c7b0:(t107 == 0)=true:=beq_iff_eq.mpr c7
   have c7b1:(t107 != 0)=false:=bne_eq_false_iff_eq.mpr c7
   clear c7
   simp only [Option.some.injEq,Prod.mk.injEq] at H
   obtain ⟨rfl,rfl⟩:=H
   go_enter Tryd.func19,Tryd.ntmps19
   go_wp2_with (first|((with_reducible refine qaS (f:=34) rfl ?_);refine qbE (some 15) rfl rfl Tryd.func34 (by kernel_rfl) rfl #[.slice A0 l0.length c0,.slice A1 l1.length c1] rfl (by (try simp only [List.map_toArray,List.map_cons,List.map_nil]);first|done|rfl|(simp only [List.length_drop,List.length_take];rfl)) ?_;(with_reducible refine (sawmillref50_sum.calls k _ _ l0 _ _ l1 t101 t102 t103 _ ?side1 ?side2 ?side3 ?side4 A4.out).mono ?_);(case side1=>repeat (first|exact HR0.out|(with_reducible refine Kd.C_alloc ?_ _)|(with_reducible refine Kd.C_drewN ?_ _)|(with_reducible refine Kd.C_drew ?_)));(case side2=>exact HC0.out);(case side3=>repeat (first|exact HR1.out|(with_reducible refine Kd.C_alloc ?_ _)|(with_reducible refine Kd.C_drewN ?_ _)|(with_reducible refine Kd.C_drew ?_)));(case side4=>exact HC1.out);rintro e w8 ⟨v104,rfl,ho0,hb⟩;refine ⟨_,rfl,?_⟩;have n0_:=Aside0.mk (Kd.R_lower ho0 (qaN (by repeat (first|(with_reducible first|exact HB.out|apply qaD|apply qaB|apply qaE)|exact HB.out))));have n1_:=Aside0.mk (qaH (by repeat (first|(with_reducible first|exact HB.out|apply qaD|apply qaB|apply qaE)|exact HB.out)) hb);clear HB;have HO105:=n0_;have HB:=n1_;clear n0_ n1_;(try clear hb);(try clear hb2);(try clear hk);(try clear hi);(try clear ho0))|((with_reducible refine qaS (f:=17) rfl ?_);refine qbE (some 25) rfl rfl Tryd.func17 (by kernel_rfl) rfl #[.slice A2 l2.length c2,.int .i64 t102] rfl (by (try simp only [List.map_toArray,List.map_cons,List.map_nil]);first|done|rfl|(simp only [List.length_drop,List.length_take];rfl)) ?_;(with_reducible refine (sawmillref50_Discount.calls k _ _ l2 t102 t106 t107 _ ?side1 ?side2 A6.out).mono ?_);(case side1=>repeat (first|exact (Kd.C_below HR2.out HB.out)|(with_reducible refine Kd.C_alloc ?_ _)|(with_reducible refine Kd.C_drewN ?_ _)|(with_reducible refine Kd.C_drew ?_)));(case side2=>exact HC2.out);rintro e w' ⟨rfl,⟨nd,rfl⟩⟩;refine ⟨_,rfl,?_⟩))
   go_ret2
   exact ⟨by first|rfl|(simp [qaL,qaM]<;>rfl)|(simp [*,qaL,qaM]<;>rfl),by repeat (first|(with_reducible first|exact HB.out|apply qaD|apply qaB|apply qaE)|exact HB.out)⟩
  ·rw [if_neg c7] at H
   have c7b0:(t107 == 0)=false:=beq_eq_false_iff_ne.mpr c7
   have c7b1:(t107 != 0)=true:=bne_iff_ne.mpr c7
   simp only [Option.some.injEq,Prod.mk.injEq] at H
   obtain ⟨rfl,rfl⟩:=H
   go_enter Tryd.func19,Tryd.ntmps19
   go_wp2_with (first|((with_reducible refine qaS (f:=34) rfl ?_);refine qbE (some 15) rfl rfl Tryd.func34 (by kernel_rfl) rfl #[.slice A0 l0.length c0,.slice A1 l1.length c1] rfl (by (try simp only [List.map_toArray,List.map_cons,List.map_nil]);first|done|rfl|(simp only [List.length_drop,List.length_take];rfl)) ?_;(with_reducible refine (sawmillref50_sum.calls k _ _ l0 _ _ l1 t101 t102 t103 _ ?side1 ?side2 ?side3 ?side4 A4.out).mono ?_);(case side1=>repeat (first|exact HR0.out|(with_reducible refine Kd.C_alloc ?_ _)|(with_reducible refine Kd.C_drewN ?_ _)|(with_reducible refine Kd.C_drew ?_)));(case side2=>exact HC0.out);(case side3=>repeat (first|exact HR1.out|(with_reducible refine Kd.C_alloc ?_ _)|(with_reducible refine Kd.C_drewN ?_ _)|(with_reducible refine Kd.C_drew ?_)));(case side4=>exact HC1.out);rintro e w9 ⟨v104,rfl,ho0,hb⟩;refine ⟨_,rfl,?_⟩;have n0_:=Aside0.mk (Kd.R_lower ho0 (qaN (by repeat (first|(with_reducible first|exact HB.out|apply qaD|apply qaB|apply qaE)|exact HB.out))));have n1_:=Aside0.mk (qaH (by repeat (first|(with_reducible first|exact HB.out|apply qaD|apply qaB|apply qaE)|exact HB.out)) hb);clear HB;have HO105:=n0_;have HB:=n1_;clear n0_ n1_;(try clear hb);(try clear hb2);(try clear hk);(try clear hi);(try clear ho0))|((with_reducible refine qaS (f:=17) rfl ?_);refine qbE (some 25) rfl rfl Tryd.func17 (by kernel_rfl) rfl #[.slice A2 l2.length c2,.int .i64 t102] rfl (by (try simp only [List.map_toArray,List.map_cons,List.map_nil]);first|done|rfl|(simp only [List.length_drop,List.length_take];rfl)) ?_;(with_reducible refine (sawmillref50_Discount.calls k _ _ l2 t102 t106 t107 _ ?side1 ?side2 A6.out).mono ?_);(case side1=>repeat (first|exact (Kd.C_below HR2.out HB.out)|(with_reducible refine Kd.C_alloc ?_ _)|(with_reducible refine Kd.C_drewN ?_ _)|(with_reducible refine Kd.C_drew ?_)));(case side2=>exact HC2.out);rintro e w' ⟨rfl,⟨nd,rfl⟩⟩;refine ⟨_,rfl,?_⟩))
   go_ret2
   exact ⟨by first|rfl|(simp [qaL,qaM]<;>rfl)|(simp [*,qaL,qaM]<;>rfl),by repeat (first|(with_reducible first|exact HB.out|apply qaD|apply qaB|apply qaE)|exact HB.out)⟩
 ·rw [if_neg c5] at H
  have c5b0:(t103 == 0)=false:=beq_eq_false_iff_ne.mpr c5
  have c5b1:(t103 != 0)=true:=bne_iff_ne.mpr c5
  simp only [Option.some.injEq,Prod.mk.injEq] at H
  obtain ⟨rfl,rfl⟩:=H
  go_enter Tryd.func19,Tryd.ntmps19
  go_wp2_with (first|((with_reducible refine qaS (f:=34) rfl ?_);refine qbE (some 15) rfl rfl Tryd.func34 (by kernel_rfl) rfl #[.slice A0 l0.length c0,.slice A1 l1.length c1] rfl (by (try simp only [List.map_toArray,List.map_cons,List.map_nil]);first|done|rfl|(simp only [List.length_drop,List.length_take];rfl)) ?_;(with_reducible refine (sawmillref50_sum.calls k _ _ l0 _ _ l1 t101 t102 t103 _ ?side1 ?side2 ?side3 ?side4 A4.out).mono ?_);(case side1=>repeat (first|exact HR0.out|(with_reducible refine Kd.C_alloc ?_ _)|(with_reducible refine Kd.C_drewN ?_ _)|(with_reducible refine Kd.C_drew ?_)));(case side2=>exact HC0.out);(case side3=>repeat (first|exact HR1.out|(with_reducible refine Kd.C_alloc ?_ _)|(with_reducible refine Kd.C_drewN ?_ _)|(with_reducible refine Kd.C_drew ?_)));(case side4=>exact HC1.out);rintro e w10 ⟨v104,rfl,ho0,hb⟩;refine ⟨_,rfl,?_⟩;have n0_:=Aside0.mk (Kd.R_lower ho0 (qaN (by repeat (first|(with_reducible first|exact HB.out|apply qaD|apply qaB|apply qaE)|exact HB.out))));have n1_:=Aside0.mk (qaH (by repeat (first|(with_reducible first|exact HB.out|apply qaD|apply qaB|apply qaE)|exact HB.out)) hb);clear HB;have HO105:=n0_;have HB:=n1_;clear n0_ n1_;(try clear hb);(try clear hb2);(try clear hk);(try clear hi);(try clear ho0)))
  go_ret2
  exact ⟨by first|rfl|(simp [qaL,qaM]<;>rfl)|(simp [*,qaL,qaM]<;>rfl),by repeat (first|(with_reducible first|exact HB.out|apply qaD|apply qaB|apply qaE)|exact HB.out)⟩
end Go.Proofs.YtojkjhaobjidlaaDoor.P
namespace Go.Proofs.YtojkjhaobjidlaaDoor.P
open Go.RowKit Go.Proofs.YtojkjhaobjidlaaDoorW.PrintWords Go.Proofs.YtojkjhaobjidlaaDoorW.PrintLast Go.Proofs.YtojkjhaobjidlaaDoorW.PrintMore
attribute [local go_sem] qbG qbH qbO qbP qbC qbD qbI qbJ
attribute [local go_sem] qbB
set_option linter.unusedVariables false
set_option linter.unusedSimpArgs false
def sawmillref50_decimal.f:Nat→Int→Option (ByteArray)
 | 0,_=>none
 | k+1,a0=>(some (([(wrap64 (48+(Int.tmod a0 10))) % 256]:List Int):List Int)).bind fun y101=>(if a0 < 10 then (some (strOfNums y101)) else ((sawmillref50_decimal.f k (wrap64 (Int.tdiv a0 10))).bind fun t104=>(if t104.size+(strOfNums y101).size≤9223372036854775807 then (some (t104++(strOfNums y101))) else (none))))
set_option maxHeartbeats 8000000 in
set_option maxRecDepth 100000 in
theorem sawmillref50_decimal.calls (k:Nat):∀ (a0:Int) (r:ByteArray) (w:World) (h:sawmillref50_decimal.f k a0=some r),
  Calls Tryd.prog 35 #[.int .i64 a0] w fun e w'=>e=.returned (.string r)∧Below w.heap.size w w':=by
 induction k using Nat.strongRecOn with
 | _ k ih =>
 intro a0 r w h
 cases k with
 | zero=>exact absurd h (by simp [sawmillref50_decimal.f])
 | succ k =>
 simp only [sawmillref50_decimal.f] at h
 have HB:=Aside0.mk (Below.refl w.heap.size w)
 have H:((some (([(wrap64 (48+(Int.tmod a0 10))) % 256]:List Int):List Int)).bind fun y101=>(if a0 < 10 then (some (strOfNums y101)) else ((sawmillref50_decimal.f k (wrap64 (Int.tdiv a0 10))).bind fun t104=>(if t104.size+(strOfNums y101).size≤9223372036854775807 then (some (t104++(strOfNums y101))) else (none)))))=some r:=h
 clear h
 obtain ⟨y101,hy101⟩:∃ y_:List Int,y_=(([(wrap64 (48+(Int.tmod a0 10))) % 256]:List Int)):=⟨_,rfl⟩
 replace H:(if a0 < 10 then (some (strOfNums y101)) else ((sawmillref50_decimal.f k (wrap64 (Int.tdiv a0 10))).bind fun t104=>(if t104.size+(strOfNums y101).size≤9223372036854775807 then (some (t104++(strOfNums y101))) else (none))))=some r:=by first|(rw [hy101];with_reducible exact H)|(have H2_:=(Option.bind_some _ _).symm.trans H;rw [hy101];with_reducible exact H2_)|(have H2_:=(Option.bind_some _ _).symm.trans H;with_reducible exact H2_)|with_reducible exact H|(rw [hy101];exact H)|exact H
 have Ny101:=Aside0.mk hy101
 clear hy101
 by_cases c2:a0 < 10
 ·rw [if_pos c2] at H
  have c2b0:decide (a0 < 10)=true:=decide_eq_true c2
  clear c2
  obtain rfl:=Option.some.inj H
  go_enter Tryd.func35,Tryd.ntmps35
  go_wp2_with (first|((with_reducible refine qaV (N:=8) rfl ?_);refine Kd.R_lit (Kd.int .u8) _ 5 ?hg (N:=8) ?hd (xs:=([(wrap64 (48+(Int.tmod a0 10))) % 256]:List Int)) (inner:=[.int .u8 ((wrap64 (48+(Int.tmod a0 10))) % 256)]) (ok:=fun _=>True) (okp:=fun _=>True) ?hr ?hp (fun _ hk=>hk) trivial (Below.refl _ _) (Nat.le_refl _) (by simp) ?_;(case hd=>rfl);(case hg=>rfl);(case hr=>first|(go_simp;done)|(go_simp;rfl));(case hp=>exact (Reps.one (show Kd.M (Kd.int .u8) _ _ _ ((wrap64 (48+(Int.tmod a0 10))) % 256) [.int .u8 ((wrap64 (48+(Int.tmod a0 10))) % 256)] from rfl) (Reps.none _ _)));intro v102 w3 ho4 hb hg_ hnew_;clear hg_ hnew_;(first|rw [← Ny101.out] at ho4|(simp only [Int.reduceToNat] at ho4;rw [← Ny101.out] at ho4));have n0_:=Aside0.mk (Kd.R_lower ho4 (qaN (by repeat (first|(with_reducible first|exact HB.out|apply qaD|apply qaB|apply qaE)|exact HB.out))));have n1_:=Aside0.mk (qaH (by repeat (first|(with_reducible first|exact HB.out|apply qaD|apply qaB|apply qaE)|exact HB.out)) hb);clear HB;have HO103:=n0_;have HB:=n1_;clear n0_ n1_;clear hb ho4;have hcv5:=own_string (P:=Tryd.prog) Tryd.underlying63 Tryd.underlying5 Tryd.underlying9 (Kd.own_of_R HO103.out)))
  go_ret
  exact ⟨by first|rfl|(simp [qaL,qaM]<;>rfl)|(simp [*,qaL,qaM]<;>rfl),by repeat (first|(with_reducible first|exact HB.out|apply qaD|apply qaB|apply qaE)|exact HB.out)⟩
 ·rw [if_neg c2] at H
  have c2b0:decide (a0 < 10)=false:=decide_eq_false c2
  clear c2
  replace H:=Option.bind_eq_some_iff.mp H
  obtain ⟨t104,A60,H⟩:=H
  replace H:(if t104.size+(strOfNums y101).size≤9223372036854775807 then (some (t104++(strOfNums y101))) else (none))=some r:=H
  have A6:=Aside0.mk A60
  clear A60
  by_cases c7:t104.size+(strOfNums y101).size≤9223372036854775807
  ·rw [if_pos c7] at H
   have c7b0:=eq_true c7
   have c7b1:decide (t104.size+(strOfNums y101).size≤9223372036854775807)=true:=decide_eq_true c7
   try have c7b2:(9223372036854775807 < t104.size+(strOfNums y101).size)=False:=eq_false (Nat.not_lt.2 c7)
   obtain rfl:=Option.some.inj H
   go_enter Tryd.func35,Tryd.ntmps35
   go_wp2_with (first|((with_reducible refine qaV (N:=8) rfl ?_);refine Kd.R_lit (Kd.int .u8) _ 5 ?hg (N:=8) ?hd (xs:=([(wrap64 (48+(Int.tmod a0 10))) % 256]:List Int)) (inner:=[.int .u8 ((wrap64 (48+(Int.tmod a0 10))) % 256)]) (ok:=fun _=>True) (okp:=fun _=>True) ?hr ?hp (fun _ hk=>hk) trivial (Below.refl _ _) (Nat.le_refl _) (by simp) ?_;(case hd=>rfl);(case hg=>rfl);(case hr=>first|(go_simp;done)|(go_simp;rfl));(case hp=>exact (Reps.one (show Kd.M (Kd.int .u8) _ _ _ ((wrap64 (48+(Int.tmod a0 10))) % 256) [.int .u8 ((wrap64 (48+(Int.tmod a0 10))) % 256)] from rfl) (Reps.none _ _)));intro v102 w8 ho9 hb hg_ hnew_;clear hg_ hnew_;(first|rw [← Ny101.out] at ho9|(simp only [Int.reduceToNat] at ho9;rw [← Ny101.out] at ho9));have n0_:=Aside0.mk (Kd.R_lower ho9 (qaN (by repeat (first|(with_reducible first|exact HB.out|apply qaD|apply qaB|apply qaE)|exact HB.out))));have n1_:=Aside0.mk (qaH (by repeat (first|(with_reducible first|exact HB.out|apply qaD|apply qaB|apply qaE)|exact HB.out)) hb);clear HB;have HO103:=n0_;have HB:=n1_;clear n0_ n1_;clear hb ho9;have hcv10:=own_string (P:=Tryd.prog) Tryd.underlying63 Tryd.underlying5 Tryd.underlying9 (Kd.own_of_R HO103.out))|((with_reducible refine qaS (f:=35) rfl ?_);refine qbE (some 15) rfl rfl Tryd.func35 (by kernel_rfl) rfl #[.int .i64 (wrap64 (Int.tdiv a0 10))] rfl (by (try simp only [List.map_toArray,List.map_cons,List.map_nil]);first|done|rfl|(simp only [List.length_drop,List.length_take];rfl)) ?_;(with_reducible refine (ih k (by omega) (wrap64 (Int.tdiv a0 10)) t104 _ A6.out).mono ?_);rintro e w11 ⟨rfl,hb⟩;refine ⟨_,rfl,?_⟩;have n0_:=Aside0.mk (Kd.R_below (by (with_reducible repeat (first|apply Kd.R_alloc|apply Kd.R_drewN|apply Kd.R_drew));exact HO103.out) hb);have n1_:=Aside0.mk (qaH (by repeat (first|(with_reducible first|exact HB.out|apply qaD|apply qaB|apply qaE)|exact HB.out)) hb);clear HO103;clear HB;have HO103:=n0_;have HB:=n1_;clear n0_ n1_;(try clear hb);(try clear hb2);(try clear hk);(try clear hi)))
   go_ret
   exact ⟨by first|rfl|(simp [qaL,qaM]<;>rfl)|(simp [*,qaL,qaM]<;>rfl),by repeat (first|(with_reducible first|exact HB.out|apply qaD|apply qaB|apply qaE)|exact HB.out)⟩
  ·rw [if_neg c7] at H
   exact absurd H (by simp)
end Go.Proofs.YtojkjhaobjidlaaDoor.P
